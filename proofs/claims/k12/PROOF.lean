import PyProof.Rows.All
import Wide.All
import OpenK.AllK
import Wide.FinOn
import PySem.Challenge.RW_unlikebins_k12_whole_counts_and_totals_b
import HandS.ForMost
import HandS.Wide
import HandS.TupAny
import HandS.TupMul
import HandS.IsInst
import HandS.WideBits
import HandS.RaiseMore
import HandS.Style
import HandS.Deep
import HandS.Defaults
import HandS.Zip
import HandS.Walk
import HandS.Iter
import HandS.NoneIn
import HandS.HeadEnd
import HandS.Head0
import HandS.Head1
import HandS.Head2
import HandS.HeadHook1
import HandS.HeadHook2
import Open.Row
set_option Elab.async false
set_option linter.all false
set_option maxRecDepth 100000
set_option maxHeartbeats 4000000
set_option exponentiation.threshold 300
/-! a small language: values, its texts, what they come to -/
namespace Mn
open PySem L2
/-- a value: a piece of data by itself, or a thing of the store -/
inductive D where
  | non | bl (b : Bool) | int (i : Int) | str (x : Str)
  | tup (xs : List D) | lst (xs : List D) | scr (ns : List Int)
  | dic (kvs : List (Key × D)) | ins (c : Nat) (fs : List (Nat × D)) | obj (n : Nat) | cls (c : Nat) | ty (n : String)
/-- what stands in the store -/
inductive SO where
  | lst (xs : List D) | dct (kvs : List (Key × D)) | ins (c : Nat) (fs : List (Nat × D)) | dead
abbrev Sto := List SO
/-- what a slot of a frame holds: a value, or a list | dict that is its own -/
inductive SV where
  | val (d : D) | olst (xs : List D) | odct (kvs : List (Key × D))
abbrev Frm := List (Option SV)
inductive Out (α : Type) where
  | ok (a : α) (S : Sto) | exc (e : D) (S : Sto) | bad
def Out.bind {α β : Type} (o : Out α) (f : α → Sto → Out β) : Out β :=
  match o with
  | .ok a S => f a S
  | .exc e S => .exc e S
  | .bad => .bad
/-- built-in functions by their values -/
inductive Bi where
  | len | abs | int | str | repr | all | any | sum | max | min | tuple | list | divmod | sorted | isinst
  | range
  deriving DecidableEq
/-- built-in methods -/
inductive Me where
  | split | join | get | index | count | upper | replace | partition | items
  deriving DecidableEq
mutual
/-- an expression -/
inductive ME where
  | var (i : Nat) | cst (d : D) | glob (x : Nat)
  | bin (op : Operator) (a b : ME) | neg (a : ME)
  | cmp (op : CmpOp) (a b : ME) | chain (o1 o2 : CmpOp) (a b c : ME)
  | and (a b : ME) | or (a b : ME) | not (a : ME)
  | ife (t : MT) (a b : ME)
  | tup (es : List ME) | lst (es : List ME) | ref (es : List ME)
  | call (f : Nat) (es : List ME) | callK (f : Nat) (es : List ME) (ks : List Nat) (vs : List ME)
  | blt (b : Bi) (es : List ME)
  | sub (a i : ME) | sl (a : ME) (lo hi : Option ME) | rev (a : ME)
  | lc (own : List Nat) (g : MG) (src : MI) (tt : List MT) (e : ME)
  | meth (m : Me) (a : ME) (es : List ME)
/-- a test -/
inductive MT where
  | val (e : ME) | cmp (op : CmpOp) (a b : ME) | chain (o1 o2 : CmpOp) (a b c : ME)
  | and (a b : MT) | or (a b : MT) | not (a : MT) | tru (e : ME)
/-- what is walked -/
inductive MI where
  | lst (e : ME) | tup (e : ME) | rng1 (a : ME) | rng2 (a b : ME) | zip (a b : ME) | enum (a : ME)
/-- a target -/
inductive MG where
  | name (i : Nat) | tup (gs : List MG) | sub (o i : ME)
end
/-- what a name is given: a value, or a new list of its own -/
inductive MR where
  | val (e : ME) | lst (es : List ME)
/-- a statement -/
inductive MS where
  | set (i : Nat) (r : MR) | setLc (i : Nat) (o : Bool) (e : ME)
  | par (is : List Nat) (rs : List MR) | asg (g : MG) (e : ME)
  | aug (i : Nat) (op : Operator) (e : ME)
  | freeze (i : Nat) | append (i : Nat) (e : ME)
  | expr (e : ME) | ret (e : ME) | retN
  | ife (t : MT) (a b : List MS)
  | forr (g : MG) (src : MI) (b : List MS) | whil (t : MT) (b : List MS)
  | brk | cont | pass | never
/-! ### data -/
mutual
def D.py : D → Option PyData
  | .non => some .none
  | .bl b => some (.bool b)
  | .int i => some (.int i)
  | .str x => some (.str x)
  | .tup xs => (pyAll xs).map .tuple
  | .lst xs => (pyAll xs).map .list
  | _ => none
def pyAll : List D → Option (List PyData)
  | [] => some []
  | d :: ds => match d.py, pyAll ds with
    | some p, some ps => some (p :: ps)
    | _, _ => none
end
def mulOk (i j : Int) : Bool := decide (-(2 ^ 64) < i ∧ i < 2 ^ 64) || decide (-(2 ^ 64) < j ∧ j < 2 ^ 64) || decide (i.natAbs.log2 + j.natAbs.log2 < 1000000)
def divOk (j : Int) : Bool := decide (0 < j) && decide (j.natAbs.log2 < 9000)
def powOk (i j : Int) : Bool := decide (0 ≤ j) && decide (j ≤ 1000000) && decide (i.natAbs < 2 ^ 64)
def repOk (n : Nat) (k : Int) : Bool := decide (0 < n) && decide (2 ≤ k) && decide (k ≤ 1000) && decide (n ≤ 1000)
def binD : Operator → D → D → Option D
  | .Add, .int i, .int j => some (.int (i + j))
  | .Add, .str a, .str b => if a.length + b.length ≤ sizeLine then some (.str (a ++ b)) else none
  | .Add, .lst a, .lst b => if a.length + b.length ≤ sizeLine then some (.lst (a ++ b)) else none
  | .Add, .tup a, .tup b => if a.length + b.length ≤ sizeLine then some (.tup (a ++ b)) else none
  | .Sub, .int i, .int j => some (.int (i - j))
  | .Mult, .int i, .int j => if mulOk i j then some (.int (i * j)) else none
  | .Mult, .tup a, .int k => if repOk a.length k then some (.tup (List.replicate k.toNat a).flatten) else none
  | .FloorDiv, .int i, .int j => if divOk j then some (.int (i / j)) else none
  | .Mod, .int i, .int j => if 0 < j then some (.int (i % j)) else none
  | .Pow, .int i, .int j => if powOk i j then some (.int (i ^ j.toNat)) else none
  | _, _, _ => none
def augD : Operator → D → D → Option D
  | .Add, .int i, .int j => some (.int (i + j))
  | .Sub, .int i, .int j => some (.int (i - j))
  | _, _, _ => none
def eqD (d e : D) : Option Bool :=
  match d.py, e.py with
  | some p, some q => if SeqAt.shaped p && SeqAt.shaped q then some (PyData.eqv p q) else none
  | _, _ => none
/-- == of scalars -/
def sclD : D → D → Option Bool
  | .non, .non => some true
  | .non, .int _ => some false
  | .non, .bl _ => some false
  | .non, .str _ => some false
  | .int _, .non => some false
  | .bl _, .non => some false
  | .str _, .non => some false
  | .int i, .int j => some (decide (i = j))
  | .bl i, .bl j => some (decide (i = j))
  | .str i, .str j => some (decide (i = j))
  | .int _, .str _ => some false
  | .str _, .int _ => some false
  | .bl _, .str _ => some false
  | .str _, .bl _ => some false
  | _, _ => none
def eqA (a b : D) : Option Bool := match sclD a b with
  | some r => some r
  | none => eqD a b
def isN : D → Bool
  | .non => true
  | _ => false
/-- one of several -/
def inD (d : D) (es : List D) : Option Bool :=
  match d.py, pyAll es with
  | some p, some qs => if SeqAt.shaped p && SeqAt.shaped (.list qs) then some (qs.any fun q => PyData.eqv q p) else none
  | _, _ => none
def flatD : D → Bool
  | .non => true
  | .bl _ => true
  | .int _ => true
  | .str _ => true
  | _ => false
def eqF : D → D → Bool
  | .non, .non => true
  | .bl a, .bl b => a == b
  | .bl a, .int b => (if a then 1 else 0) == b
  | .int a, .bl b => a == (if b then 1 else 0)
  | .int a, .int b => a == b
  | .str a, .str b => a == b
  | _, _ => false
/-- one of several flat things -/
def inF (d : D) (es : List D) : Option Bool := if flatD d && es.all flatD then some (es.any fun e => eqF e d) else none
def cmpD : CmpOp → D → D → Option Bool
  | .Lt, .int i, .int j => some (decide (i < j))
  | .LtE, .int i, .int j => some (decide (i ≤ j))
  | .Gt, .int i, .int j => some (decide (j < i))
  | .GtE, .int i, .int j => some (decide (j ≤ i))
  | .Eq, a, b => eqA a b
  | .NotEq, a, b => (eqA a b).map (!·)
  | .Is, .bl a, .bl b => some (decide (a = b))
  | .IsNot, .bl a, .bl b => some (!decide (a = b))
  | .Is, a, .non => some (isN a)
  | .IsNot, a, .non => some (!isN a)
  | .In, .str a, .str b => some (!(Builtin.Str.occurrences b a 0 b.length 1).isEmpty)
  | .NotIn, .str a, .str b => some (!(!(Builtin.Str.occurrences b a 0 b.length 1).isEmpty))
  | .In, a, .lst b => inD a b
  | .NotIn, a, .lst b => (inD a b).map (!·)
  | .In, a, .tup b => inF a b
  | .NotIn, a, .tup b => (inF a b).map (!·)
  | _, _, _ => none
/-- a list's items, in the store or by itself -/
def rdL (S : Sto) : D → Option (List D)
  | .lst xs => some xs
  | .scr ns => some (ns.map D.int)
  | .obj n => match S[n]? with
    | some (.lst xs) => some xs
    | _ => none
  | _ => none
/-- a list's items that stay as they are -/
def rdF : D → Option (List D)
  | .lst xs => some xs
  | .scr ns => some (ns.map D.int)
  | _ => none
/-- a list or a tuple that stays -/
def rdS : D → Option (Bool × List D)
  | .lst xs => some (true, xs)
  | .scr ns => some (true, ns.map D.int)
  | .tup xs => some (false, xs)
  | _ => none
def intsD : List D → Option (List Int)
  | [] => some []
  | .int i :: r => (intsD r).map (i :: ·)
  | _ :: _ => none
def blsD : List D → Option (List Bool)
  | [] => some []
  | .bl b :: r => (blsD r).map (b :: ·)
  | _ :: _ => none
def isTy : D → String → Option Bool
  | .non, T => kitB "NoneType" T
  | .bl _, T => kitB "bool" T
  | .int _, T => kitB "int" T
  | .str _, T => kitB "str" T
  | .tup _, T => kitB "tuple" T
  | .lst _, T => kitB "list" T
  | .dic _, T => kitB "dict" T
  | _, _ => none
def showD (d : D) : Option Str :=
  match d.py with
  | some p => if p.showable && decide (p.depth ≤ 60) && !p.hasDict && decide (p.shown.length ≤ sizeLine) then some p.shown else none
  | none => none
def blD (S : Sto) : Bi → List D → Option D
  | .len, [.str z] => if z.length ≤ sizeLine then some (.int z.length) else none
  | .len, [.tup xs] => some (.int xs.length)
  | .len, [d] => (rdL S d).map fun xs => .int xs.length
  | .abs, [.int i] => some (.int (if i < 0 then -i else i))
  | .int, [.int i] => some (.int i)
  | .int, [.bl b] => some (.int (if b then 1 else 0))
  | .int, [.str a] => if a.length ≤ 640 then (PySem.intText? a).map .int else none
  | .str, [.int i] => if i.natAbs.log2 < 1920 then some (.str (toString i)) else none
  | .str, [.str a] => some (.str a)
  | .repr, [d] => (showD d).map .str
  | .all, [.lst xs] => (blsD xs).map fun bs => .bl (bs.all id)
  | .any, [.lst xs] => (blsD xs).map fun bs => .bl (bs.any id)
  | .sum, [.lst xs] => (intsD xs).map fun ns => .int ns.sum
  | .max, [.int i, .int j] => some (.int (if j > i then j else i))
  | .min, [.int i, .int j] => some (.int (if j < i then j else i))
  | .tuple, [.tup xs] => some (.tup xs)
  | .tuple, [.lst xs] => some (.tup xs)
  | .list, [.tup xs] => some (.lst xs)
  | .list, [.lst xs] => some (.lst xs)
  | .divmod, [.int i, .int j] => if divOk j then some (.tup [.int (i / j), .int (i % j)]) else none
  | .isinst, [d, .ty T] => (isTy d T).map .bl
  | _, _ => none
def subD (S : Sto) : D → D → Option D
  | .tup xs, .int i => atI xs i
  | .str z, .int i => if z.length ≤ sizeLine then (atI z.cps.toList i).map fun c => .str ⟨#[c]⟩ else none
  | d, .int i => (rdL S d).bind fun xs => atI xs i
  | _, _ => none
def cutL (xs : List D) (lo hi : Option Int) : List D := (xs.drop (HT.sIx xs.length 0 lo)).take (HT.sIx xs.length xs.length hi - HT.sIx xs.length 0 lo)
def slD (S : Sto) (lo hi : Option Int) : D → Option D
  | .tup xs => some (.tup (cutL xs lo hi))
  | .str z => if z.length ≤ sizeLine then some (.str (cutS z lo hi)) else none
  | d => (rdL S d).map fun xs => .lst (cutL xs lo hi)
def meD : Me → D → List D → Option D
  | .split, .str a, [.str b] => if (b.length == 0) = false ∧ a.length + 2 ≤ sizeLine then some (.lst ((Txt.split a b).map .str)) else none
  | _, _, _ => none
/-! ### what expressions come to -/
def opt {α : Type} (o : Option α) (S : Sto) : Out α :=
  match o with
  | some a => .ok a S
  | none => .bad
def foldO {α : Type} (f : α → D → Sto → Out α) : α → List D → Sto → Out α
  | a, [], S => .ok a S
  | a, x :: xs, S => (f a x S).bind fun a S => foldO f a xs S
def wipeF (fr : Frm) : List Nat → Frm
  | [] => fr
  | v :: vs => (wipeF fr vs).set v none
def intO : D → Option Int
  | .int i => some i
  | _ => none
def boolO : D → Option Bool
  | .bl b => some b
  | _ => none
def truD (S : Sto) : D → Option Bool
  | .non => some false
  | .bl b => some b
  | .int i => some (i != 0)
  | .str z => if z.length ≤ sizeLine then some ((z.length : Int) != 0) else none
  | .tup xs => some (!xs.isEmpty)
  | d => (rdL S d).map fun xs => !xs.isEmpty
def rngD (lo hi : Int) : Option (List D) :=
  if -(2 ^ 62) ≤ lo ∧ lo < 2 ^ 62 ∧ -(2 ^ 62) ≤ hi ∧ hi < 2 ^ 62 then some ((List.range (hi - lo).toNat).map fun i => .int (lo + (i : Nat))) else none
def zipD (xs ys : List D) : List D := (xs.zip ys).map fun p => .tup [p.1, p.2]
def zipO (x y : D) : Option (List D) :=
  match rdS x, rdS y with
  | some (a, xs), some (b, ys) => if a = b then some (zipD xs ys) else none
  | _, _ => none
def enumD (xs : List D) : List D := xs.zipIdx.map fun p => .tup [.int p.2, p.1]
def setD (S : Sto) (n : Nat) (i : Int) (d : D) : Option Sto :=
  match S[n]? with
  | some (.lst xs) => match ixN xs.length i with
    | some j => some (S.set n (.lst (xs.set j d)))
    | none => none
  | _ => none
section
variable (cl : Nat → List D → Sto → Out D) (gl : Nat → Option D)
mutual
def ev (fr : Frm) : ME → Sto → Out D
  | .var i, S => match fr[i]? with
    | some (some (.val d)) => .ok d S
    | _ => .bad
  | .cst d, S => .ok d S
  | .glob x, S => opt (gl x) S
  | .bin op a b, S => (ev fr a S).bind fun x S => (ev fr b S).bind fun y S => opt (binD op x y) S
  | .neg a, S => (ev fr a S).bind fun x S => opt ((intO x).map fun i => .int (-i)) S
  | .cmp op a b, S => (ev fr a S).bind fun x S => (ev fr b S).bind fun y S => opt ((cmpD op x y).map .bl) S
  | .chain o1 o2 a b c, S => (ev fr a S).bind fun x S => (ev fr b S).bind fun y S => (opt (cmpD o1 x y) S).bind fun k S =>
    if k then (ev fr c S).bind fun z S => opt ((cmpD o2 y z).map .bl) S else .ok (.bl false) S
  | .and a b, S => (ev fr a S).bind fun x S => (opt (boolO x) S).bind fun k S => if k then ev fr b S else .ok (.bl false) S
  | .or a b, S => (ev fr a S).bind fun x S => (opt (boolO x) S).bind fun k S => if k then .ok (.bl true) S else ev fr b S
  | .not a, S => (ev fr a S).bind fun x S => (opt (boolO x) S).bind fun k S => .ok (.bl (!k)) S
  | .ife t a b, S => (evT fr t S).bind fun k S => if k then ev fr a S else ev fr b S
  | .tup es, S => (evs fr es S).bind fun xs S => .ok (.tup xs) S
  | .lst es, S => (evs fr es S).bind fun xs S => .ok (.lst xs) S
  | .ref es, S => (evs fr es S).bind fun xs S => .ok (.obj S.length) (S ++ [.lst xs])
  | .call f es, S => (evs fr es S).bind fun xs S => cl f xs S
  | .callK f es ks vs, S => (evs fr es S).bind fun xs S => (evs fr vs S).bind fun ys S => cl f (xs ++ ks.map fun k => ys.getD k .non) S
  | .blt b es, S => (evs fr es S).bind fun xs S => opt (blD S b xs) S
  | .sub a i, S => (ev fr a S).bind fun x S => (ev fr i S).bind fun y S => opt (subD S x y) S
  | .sl a lo hi, S => (ev fr a S).bind fun x S => (evO fr lo S).bind fun l S => (evO fr hi S).bind fun h S => opt (slD S l h x) S
  | .rev a, S => (ev fr a S).bind fun x S => opt ((rdL S x).map fun xs => .lst xs.reverse) S
  | .lc own g src tt e, S => (evI fr src S).bind fun xs S =>
    (foldO (fun (acc : List D) x S => (asg g (wipeF fr own) x S).bind fun fr2 S => (evTs fr2 tt S).bind fun k S =>
      if k then (ev fr2 e S).bind fun d S => if acc.length < sizeLine then .ok (acc ++ [d]) S else .bad else .ok acc S) [] xs S).bind fun acc S => .ok (.lst acc) S
  | .meth m a es, S => (ev fr a S).bind fun x S => (evs fr es S).bind fun xs S => opt (meD m x xs) S
def evs (fr : Frm) : List ME → Sto → Out (List D)
  | [], S => .ok [] S
  | e :: es, S => (ev fr e S).bind fun x S => (evs fr es S).bind fun xs S => .ok (x :: xs) S
def evO (fr : Frm) : Option ME → Sto → Out (Option Int)
  | none, S => .ok none S
  | some e, S => (ev fr e S).bind fun x S => (opt (intO x) S).bind fun i S => .ok (some i) S
def evT (fr : Frm) : MT → Sto → Out Bool
  | .val e, S => (ev fr e S).bind fun x S => opt (boolO x) S
  | .cmp op a b, S => (ev fr a S).bind fun x S => (ev fr b S).bind fun y S => opt (cmpD op x y) S
  | .chain o1 o2 a b c, S => (ev fr a S).bind fun x S => (ev fr b S).bind fun y S => (opt (cmpD o1 x y) S).bind fun k S =>
    if k then (ev fr c S).bind fun z S => opt (cmpD o2 y z) S else .ok false S
  | .and a b, S => (evT fr a S).bind fun k S => if k then evT fr b S else .ok false S
  | .or a b, S => (evT fr a S).bind fun k S => if k then .ok true S else evT fr b S
  | .not a, S => (evT fr a S).bind fun k S => .ok (!k) S
  | .tru e, S => (ev fr e S).bind fun x S => opt (truD S x) S
def evTs (fr : Frm) : List MT → Sto → Out Bool
  | [], S => .ok true S
  | t :: _, S => evT fr t S
def evI (fr : Frm) : MI → Sto → Out (List D)
  | .lst e, S => (ev fr e S).bind fun x S => opt (rdF x) S
  | .tup e, S => (ev fr e S).bind fun x S => match x with
    | .tup xs => .ok xs S
    | _ => .bad
  | .rng1 a, S => (ev fr a S).bind fun x S => opt ((intO x).bind fun i => rngD 0 i) S
  | .rng2 a b, S => (ev fr a S).bind fun x S => (ev fr b S).bind fun y S => opt ((intO x).bind fun i => (intO y).bind fun j => rngD i j) S
  | .zip a b, S => (ev fr a S).bind fun x S => (ev fr b S).bind fun y S => opt (zipO x y) S
  | .enum a, S => (ev fr a S).bind fun x S => opt ((rdF x).map enumD) S
def asg : MG → Frm → D → Sto → Out Frm
  | .name i, fr, d, S => .ok (fr.set i (some (.val d))) S
  | .tup gs, fr, d, S => match d with
    | .tup xs => asgs gs fr xs S
    | .lst xs => asgs gs fr xs S
    | _ => .bad
  | .sub o i, fr, d, S => (ev fr o S).bind fun x S => (ev fr i S).bind fun y S => match x, y with
    | .obj n, .int j => (opt (setD S n j d) S).bind fun S' _ => .ok fr S'
    | _, _ => .bad
def asgs : List MG → Frm → List D → Sto → Out Frm
  | [], fr, [], S => .ok fr S
  | g :: gs, fr, x :: xs, S => (asg g fr x S).bind fun fr S => asgs gs fr xs S
  | _, _, _, _ => .bad
end
/-! ### statements -/
inductive Fl where
  | next (fr : Frm) | ret (d : D) | brk (fr : Frm) | cont (fr : Frm)
def whileO (t : Frm → Sto → Out Bool) (b : Frm → Sto → Out Fl) : Nat → Frm → Sto → Out Fl
  | 0, _, _ => .bad
  | n + 1, fr, S => (t fr S).bind fun k S => if k then (b fr S).bind fun f S => match f with
      | .next fr => whileO t b n fr S
      | .cont fr => whileO t b n fr S
      | .brk fr => .ok (.next fr) S
      | .ret d => .ok (.ret d) S
    else .ok (.next fr) S
def forO (g : Frm → D → Sto → Out Frm) (b : Frm → Sto → Out Fl) : List D → Frm → Sto → Out Fl
  | [], fr, S => .ok (.next fr) S
  | x :: xs, fr, S => (g fr x S).bind fun fr S => (b fr S).bind fun f S => match f with
      | .next fr => forO g b xs fr S
      | .cont fr => forO g b xs fr S
      | .brk fr => .ok (.next fr) S
      | .ret d => .ok (.ret d) S
def evR (fr : Frm) : MR → Sto → Out SV
  | .val e, S => (ev cl gl fr e S).bind fun d S => .ok (.val d) S
  | .lst es, S => (evs cl gl fr es S).bind fun xs S => .ok (.olst xs) S
def evRs (fr : Frm) : List MR → Sto → Out (List SV)
  | [], S => .ok [] S
  | r :: rs, S => (evR cl gl fr r S).bind fun x S => (evRs fr rs S).bind fun xs S => .ok (x :: xs) S
def setAll (fr : Frm) : List Nat → List SV → Frm
  | i :: is, d :: ds => setAll (fr.set i (some d)) is ds
  | _, _ => fr
variable (fuel : Nat)
mutual
def ex : MS → Frm → Sto → Out Fl
  | .set i r, fr, S => (evR cl gl fr r S).bind fun d S => .ok (.next (fr.set i (some d))) S
  | .setLc i o e, fr, S => (ev cl gl fr e S).bind fun d S => match o, d with
    | true, .lst xs => .ok (.next (fr.set i (some (.olst xs)))) S
    | true, _ => .bad
    | false, d => .ok (.next (fr.set i (some (.val d)))) S
  | .par is rs, fr, S => (evRs cl gl fr rs S).bind fun ds S => .ok (.next (setAll fr is ds)) S
  | .asg g e, fr, S => (ev cl gl fr e S).bind fun d S => (asg cl gl g fr d S).bind fun fr S => .ok (.next fr) S
  | .aug i op e, fr, S => match fr[i]? with
    | some (some (.val x)) => (ev cl gl fr e S).bind fun y S => (opt (augD op x y) S).bind fun d S => .ok (.next (fr.set i (some (.val d)))) S
    | _ => .bad
  | .freeze i, fr, S => match fr[i]? with
    | some (some (.olst xs)) => .ok (.next (fr.set i (some (.val (.lst xs))))) S
    | some (some (.odct xs)) => .ok (.next (fr.set i (some (.val (.dic xs))))) S
    | _ => .ok (.next fr) S
  | .append i e, fr, S => (ev cl gl fr e S).bind fun d S => match fr[i]? with
    | some (some (.olst xs)) => if xs.length < sizeLine then .ok (.next (fr.set i (some (.olst (xs ++ [d]))))) S else .bad
    | _ => .bad
  | .expr e, fr, S => (ev cl gl fr e S).bind fun _ S => .ok (.next fr) S
  | .ret e, fr, S => (ev cl gl fr e S).bind fun d S => .ok (.ret d) S
  | .retN, _, S => .ok (.ret .non) S
  | .ife t a b, fr, S => (evT cl gl fr t S).bind fun k S => if k then exs a fr S else exs b fr S
  | .forr g src b, fr, S => (evI cl gl fr src S).bind fun xs S => forO (asg cl gl g) (exs b) xs fr S
  | .whil t b, fr, S => whileO (fun fr S => evT cl gl fr t S) (exs b) fuel fr S
  | .brk, fr, S => .ok (.brk fr) S
  | .cont, fr, S => .ok (.cont fr) S
  | .pass, fr, S => .ok (.next fr) S
  | .never, _, _ => .bad
def exs : List MS → Frm → Sto → Out Fl
  | [], fr, S => .ok (.next fr) S
  | s :: r, fr, S => (ex s fr S).bind fun f S => match f with
    | .next fr => exs r fr S
    | f => .ok f S
end
end
/-- a def: how many names, how many parameters, its body -/
structure MF where
  names : List Str
  ps : Nat
  body : List MS
def callN (P : List (Nat × MF)) (gl : Nat → Option D) (fuel : Nat) : Nat → Nat → List D → Sto → Out D
  | 0, _, _, _ => .bad
  | k + 1, f, ds, S => match P.lookup f with
    | some m => if ds.length = m.ps then (exs (callN P gl fuel k) gl fuel m.body (ds.map (fun d => some (.val d)) ++ List.replicate (m.names.length - m.ps) none) S).bind fun fl S => match fl with
        | .ret d => .ok d S
        | .next _ => .ok .non S
        | _ => .bad
      else .bad
    | none => .bad
end Mn
/-! what a value of the small language stands for in the heap -/
namespace Mn
open PySem L2
section
variable (K : PySem.W.Frag) (F : Hp) (R : List Addr)
mutual
inductive Rep : V → D → Prop
  | non : Rep .non .non
  | bl (b : Bool) : Rep (.bl b) (.bl b)
  | int (i : Int) : Rep (.int i) (.int i)
  | str (x : Str) : Rep (.str x) (.str x)
  | ty (n : String) : Rep (.ty n) (.ty n)
  | tup {a : Addr} {xs : List V} {ds : List D} (h : SqT K F a xs) (r : RepAll xs ds) : Rep (.ref a) (.tup ds)
  | lst {a : Addr} {xs : List V} {ds : List D} (h : F a = some (.lst xs)) (r : RepAll xs ds) : Rep (.ref a) (.lst ds)
  | scr {a : Addr} {ns : List Int} (h : SqL K F a (ns.map V.int)) : Rep (.ref a) (.scr ns)
  | obj {a : Addr} {n : Nat} (h : R[n]? = some a) : Rep (.ref a) (.obj n)
inductive RepAll : List V → List D → Prop
  | nil : RepAll [] []
  | cons {v : V} {d : D} {vs : List V} {ds : List D} (h : Rep v d) (t : RepAll vs ds) : RepAll (v :: vs) (d :: ds)
end
end
section
variable {K : PySem.W.Frag} {F F' H H' : Hp} {R R' : List Addr}
theorem same_t {a : Addr} {xs : List V} (e : Same F F') (h : SqT K F a xs) : SqT K F' a xs := by
  rcases h with (h | ⟨o, h⟩) | h
  · exact .inl (.inl (e _ _ h))
  · exact .inl (.inr ⟨o, e _ _ h⟩)
  · exact .inr h
theorem ix_pre {n : Nat} {a : Addr} (p : R <+: R') (h : R[n]? = some a) : R'[n]? = some a := by
  obtain ⟨m, rfl⟩ := p
  have hn : n < R.length := (List.getElem?_eq_some_iff.mp h).1
  rw [List.getElem?_append_left hn]
  exact h
mutual
theorem Rep.mono (e : Same F F') (p : R <+: R') : ∀ {v : V} {d : D}, Rep K F R v d → Rep K F' R' v d
  | _, _, .non => .non
  | _, _, .bl b => .bl b
  | _, _, .int i => .int i
  | _, _, .str x => .str x
  | _, _, .ty n => .ty n
  | _, _, .tup h r => .tup (same_t e h) (RepAll.mono e p r)
  | _, _, .lst h r => .lst (e _ _ h) (RepAll.mono e p r)
  | _, _, .scr h => .scr (e.seq h)
  | _, _, .obj h => .obj (ix_pre p h)
theorem RepAll.mono (e : Same F F') (p : R <+: R') : ∀ {vs : List V} {ds : List D}, RepAll K F R vs ds → RepAll K F' R' vs ds
  | _, _, .nil => .nil
  | _, _, .cons h t => .cons (Rep.mono e p h) (RepAll.mono e p t)
end
theorem RepAll.length : ∀ {vs : List V} {ds : List D}, RepAll K F R vs ds → vs.length = ds.length
  | _, _, .nil => rfl
  | _, _, .cons _ t => congrArg (· + 1) (RepAll.length t)
theorem RepAll.get : ∀ {vs : List V} {ds : List D} {i : Nat} {d : D}, RepAll K F R vs ds → ds[i]? = some d → ∃ v, vs[i]? = some v ∧ Rep K F R v d
  | _, _, _, _, .nil, e => by simp at e
  | _, _, 0, _, .cons h _, e => by simp at e; subst e; exact ⟨_, rfl, h⟩
  | _, _, i + 1, d, .cons _ t, e => by
    obtain ⟨v, h1, h2⟩ := RepAll.get (i := i) (d := d) t (by simpa using e)
    exact ⟨v, by simpa using h1, h2⟩
theorem RepAll.got : ∀ {vs : List V} {ds : List D} {i : Nat} {v : V}, RepAll K F R vs ds → vs[i]? = some v → ∃ d, ds[i]? = some d ∧ Rep K F R v d
  | _, _, _, _, .nil, e => by simp at e
  | _, _, 0, _, .cons h _, e => by simp at e; subst e; exact ⟨_, rfl, h⟩
  | _, _, i + 1, d, .cons _ t, e => by
    obtain ⟨v, h1, h2⟩ := RepAll.got (i := i) (v := d) t (by simpa using e)
    exact ⟨v, by simpa using h1, h2⟩
theorem RepAll.append : ∀ {vs ws : List V} {ds es : List D}, RepAll K F R vs ds → RepAll K F R ws es → RepAll K F R (vs ++ ws) (ds ++ es)
  | _, _, _, _, .nil, s => s
  | _, _, _, _, .cons h t, s => .cons h (RepAll.append t s)
theorem RepAll.take : ∀ {vs : List V} {ds : List D} (n : Nat), RepAll K F R vs ds → RepAll K F R (vs.take n) (ds.take n)
  | _, _, 0, _ => .nil
  | _, _, _ + 1, .nil => .nil
  | _, _, n + 1, .cons h t => .cons h (RepAll.take n t)
theorem RepAll.drop : ∀ {vs : List V} {ds : List D} (n : Nat), RepAll K F R vs ds → RepAll K F R (vs.drop n) (ds.drop n)
  | _, _, 0, r => r
  | _, _, _ + 1, .nil => .nil
  | _, _, n + 1, .cons _ t => RepAll.drop n t
theorem RepAll.set {v : V} {d : D} (h : Rep K F R v d) : ∀ {vs : List V} {ds : List D} (n : Nat), RepAll K F R vs ds → RepAll K F R (vs.set n v) (ds.set n d)
  | _, _, _, .nil => .nil
  | _, _, 0, .cons _ t => .cons h t
  | _, _, n + 1, .cons q t => .cons q (RepAll.set h n t)
theorem RepAll.reverse {vs : List V} {ds : List D} (h : RepAll K F R vs ds) : RepAll K F R vs.reverse ds.reverse := by
  have go : ∀ {vs : List V} {ds : List D}, RepAll K F R vs ds → RepAll K F R vs.reverse ds.reverse := by
    intro vs
    induction vs with
    | nil => intro ds h; cases h; exact .nil
    | cons v vs ih =>
      intro ds h
      cases h with
      | cons q t =>
        rw [List.reverse_cons, List.reverse_cons]
        exact (ih t).append (.cons q .nil)
  exact go h
theorem RepAll.ints : ∀ (ns : List Int), RepAll K F R (ns.map V.int) (ns.map D.int)
  | [] => .nil
  | n :: r => .cons (.int n) (RepAll.ints r)
theorem RepAll.rep {vs : List V} {ds : List D} (h : RepAll K F R vs ds) : ∀ n : Nat, RepAll K F R (List.replicate n vs).flatten (List.replicate n ds).flatten
  | 0 => .nil
  | n + 1 => by
    rw [List.replicate_succ, List.replicate_succ, List.flatten_cons, List.flatten_cons]
    exact h.append (RepAll.rep h n)
/-! ### data -/
theorem sq_same {a : Addr} {xs : List V} (e : Same F H) (h : SqT K F a xs) : SqT K H a xs := same_t e h
mutual
theorem Rep.py (e : Same F H) : ∀ {v : V} {d : D} {p : PyData}, Rep K F R v d → d.py = some p → Dp K H v p
  | _, _, _, .non, h => by cases h; exact .non
  | _, _, _, .bl b, h => by cases h; exact .bl b
  | _, _, _, .int i, h => by cases h; exact .int i
  | _, _, _, .str x, h => by cases h; exact .str x
  | _, _, _, .ty n, h => by cases h
  | _, _, p, .tup (ds := ds) q r, h => by
    simp only [D.py] at h
    cases hp : pyAll ds with
    | none => rw [hp] at h; cases h
    | some ps => rw [hp] at h; cases h; exact .tup (same_t e q) (RepAll.py e r hp)
  | _, _, p, .lst (ds := ds) q r, h => by
    simp only [D.py] at h
    cases hp : pyAll ds with
    | none => rw [hp] at h; cases h
    | some ps => rw [hp] at h; cases h; exact .lst (SqL.of (e _ _ q)) (RepAll.py e r hp)
  | _, _, _, .scr _, h => by cases h
  | _, _, _, .obj _, h => by cases h
theorem RepAll.py (e : Same F H) : ∀ {vs : List V} {ds : List D} {ps : List PyData}, RepAll K F R vs ds → pyAll ds = some ps → DpAll K H vs ps
  | _, _, _, .nil, h => by cases h; exact .nil
  | _, _, _, .cons (d := d) (ds := ds) q t, h => by
    simp only [pyAll] at h
    cases h1 : d.py with
    | none => rw [h1] at h; cases h
    | some p =>
      cases h2 : pyAll ds with
      | none => rw [h1, h2] at h; cases h
      | some ps => rw [h1, h2] at h; cases h; exact .cons (Rep.py e q h1) (RepAll.py e t h2)
end
end
/-! ### the store, the frame -/
section
variable (K : PySem.W.Frag) (F : Hp) (R : List Addr) (H : Hp)
def StoAt (a : Addr) : SO → Prop
  | .lst ds => F a = none ∧ ∃ xs, H a = some (.lst xs) ∧ RepAll K F R xs ds
  | .dct _ => False
  | .ins _ _ => False
  | .dead => True
structure RelS (S : Sto) : Prop where
  fh : Same F H
  len : R.length = S.length
  nd : R.Nodup
  tr : ∀ a ∈ R, ∃ o, H a = some o
  at_ : ∀ (n : Nat) (a : Addr) (o : SO), R[n]? = some a → S[n]? = some o → StoAt K F R H a o
def SlotAt (v : V) : SV → Prop
  | .val d => Rep K F R v d
  | .olst ds => ∃ a xs, v = .ref a ∧ F a = none ∧ a ∉ R ∧ H a = some (.lst xs) ∧ RepAll K F R xs ds
  | .odct _ => False
def SV.own : SV → Bool
  | .val _ => false
  | _ => true
def OwnAt (σ : St) (fr : Frm) (i : Nat) (a : Addr) : Prop := ∃ sv, fr[i]? = some (some sv) ∧ sv.own = true ∧ σ[i]? = some (some (.ref a))
structure RelF (σ : St) (fr : Frm) : Prop where
  len : fr.length = σ.length
  sl : ∀ (i : Nat) (sv : SV), fr[i]? = some (some sv) → ∃ v, σ[i]? = some (some v) ∧ SlotAt K F R H v sv
  ap : ∀ (i j : Nat) (a : Addr), OwnAt σ fr i a → OwnAt σ fr j a → i = j
end
/-- what a piece of work leaves as it was: F grows by new objects (or by what stood in the store), all that was tracked but the store stays -/
structure Nxt (F : Hp) (R : List Addr) (H F' : Hp) (R' : List Addr) (H' : Hp) : Prop where
  f : Same F F'
  r : R <+: R'
  new : ∀ a o, F' a = some o → F a = some o ∨ H a = none ∨ a ∈ R
  tr : ∀ a o, H a = some o → a ∉ R → H' a = some o
  newR : ∀ a ∈ R', a ∈ R ∨ H a = none
section
variable {K : PySem.W.Frag} {F F1 F2 F' H H1 H2 H' : Hp} {R R1 R2 R' : List Addr} {σ : St} {fr : Frm} {S S' : Sto}
theorem Nxt.refl : Nxt F R H F R H := ⟨Same.refl _, List.prefix_refl _, fun _ _ h => .inl h, fun _ _ h _ => h, fun _ h => .inl h⟩
theorem Nxt.trans (a : Nxt F R H F1 R1 H1) (b : Nxt F1 R1 H1 F2 R2 H2) : Nxt F R H F2 R2 H2 where
  f := a.f.trans b.f
  r := a.r.trans b.r
  new := fun x o h => by
    rcases b.new x o h with h1 | h1 | h1
    · exact a.new x o h1
    · by_cases hx : x ∈ R
      · exact .inr (.inr hx)
      · refine .inr (.inl ?_)
        cases q : H x with
        | none => rfl
        | some u => rw [a.tr x u q hx] at h1; cases h1
    · rcases a.newR x h1 with h2 | h2
      · exact .inr (.inr h2)
      · exact .inr (.inl h2)
  tr := fun x o h hx => b.tr x o (a.tr x o h hx) fun hx1 => by
    rcases a.newR x hx1 with h2 | h2
    · exact hx h2
    · rw [h] at h2; cases h2
  newR := fun x h => by
    rcases b.newR x h with h1 | h1
    · exact a.newR x h1
    · by_cases hx : x ∈ R
      · exact .inl hx
      · refine .inr ?_
        cases q : H x with
        | none => rfl
        | some u => rw [a.tr x u q hx] at h1; cases h1
/-- a new object, known from now on as what it is -/
theorem Nxt.new1 {p : Addr} {o : HO} (hp : H p = none) (fh : Same F H) : Nxt F R H (upd F p o) R (upd H p o) where
  f := fun a u h => by
    rw [upd_ne]
    · exact h
    · rintro rfl; rw [fh _ _ h] at hp; cases hp
  r := List.prefix_refl _
  new := fun a u h => by
    by_cases e : a = p
    · subst e; exact .inr (.inl hp)
    · rw [upd_ne e] at h; exact .inl h
  tr := fun a u h _ => by
    rw [upd_ne]
    · exact h
    · rintro rfl; rw [h] at hp; cases hp
  newR := fun a h => .inl h
theorem same_new {p : Addr} {o : HO} (fh : Same F H) : Same (upd F p o) (upd H p o) := fun a u h => by
  by_cases e : a = p
  · subst e; rw [upd_same] at h ⊢; exact h
  · rw [upd_ne e] at h ⊢; exact fh _ _ h
theorem StoAt.nxt {a : Addr} {o : SO} (n : Nxt F R H F' R H') (hk : ∀ u, H a = some u → H' a = some u) (ha : F' a = none ∨ (∃ u, F a = some u) ∨ o = .dead) (h : StoAt K F R H a o) : StoAt K F' R H' a o := by
  cases o with
  | lst ds =>
    obtain ⟨h1, xs, h2, h3⟩ := h
    refine ⟨?_, xs, hk _ h2, h3.mono n.f n.r⟩
    rcases ha with q | ⟨u, q⟩ | q
    · exact q
    · rw [h1] at q; cases q
    · cases q
  | dct _ => exact h
  | ins _ _ => exact h
  | dead => trivial
/-- behind new frozen objects the store is as it was -/
theorem RelS.new1 {p : Addr} {o : HO} (r : RelS K F R H S) (hp : H p = none) : RelS K (upd F p o) R (upd H p o) S := by
  have n := Nxt.new1 (R := R) (o := o) hp r.fh
  have ne : ∀ a ∈ R, a ≠ p := fun a ha e => by
    obtain ⟨u, hu⟩ := r.tr a ha
    rw [e, hp] at hu; cases hu
  refine ⟨same_new r.fh, r.len, r.nd, fun a ha => ?_, fun i a so h1 h2 => ?_⟩
  · obtain ⟨u, hu⟩ := r.tr a ha
    exact ⟨u, by rw [upd_ne (ne a ha)]; exact hu⟩
  · have ha : a ∈ R := List.mem_of_getElem? h1
    have h3 := r.at_ i a so h1 h2
    cases so with
    | lst ds =>
      obtain ⟨g1, xs, g2, g3⟩ := h3
      exact ⟨by rw [upd_ne (ne a ha)]; exact g1, xs, by rw [upd_ne (ne a ha)]; exact g2, g3.mono n.f n.r⟩
    | dct _ => exact h3
    | ins _ _ => exact h3
    | dead => trivial
/-- the frame behind a piece of work -/
theorem RelF.nxt (f : RelF K F R H σ fr) (n : Nxt F R H F' R' H') : RelF K F' R' H' σ fr := by
  refine ⟨f.len, fun i sv h => ?_, f.ap⟩
  obtain ⟨v, h1, h2⟩ := f.sl i sv h
  refine ⟨v, h1, ?_⟩
  cases sv with
  | val d => exact Rep.mono n.f n.r h2
  | olst ds =>
    obtain ⟨a, xs, rfl, g1, g2, g3, g4⟩ := h2
    refine ⟨a, xs, rfl, ?_, fun hx => ?_, n.tr a _ g3 g2, g4.mono n.f n.r⟩
    · cases q : F' a with
      | none => rfl
      | some u =>
        rcases n.new a u q with z | z | z
        · rw [g1] at z; cases z
        · rw [g3] at z; cases z
        · exact (g2 z).elim
    · rcases n.newR a hx with z | z
      · exact g2 z
      · rw [g3] at z; cases z
  | odct _ => exact h2
end
end Mn
/-! operations on values: the rules of the hand layer by the small language's own functions -/
namespace Mn
open PySem L2
/-- some new frozen objects, or none -/
def Nw (K : PySem.W.Frag) (F : Hp) (R : List Addr) (H F' H' : Hp) : Prop := Nxt F R H F' R H' ∧ ∀ S, RelS K F R H S → RelS K F' R H' S
theorem Nw.refl {K : PySem.W.Frag} {F H : Hp} {R : List Addr} : Nw K F R H F H := ⟨.refl, fun _ h => h⟩
theorem Nw.one {K : PySem.W.Frag} {F H : Hp} {R : List Addr} {p : Addr} {o : HO} (hp : H p = none) (fh : Same F H) : Nw K F R H (upd F p o) (upd H p o) := ⟨.new1 hp fh, fun _ h => h.new1 hp⟩
theorem Nw.trans {K : PySem.W.Frag} {F H F1 H1 F2 H2 : Hp} {R : List Addr} (a : Nw K F R H F1 H1) (b : Nw K F1 R H1 F2 H2) : Nw K F R H F2 H2 := ⟨a.1.trans b.1, fun S h => b.2 S (a.2 S h)⟩
section
variable {X : Cx}
def rBin (K : PySem.W.Frag) (op : Operator) : R2 := fun v w H Q => ∃ F R x y d, Same F H ∧ Rep K F R v x ∧ Rep K F R w y ∧ binD op x y = some d ∧ ∀ z F' H', Nw K F R H F' H' → Rep K F' R z d → Q z H'
theorem mulOk_of {i j : Int} (h : mulOk i j = true) : CMul i j ∨ CMulW i j := by
  unfold mulOk at h
  simp only [Bool.or_eq_true, decide_eq_true_eq] at h
  rcases h with (h | h) | h
  · exact .inl (.inl h)
  · exact .inl (.inr h)
  · exact .inr h
theorem divOk_of {i j : Int} (h : divOk j = true) : CDivW i j := by
  unfold divOk at h
  simp only [Bool.and_eq_true, decide_eq_true_eq] at h
  exact h
theorem powOk_of {i j : Int} (h : powOk i j = true) : CPow i j := by
  unfold powOk at h
  simp only [Bool.and_eq_true, decide_eq_true_eq] at h
  exact ⟨h.1.1, h.1.2, h.2⟩
theorem tup_cat {F H : Hp} {R : List Addr} {a b : Addr} {xs ys : List V} {ds es : List D} {Q : VK} (fh : Same F H) (ha : SqT X.K F a xs) (hb : SqT X.K F b ys) (ra : RepAll X.K F R xs ds) (rb : RepAll X.K F R ys es)
    (k : ∀ z F' H', Nw X.K F R H F' H' → Rep X.K F' R z (.tup (ds ++ es)) → Q z H') :
    (xs = [] → Q (.ref b) H) ∧ (xs ≠ [] → ys = [] → Q (.ref a) H) ∧ (xs ≠ [] → ys ≠ [] → ∀ p, H p = none → Q (.ref p) (upd H p (.tup (xs ++ ys)))) := by
  refine ⟨fun e => ?_, fun _ e => ?_, fun _ _ p hp => ?_⟩
  · subst e
    cases ra
    exact k _ F H .refl (.tup hb rb)
  · subst e
    cases rb
    exact k _ F H .refl (.tup ha (by rw [List.append_nil]; exact ra))
  · have n : Nw X.K F R H (upd F p (.tup (xs ++ ys))) (upd H p (.tup (xs ++ ys))) := Nw.one hp fh
    exact k _ _ _ n (.tup (SqT.of upd_same) ((ra.append rb).mono n.1.f n.1.r))
theorem op_bin (op : Operator) : OpR X (binaryOp op) (rBin X.K op) := by
  intro pins s σ H v w u1 u2 Q I r1 r2 h
  obtain ⟨F, R, x, y, d, fh, rx, ry, hd, k⟩ := h
  cases op with
  | Add =>
    cases rx <;> cases ry <;> simp only [binD, reduceCtorEq, Option.some.injEq] at hd
    case int.int i j => subst hd; exact op_add pins s σ H _ _ _ _ Q I r1 r2 ⟨i, j, rfl, rfl, k _ F H .refl (.int _)⟩
    case str.str a b =>
      split at hd
      · rename_i hl
        cases hd
        exact op_add_str pins s σ H _ _ _ _ Q I r1 r2 ⟨a, b, rfl, rfl, hl, k _ F H .refl (.str _)⟩
      · cases hd
    case tup.tup a xs ds ha ra b ys es hb rb =>
      split at hd
      · rename_i hl
        cases hd
        exact op_catA pins s σ H _ _ _ _ Q I r1 r2 ⟨a, b, xs, ys, rfl, rfl, same_t fh ha, same_t fh hb, by rw [ra.length, rb.length]; exact hl, tup_cat fh ha hb ra rb k⟩
      · cases hd
    case lst.lst a xs ds ha ra b ys es hb rb =>
      split at hd
      · rename_i hl
        cases hd
        refine op_cat pins s σ H _ _ _ _ Q I r1 r2 ⟨a, b, xs, ys, rfl, rfl, fh _ _ ha, fh _ _ hb, by rw [ra.length, rb.length]; exact hl, fun p hp => ?_⟩
        have n : Nw X.K F R H (upd F p (.lst (xs ++ ys))) (upd H p (.lst (xs ++ ys))) := Nw.one hp fh
        exact k _ _ _ n (.lst upd_same ((ra.append rb).mono n.1.f n.1.r))
      · cases hd
  | Sub =>
    cases rx <;> cases ry <;> simp only [binD, reduceCtorEq, Option.some.injEq] at hd
    case int.int i j => subst hd; exact op_sub pins s σ H _ _ _ _ Q I r1 r2 ⟨i, j, rfl, rfl, k _ F H .refl (.int _)⟩
  | Mult =>
    cases rx <;> cases ry <;> simp only [binD, reduceCtorEq, Option.some.injEq] at hd
    case int.int i j =>
      split at hd
      · rename_i hm
        cases hd
        rcases mulOk_of hm with q | q
        · exact op_mul pins s σ H _ _ _ _ Q I r1 r2 ⟨i, j, rfl, rfl, q, k _ F H .refl (.int _)⟩
        · exact op_mulW pins s σ H _ _ _ _ Q I r1 r2 ⟨i, j, rfl, rfl, q, k _ F H .refl (.int _)⟩
      · cases hd
    case tup.int a xs ds ha ra n =>
      split at hd
      · rename_i hm
        cases hd
        unfold repOk at hm
        simp only [Bool.and_eq_true, decide_eq_true_eq] at hm
        obtain ⟨⟨⟨m1, m2⟩, m3⟩, m4⟩ := hm
        refine op_repT pins s σ H _ _ _ _ Q I r1 r2 ⟨a, n, xs, rfl, rfl, same_t fh ha, ?_, m2, m3, by rw [ra.length]; exact m4, fun p hp => ?_⟩
        · intro e
          subst e
          cases ra
          exact absurd m1 (by simp)
        · have nn : Nw X.K F R H (upd F p (.tup (List.replicate n.toNat xs).flatten)) (upd H p (.tup (List.replicate n.toNat xs).flatten)) := Nw.one hp fh
          exact k _ _ _ nn (.tup (SqT.of upd_same) ((ra.rep _).mono nn.1.f nn.1.r))
      · cases hd
  | FloorDiv =>
    cases rx <;> cases ry <;> simp only [binD, reduceCtorEq, Option.some.injEq] at hd
    case int.int i j =>
      split at hd
      · rename_i hm
        cases hd
        exact op_fdivW pins s σ H _ _ _ _ Q I r1 r2 ⟨i, j, rfl, rfl, divOk_of hm, k _ F H .refl (.int _)⟩
      · cases hd
  | Mod =>
    cases rx <;> cases ry <;> simp only [binD, reduceCtorEq, Option.some.injEq] at hd
    case int.int i j =>
      split at hd
      · rename_i hm
        cases hd
        exact op_mod pins s σ H _ _ _ _ Q I r1 r2 ⟨i, j, rfl, rfl, hm, k _ F H .refl (.int _)⟩
      · cases hd
  | Pow =>
    cases rx <;> cases ry <;> simp only [binD, reduceCtorEq, Option.some.injEq] at hd
    case int.int i j =>
      split at hd
      · rename_i hm
        cases hd
        exact op_pow pins s σ H _ _ _ _ Q I r1 r2 ⟨i, j, rfl, rfl, powOk_of hm, k _ F H .refl (.int _)⟩
      · cases hd
  | _ => simp [binD] at hd
def rCmp (K : PySem.W.Frag) (op : CmpOp) : R2 := fun v w H Q => ∃ F R x y b, Same F H ∧ Rep K F R v x ∧ Rep K F R w y ∧ cmpD op x y = some b ∧ Q (.bl b) H
theorem eqD_ok {F H : Hp} {R : List Addr} {v w : V} {x y : D} {b : Bool} (fh : Same F H) (rx : Rep X.K F R v x) (ry : Rep X.K F R w y) (h : eqD x y = some b) :
    ∃ p q, Dp X.K H v p ∧ Dp X.K H w q ∧ SeqAt.shaped p = true ∧ SeqAt.shaped q = true ∧ b = PyData.eqv p q := by
  unfold eqD at h
  cases h1 : x.py with
  | none => rw [h1] at h; cases h
  | some p =>
    cases h2 : y.py with
    | none => rw [h1, h2] at h; cases h
    | some q =>
      rw [h1, h2] at h
      simp only [Bool.and_eq_true] at h
      split at h
      · rename_i hs
        cases h
        exact ⟨p, q, rx.py fh h1, ry.py fh h2, hs.1, hs.2, rfl⟩
      · cases h
theorem Rep.isN {F : Hp} {R : List Addr} {v : V} {x : D} (h : Rep X.K F R v x) : decide (v = .non) = isN x := by
  cases h <;> simp [Mn.isN]
theorem flat_of {K : PySem.W.Frag} {F : Hp} {R : List Addr} {v : V} {x : D} (h : Rep K F R v x) (f : flatD x = true) : flatV v = true := by
  cases h <;> first | rfl | (simp [flatD] at f)
theorem eqF_of {K : PySem.W.Frag} {F : Hp} {R : List Addr} {v w : V} {x y : D} (h : Rep K F R v x) (g : Rep K F R w y) (f1 : flatD x = true) (f2 : flatD y = true) : eqV v w = eqF x y := by
  cases h <;> cases g <;> first | rfl | (simp [flatD] at f1) | (simp [flatD] at f2)
theorem inF_of {K : PySem.W.Frag} {F : Hp} {R : List Addr} {v : V} {x : D} (h : Rep K F R v x) (f1 : flatD x = true) : ∀ {vs : List V} {xs : List D}, RepAll K F R vs xs → xs.all flatD = true →
    vs.all flatV = true ∧ inV v vs = xs.any fun e => eqF e x
  | _, _, .nil, _ => ⟨rfl, rfl⟩
  | _, _, .cons (v := w) (d := y) g t, q => by
    simp only [List.all_cons, Bool.and_eq_true] at q
    obtain ⟨h1, h2⟩ := inF_of h f1 t q.2
    refine ⟨by simp only [List.all_cons, Bool.and_eq_true]; exact ⟨flat_of g q.1, h1⟩, ?_⟩
    unfold inV at h2 ⊢
    rw [List.any_cons, List.any_cons, h2, eqF_of g h q.1 f1]
theorem inD_ok {F H : Hp} {R : List Addr} {v : V} {x : D} {a : Addr} {vs : List V} {xs : List D} {b : Bool} (fh : Same F H) (rx : Rep X.K F R v x) (ha : F a = some (.lst vs)) (ra : RepAll X.K F R vs xs) (h : inD x xs = some b) :
    ∃ p qs, Dp X.K H v p ∧ Dp X.K H (.ref a) (.list qs) ∧ SeqAt.shaped p = true ∧ SeqAt.shaped (.list qs) = true ∧ b = qs.any fun q => PyData.eqv q p := by
  unfold inD at h
  cases h1 : x.py with
  | none => rw [h1] at h; cases h
  | some p =>
    cases h2 : pyAll xs with
    | none => rw [h1, h2] at h; cases h
    | some qs =>
      rw [h1, h2] at h
      simp only [Bool.and_eq_true] at h
      split at h
      · rename_i hs
        cases h
        exact ⟨p, qs, rx.py fh h1, .lst (SqL.of (fh _ _ ha)) (ra.py fh h2), hs.1, hs.2, rfl⟩
      · cases h
theorem scl_of {K : PySem.W.Frag} {F : Hp} {R : List Addr} {v w : V} {x y : D} {b : Bool} (h : Rep K F R v x) (g : Rep K F R w y) (e : sclD x y = some b) : scal v w = true ∧ b = decide (v = w) := by
  cases h <;> cases g <;> simp only [sclD, reduceCtorEq, Option.some.injEq] at e <;> subst e <;> refine ⟨rfl, ?_⟩ <;> simp
theorem op_cmp (hu : X.A.units + 65 < cLine) (op : CmpOp) : OpR X (compareOp op) (rCmp X.K op) := by
  intro pins s σ H v w u1 u2 Q I r1 r2 h
  obtain ⟨F, R, x, y, b, fh, rx, ry, hd, k⟩ := h
  have hu64 : X.A.units + 64 < cLine := by omega
  cases op with
  | Eq =>
    have hd' : eqA x y = some b := by cases x <;> cases y <;> exact hd
    unfold eqA at hd'
    split at hd'
    · rename_i r e
      cases hd'
      obtain ⟨s1, rfl⟩ := scl_of rx ry e
      exact op_eq pins s σ H _ _ _ _ Q I r1 r2 ⟨s1, k⟩
    · obtain ⟨p, q, d1, d2, s1, s2, rfl⟩ := eqD_ok fh rx ry hd'
      exact op_eqD hu64 pins s σ H _ _ _ _ Q I r1 r2 ⟨p, q, d1, d2, s1, s2, k⟩
  | NotEq =>
    have hd' : (eqA x y).map (!·) = some b := by cases x <;> cases y <;> exact hd
    cases e : eqA x y with
    | none => rw [e] at hd'; cases hd'
    | some c =>
      rw [e] at hd'
      cases hd'
      unfold eqA at e
      split at e
      · rename_i r e'
        cases e
        obtain ⟨s1, rfl⟩ := scl_of rx ry e'
        exact op_ne pins s σ H _ _ _ _ Q I r1 r2 ⟨s1, k⟩
      · obtain ⟨p, q, d1, d2, s1, s2, rfl⟩ := eqD_ok fh rx ry e
        exact op_neD hu64 pins s σ H _ _ _ _ Q I r1 r2 ⟨p, q, d1, d2, s1, s2, k⟩
  | Lt =>
    cases rx <;> cases ry <;> simp only [cmpD, reduceCtorEq, Option.some.injEq] at hd
    case int.int i j => subst hd; exact op_lt pins s σ H _ _ _ _ Q I r1 r2 ⟨i, j, rfl, rfl, k⟩
  | LtE =>
    cases rx <;> cases ry <;> simp only [cmpD, reduceCtorEq, Option.some.injEq] at hd
    case int.int i j => subst hd; exact op_le pins s σ H _ _ _ _ Q I r1 r2 ⟨i, j, rfl, rfl, k⟩
  | Gt =>
    cases rx <;> cases ry <;> simp only [cmpD, reduceCtorEq, Option.some.injEq] at hd
    case int.int i j => subst hd; exact op_gt pins s σ H _ _ _ _ Q I r1 r2 ⟨i, j, rfl, rfl, k⟩
  | GtE =>
    cases rx <;> cases ry <;> simp only [cmpD, reduceCtorEq, Option.some.injEq] at hd
    case int.int i j => subst hd; exact op_ge pins s σ H _ _ _ _ Q I r1 r2 ⟨i, j, rfl, rfl, k⟩
  | Is =>
    have isn : y = .non → b = isN x → wpAny (model X.prog X.w) X.A (compareOp .Is u1 u2) (EP X pins σ Q) X.xe s := fun e1 e2 => by
      subst e1 e2
      cases ry
      exact op_isN pins s σ H _ _ _ _ Q I r1 r2 ⟨rfl, by rw [rx.isN]; exact k⟩
    cases rx <;> cases ry <;> simp only [cmpD, reduceCtorEq, Option.some.injEq] at hd <;> first
      | exact isn rfl hd.symm
      | (subst hd; exact op_isBl pins s σ H _ _ _ _ Q I r1 r2 ⟨_, _, rfl, rfl, k⟩)
  | IsNot =>
    have isn : y = .non → b = !isN x → wpAny (model X.prog X.w) X.A (compareOp .IsNot u1 u2) (EP X pins σ Q) X.xe s := fun e1 e2 => by
      subst e1 e2
      cases ry
      exact op_notN pins s σ H _ _ _ _ Q I r1 r2 ⟨rfl, by rw [rx.isN]; exact k⟩
    cases rx <;> cases ry <;> simp only [cmpD, reduceCtorEq, Option.some.injEq] at hd <;> first
      | exact isn rfl hd.symm
      | (subst hd; exact op_notBl pins s σ H _ _ _ _ Q I r1 r2 ⟨_, _, rfl, rfl, k⟩)
  | In =>
    cases ry with
    | str z =>
      cases rx <;> simp only [cmpD, reduceCtorEq, Option.some.injEq] at hd
      case str a => subst hd; exact op_in_str pins s σ H _ _ _ _ Q I r1 r2 ⟨a, z, rfl, rfl, k⟩
    | @tup _ _ ds ha ra =>
      have hd' : inF x ds = some b := by cases x <;> exact hd
      unfold inF at hd'
      split at hd'
      · rename_i hf
        simp only [Bool.and_eq_true] at hf
        cases hd'
        obtain ⟨h1, h2⟩ := inF_of rx hf.1 ra hf.2
        exact op_in_seq pins s σ H _ _ _ _ Q I r1 r2 ⟨_, _, rfl, .inr (same_t fh ha), flat_of rx hf.1, h1, by rw [if_neg Bool.false_ne_true, h2]; exact k⟩
      · cases hd'
    | @lst _ _ ds ha ra =>
      have hd' : inD x ds = some b := by cases x <;> exact hd
      obtain ⟨p, qs, d1, d2, s1, s2, rfl⟩ := inD_ok fh rx ha ra hd'
      exact op_inD hu pins s σ H _ _ _ _ Q I r1 r2 ⟨p, qs, d1, d2, s1, s2, k⟩
    | _ => cases x <;> simp [cmpD] at hd
  | NotIn =>
    cases ry with
    | str z =>
      cases rx <;> simp only [cmpD, reduceCtorEq, Option.some.injEq] at hd
      case str a => subst hd; exact op_notIn_str pins s σ H _ _ _ _ Q I r1 r2 ⟨a, z, rfl, rfl, k⟩
    | @tup _ _ ds ha ra =>
      have hd' : (inF x ds).map (!·) = some b := by cases x <;> exact hd
      cases e : inF x ds with
      | none => rw [e] at hd'; cases hd'
      | some c =>
        rw [e] at hd'
        cases hd'
        unfold inF at e
        split at e
        · rename_i hf
          simp only [Bool.and_eq_true] at hf
          cases e
          obtain ⟨h1, h2⟩ := inF_of rx hf.1 ra hf.2
          exact op_notIn_seq pins s σ H _ _ _ _ Q I r1 r2 ⟨_, _, rfl, .inr (same_t fh ha), flat_of rx hf.1, h1, by rw [if_pos rfl, h2]; exact k⟩
        · cases e
    | @lst _ _ ds ha ra =>
      have hd' : (inD x ds).map (!·) = some b := by cases x <;> exact hd
      cases e : inD x ds with
      | none => rw [e] at hd'; cases hd'
      | some c =>
        rw [e] at hd'
        cases hd'
        obtain ⟨p, qs, d1, d2, s1, s2, rfl⟩ := inD_ok fh rx ha ra e
        exact op_notInD hu pins s σ H _ _ _ _ Q I r1 r2 ⟨p, qs, d1, d2, s1, s2, k⟩
    | _ => cases x <;> simp [cmpD] at hd
/-! ### subscripts, slices -/
theorem rdL_ok {K : PySem.W.Frag} {F H : Hp} {R : List Addr} {S : Sto} {v : V} {d : D} {xs : List D} (rs : RelS K F R H S) (r : Rep K F R v d) (h : rdL S d = some xs) :
    ∃ a vs, v = .ref a ∧ SqL K H a vs ∧ RepAll K F R vs xs := by
  cases r with
  | lst ha ra => cases h; exact ⟨_, _, rfl, SqL.of (rs.fh _ _ ha), ra⟩
  | @scr a ns ha => cases h; exact ⟨_, _, rfl, rs.fh.seq ha, RepAll.ints ns⟩
  | @obj a n hn =>
    simp only [rdL] at h
    cases e : S[n]? with
    | none => rw [e] at h; cases h
    | some o =>
      rw [e] at h
      cases o with
      | lst ys =>
        cases h
        obtain ⟨_, vs, h2, h3⟩ := rs.at_ n a _ hn e
        exact ⟨a, vs, rfl, SqL.of h2, h3⟩
      | _ => cases h
  | _ => cases h
theorem at_rep {K : PySem.W.Frag} {F : Hp} {R : List Addr} {vs : List V} {xs : List D} {i : Int} {d : D} (r : RepAll K F R vs xs) (h : atI xs i = some d) : ∃ v, atI vs i = some v ∧ Rep K F R v d := by
  unfold atI at h ⊢
  rw [r.length]
  cases e : ixN xs.length i with
  | none => rw [e] at h; cases h
  | some j =>
    rw [e] at h
    obtain ⟨v, h1, h2⟩ := r.get (show xs[j]? = some d from h)
    exact ⟨v, h1, h2⟩
def rSub (K : PySem.W.Frag) : R2 := fun v w H Q => ∃ F R S x y d, RelS K F R H S ∧ Rep K F R v x ∧ Rep K F R w y ∧ subD S x y = some d ∧ ∀ z, Rep K F R z d → Q z H
theorem ix_sub : IxR X (rSub X.K) := by
  intro value slice pins s σ H v w u1 u2 Q I r1 r2 h hs
  obtain ⟨F, R, S, x, y, d, rs, rx, ry, hd, k⟩ := h
  have go : (∃ xs i, rdL S x = some xs ∧ y = .int i ∧ atI xs i = some d) → wpAny (model X.prog X.w) X.A (PyProof.Rows.subscriptTail value slice u1 u2) (EP X pins σ Q) X.xe s := fun ⟨xs, i, e1, e2, e3⟩ => by
    subst e2
    cases ry
    obtain ⟨a, vs, rfl, h1, h2⟩ := rdL_ok rs rx e1
    obtain ⟨z, h3, h4⟩ := at_rep h2 e3
    exact ix_list value slice pins s σ H _ _ _ _ Q I r1 r2 ⟨a, vs, i, z, rfl, rfl, h1, h3, k z h4⟩ hs
  have lst : (∃ i, y = .int i ∧ (rdL S x).bind (fun xs => atI xs i) = some d) → ∃ xs i, rdL S x = some xs ∧ y = .int i ∧ atI xs i = some d := fun ⟨i, e1, e2⟩ => by
    cases e : rdL S x with
    | none => rw [e] at e2; cases e2
    | some xs => rw [e] at e2; exact ⟨xs, i, rfl, e1, e2⟩
  cases rx with
  | tup ha ra =>
    cases ry <;> simp only [subD, reduceCtorEq] at hd
    case int i =>
      obtain ⟨z, h3, h4⟩ := at_rep ra hd
      exact ix_tup value slice pins s σ H _ _ _ _ Q I r1 r2 ⟨_, _, i, z, rfl, rfl, same_t rs.fh ha, h3, k z h4⟩ hs
  | str z =>
    cases ry <;> simp only [subD, reduceCtorEq] at hd
    case int i =>
      split at hd
      · rename_i hl
        cases e : atI z.cps.toList i with
        | none => rw [e] at hd; cases hd
        | some c =>
          rw [e] at hd
          cases hd
          exact ix_str value slice pins s σ H _ _ _ _ Q I r1 r2 ⟨z, i, c, rfl, rfl, hl, e, k _ (.str _)⟩ hs
      · cases hd
  | lst ha ra => cases ry <;> simp only [subD, reduceCtorEq] at hd; exact go (lst ⟨_, rfl, hd⟩)
  | scr ha => cases ry <;> simp only [subD, reduceCtorEq] at hd; exact go (lst ⟨_, rfl, hd⟩)
  | obj ha => cases ry <;> simp only [subD, reduceCtorEq] at hd; exact go (lst ⟨_, rfl, hd⟩)
  | _ => cases ry <;> simp [subD, rdL] at hd
theorem cut_rep {K : PySem.W.Frag} {F : Hp} {R : List Addr} {vs : List V} {xs : List D} (lo hi : Option Int) (r : RepAll K F R vs xs) : RepAll K F R (cutV vs lo hi) (cutL xs lo hi) := by
  unfold cutV cutL
  rw [r.length]
  exact (r.drop _).take _
def rSl (K : PySem.W.Frag) : V → Option Int → Option Int → Hp → VK → Prop := fun v lo hi H Q => ∃ F R S x d, RelS K F R H S ∧ Rep K F R v x ∧ slD S lo hi x = some d ∧ ∀ z F' H', Nw K F R H F' H' → Rep K F' R z d → Q z H'
theorem cut_all {xs : List V} {lo hi : Option Int} (h1 : HT.sIx xs.length 0 lo = 0) (h2 : HT.sIx xs.length xs.length hi = xs.length) : cutV xs lo hi = xs := by
  unfold cutV
  rw [h1, h2, List.drop_zero, Nat.sub_zero, List.take_length]
theorem sl_ok : SlR X (rSl X.K) := by
  intro pins s σ H v u1 vl vu lo hi sl Q I r1 hs pl pu h
  obtain ⟨F, R, S, x, d, rs, rx, hd, k⟩ := h
  have lst : (rdL S x).map (fun xs => D.lst (cutL xs lo hi)) = some d → (∃ T id, typeLookup (.type T) "__getitem__" = pure (some (.builtin id)) ∧ s.TypeIs u1 T ∧ wpAny (model X.prog X.w) X.A (getItem u1 (.ref sl)) (EP X pins σ Q) X.xe s) := fun e2 => by
    cases e : rdL S x with
    | none => rw [e] at e2; cases e2
    | some xs =>
      rw [e] at e2
      cases e2
      obtain ⟨a, vs, rfl, h1, h2⟩ := rdL_ok rs rx e
      refine sl_list pins s σ H _ _ _ _ _ _ _ Q I r1 hs pl pu ⟨a, vs, rfl, h1, fun p hp => ?_⟩
      have n : Nw X.K F R H (upd F p (.lst (cutV vs lo hi))) (upd H p (.lst (cutV vs lo hi))) := Nw.one hp rs.fh
      exact k _ _ _ n (.lst upd_same ((cut_rep lo hi h2).mono n.1.f n.1.r))
  cases rx with
  | @tup a vs xs ha ra =>
    simp only [slD, Option.some.injEq] at hd
    subst hd
    refine sl_tupA pins s σ H _ _ _ _ _ _ _ Q I r1 hs pl pu ⟨_, _, rfl, same_t rs.fh ha, fun ⟨e1, e2⟩ => ?_, fun _ p hp => ?_⟩
    · refine k _ F H .refl (.tup ha ?_)
      have q := cut_rep lo hi ra
      rw [cut_all e1 e2] at q
      exact q
    · have n : Nw X.K F R H (upd F p (.tup (cutV vs lo hi))) (upd H p (.tup (cutV vs lo hi))) := Nw.one hp rs.fh
      exact k _ _ _ n (.tup (SqT.of upd_same) ((cut_rep lo hi ra).mono n.1.f n.1.r))
  | str z =>
    simp only [slD] at hd
    split at hd
    · rename_i hl
      cases hd
      exact sl_str pins s σ H _ _ _ _ _ _ _ Q I r1 hs pl pu ⟨z, rfl, hl, k _ F H .refl (.str _)⟩
    · cases hd
  | lst ha ra => exact lst hd
  | scr ha => exact lst hd
  | obj ha => exact lst hd
  | _ => simp [slD, rdL] at hd
end
end Mn
/-! built-in functions and methods by values -/
namespace Mn
open PySem L2
theorem reps1 {K : PySem.W.Frag} {F : Hp} {R : List Addr} {vs : List V} {x : D} (r : RepAll K F R vs [x]) : ∃ v, vs = [v] ∧ Rep K F R v x := by
  cases r with
  | cons h t => cases t; exact ⟨_, rfl, h⟩
theorem reps2 {K : PySem.W.Frag} {F : Hp} {R : List Addr} {vs : List V} {x y : D} (r : RepAll K F R vs [x, y]) : ∃ v w, vs = [v, w] ∧ Rep K F R v x ∧ Rep K F R w y := by
  cases r with
  | cons h t =>
    obtain ⟨w, rfl, h2⟩ := reps1 t
    exact ⟨_, _, rfl, h, h2⟩
theorem ints_of {K : PySem.W.Frag} {F : Hp} {R : List Addr} : ∀ {vs : List V} {xs : List D} {ns : List Int}, RepAll K F R vs xs → intsD xs = some ns → vs = ns.map V.int
  | _, _, _, .nil, h => by cases h; rfl
  | _, _, ns, .cons (ds := ds) q t, h => by
    cases q <;> simp only [intsD, reduceCtorEq] at h
    case int i =>
      cases e : intsD ds with
      | none => rw [e] at h; cases h
      | some ms => rw [e] at h; cases h; rw [ints_of t e]; rfl
theorem bls_of {K : PySem.W.Frag} {F : Hp} {R : List Addr} : ∀ {vs : List V} {xs : List D} {ns : List Bool}, RepAll K F R vs xs → blsD xs = some ns → vs = ns.map V.bl
  | _, _, _, .nil, h => by cases h; rfl
  | _, _, ns, .cons (ds := ds) q t, h => by
    cases q <;> simp only [blsD, reduceCtorEq] at h
    case bl i =>
      cases e : blsD ds with
      | none => rw [e] at h; cases h
      | some ms => rw [e] at h; cases h; rw [bls_of t e]; rfl
section
variable {X : Cx}
def rBlt (K : PySem.W.Frag) (b : Bi) : List V → Hp → VK → Prop := fun vs H Q => ∃ F R S xs d, RelS K F R H S ∧ RepAll K F R vs xs ∧ blD S b xs = some d ∧ ∀ z F' H', Nw K F R H F' H' → Rep K F' R z d → Q z H'
/-- the value that the name stands for -/
def fBi : Bi → Value
  | .len => .builtin "len" | .abs => .builtin "abs" | .int => .type "int" | .str => .type "str" | .repr => .builtin "repr"
  | .all => .builtin "all" | .any => .builtin "any" | .sum => .builtin "sum" | .max => .builtin "max" | .min => .builtin "min"
  | .tuple => .type "tuple" | .list => .type "list" | .divmod => .builtin "divmod" | .sorted => .builtin "sorted" | .isinst => .builtin "isinstance"
  | .range => .type "range"
structure BOk (X : Cx) : Prop where
  calm : X.calm = true
  un : X.A.units + 65 < cLine
  gd : X.A.guards = some []
theorem fr_of {F H : Hp} {p : Addr} (fh : Same F H) (hp : H p = none) : F p = none := fh.free hp
theorem lenL {S : Sto} {d : D} {r : D} (h : (rdL S d).map (fun xs => D.int (xs.length : Int)) = some r) : ∃ xs, rdL S d = some xs ∧ r = .int (xs.length : Int) := by
  cases e : rdL S d with
  | none => rw [e] at h; cases h
  | some xs => rw [e] at h; cases h; exact ⟨xs, rfl, rfl⟩
theorem bl_len (b : BOk X) : CallR X (.builtin "len") (rBlt X.K .len) := by
  intro pins s σ H vs us Q I r h
  obtain ⟨F, R, S, xs, d, rs, ra, hd, k⟩ := h
  have sq : ∀ (x : D) (v : V), Rep X.K F R v x → vs = [v] → (rdL S x).map (fun xs => D.int (xs.length : Int)) = some d → wpAny (model X.prog X.w) X.A (call (.builtin "len") us) (EP X pins σ Q) X.xe s := fun x v rv ev e => by
    obtain ⟨ys, e1, rfl⟩ := lenL e
    subst ev
    obtain ⟨a, ws, rfl, h1, h2⟩ := rdL_ok rs rv e1
    refine call_len_seq pins s σ H _ us Q I r ⟨a, ws, rfl, .inl h1, ?_⟩
    rw [h2.length]
    exact k _ F H .refl (.int _)
  match xs, hd with
  | [x], hd =>
    obtain ⟨v, rfl, rv⟩ := reps1 ra
    cases rv with
    | str z =>
      simp only [blD] at hd
      split at hd
      · rename_i hl
        cases hd
        exact call_len_str pins s σ H _ us Q I r ⟨z, rfl, hl, k _ F H .refl (.int _)⟩
      · cases hd
    | tup ha rb =>
      cases hd
      refine call_len_seq pins s σ H _ us Q I r ⟨_, _, rfl, .inr (same_t rs.fh ha), ?_⟩
      rw [rb.length]
      exact k _ F H .refl (.int _)
    | lst ha rb => exact sq _ _ (.lst ha rb) rfl hd
    | scr ha => exact sq _ _ (.scr ha) rfl hd
    | obj ha => exact sq _ _ (.obj ha) rfl hd
    | _ => simp [blD, rdL] at hd
  | [], hd => simp [blD] at hd
  | _ :: _ :: _, hd => simp [blD] at hd
theorem bl_abs : CallR X (.builtin "abs") (rBlt X.K .abs) := by
  intro pins s σ H vs us Q I r h
  obtain ⟨F, R, S, xs, d, rs, ra, hd, k⟩ := h
  unfold blD at hd
  split at hd <;> first | contradiction | skip
  rename_i i _
  cases hd
  obtain ⟨v, rfl, rv⟩ := reps1 ra
  cases rv
  exact call_abs pins s σ H _ us Q I r ⟨i, rfl, k _ F H .refl (.int _)⟩
theorem bl_int : CallR X (.type "int") (rBlt X.K .int) := by
  intro pins s σ H vs us Q I r h
  obtain ⟨F, R, S, xs, d, rs, ra, hd, k⟩ := h
  unfold blD at hd
  split at hd <;> first | contradiction | skip
  · cases hd
    obtain ⟨v, rfl, rv⟩ := reps1 ra
    cases rv
    exact call_int1 pins s σ H _ us Q I r (.inl ⟨_, rfl, k _ F H .refl (.int _)⟩)
  · cases hd
    obtain ⟨v, rfl, rv⟩ := reps1 ra
    cases rv
    exact call_int1 pins s σ H _ us Q I r (.inr ⟨_, rfl, k _ F H .refl (.int _)⟩)
  · rename_i a _
    obtain ⟨v, rfl, rv⟩ := reps1 ra
    cases rv
    split at hd
    · rename_i hl
      cases e : intText? a with
      | none => rw [e] at hd; cases hd
      | some n =>
        rw [e] at hd
        cases hd
        exact call_int_str pins s σ H _ us Q I r ⟨a, n, rfl, e, hl, k _ F H .refl (.int _)⟩
    · cases hd
theorem bl_str : CallR X (.type "str") (rBlt X.K .str) := by
  intro pins s σ H vs us Q I r h
  obtain ⟨F, R, S, xs, d, rs, ra, hd, k⟩ := h
  unfold blD at hd
  split at hd <;> first | contradiction | skip
  · obtain ⟨v, rfl, rv⟩ := reps1 ra
    cases rv
    split at hd
    · rename_i hl
      cases hd
      exact call_str_int pins s σ H _ us Q I r ⟨_, rfl, hl, k _ F H .refl (.str _)⟩
    · cases hd
  · cases hd
    obtain ⟨v, rfl, rv⟩ := reps1 ra
    cases rv
    exact SkE.call_str_str pins s σ H _ us Q I r ⟨_, rfl, k _ F H .refl (.str _)⟩
theorem bl_all (b : BOk X) : CallR X (.builtin "all") (rBlt X.K .all) := by
  intro pins s σ H vs us Q I r h
  obtain ⟨F, R, S, xs, d, rs, ra, hd, k⟩ := h
  unfold blD at hd
  split at hd <;> first | contradiction | skip
  rename_i ys _
  obtain ⟨v, rfl, rv⟩ := reps1 ra
  cases e : blsD ys with
  | none => rw [e] at hd; cases hd
  | some bs =>
    rw [e] at hd
    cases hd
    cases rv with
    | lst ha rb =>
      have q := bls_of rb e
      subst q
      exact cr_all b.calm pins s σ H _ us Q I r ⟨_, bs, rfl, SqL.of (rs.fh _ _ ha), k _ F H .refl (.bl _)⟩
theorem bl_any (b : BOk X) : CallR X (.builtin "any") (rBlt X.K .any) := by
  intro pins s σ H vs us Q I r h
  obtain ⟨F, R, S, xs, d, rs, ra, hd, k⟩ := h
  unfold blD at hd
  split at hd <;> first | contradiction | skip
  rename_i ys _
  obtain ⟨v, rfl, rv⟩ := reps1 ra
  cases e : blsD ys with
  | none => rw [e] at hd; cases hd
  | some bs =>
    rw [e] at hd
    cases hd
    cases rv with
    | lst ha rb =>
      have q := bls_of rb e
      subst q
      exact cr_any b.calm pins s σ H _ us Q I r ⟨_, bs, rfl, SqL.of (rs.fh _ _ ha), k _ F H .refl (.bl _)⟩
theorem bl_sum (b : BOk X) : CallR X (.builtin "sum") (rBlt X.K .sum) := by
  intro pins s σ H vs us Q I r h
  obtain ⟨F, R, S, xs, d, rs, ra, hd, k⟩ := h
  unfold blD at hd
  split at hd <;> first | contradiction | skip
  rename_i ys _
  obtain ⟨v, rfl, rv⟩ := reps1 ra
  cases e : intsD ys with
  | none => rw [e] at hd; cases hd
  | some ns =>
    rw [e] at hd
    cases hd
    cases rv with
    | lst ha rb =>
      have q := ints_of rb e
      subst q
      exact cr_sum b.calm pins s σ H _ us Q I r ⟨_, ns, rfl, SqL.of (rs.fh _ _ ha), k _ F H .refl (.int _)⟩
theorem bl_max (b : BOk X) : CallR X (.builtin "max") (rBlt X.K .max) := by
  intro pins s σ H vs us Q I r h
  obtain ⟨F, R, S, xs, d, rs, ra, hd, k⟩ := h
  unfold blD at hd
  split at hd <;> first | contradiction | skip
  cases hd
  obtain ⟨v, w, rfl, rv, rw'⟩ := reps2 ra
  cases rv
  cases rw'
  exact call_max2 b.calm pins s σ H _ us Q I r ⟨_, _, rfl, k _ F H .refl (.int _)⟩
theorem bl_min (b : BOk X) : CallR X (.builtin "min") (rBlt X.K .min) := by
  intro pins s σ H vs us Q I r h
  obtain ⟨F, R, S, xs, d, rs, ra, hd, k⟩ := h
  unfold blD at hd
  split at hd <;> first | contradiction | skip
  cases hd
  obtain ⟨v, w, rfl, rv, rw'⟩ := reps2 ra
  cases rv
  cases rw'
  exact call_min2 b.calm pins s σ H _ us Q I r ⟨_, _, rfl, k _ F H .refl (.int _)⟩
theorem bl_tuple : CallR X (.type "tuple") (rBlt X.K .tuple) := by
  intro pins s σ H vs us Q I r h
  obtain ⟨F, R, S, xs, d, rs, ra, hd, k⟩ := h
  unfold blD at hd
  split at hd <;> first | contradiction | skip
  · cases hd
    obtain ⟨v, rfl, rv⟩ := reps1 ra
    cases rv with
    | tup ha rb => exact call_tuple_of pins s σ H _ us Q I r ⟨_, _, rfl, .inr ⟨same_t rs.fh ha, k _ F H .refl (.tup ha rb)⟩⟩
  · cases hd
    obtain ⟨v, rfl, rv⟩ := reps1 ra
    cases rv with
    | @lst a ws _ ha rb =>
      refine call_tuple_of pins s σ H _ us Q I r ⟨_, _, rfl, .inl ⟨SqL.of (rs.fh _ _ ha), fun p hp => ?_⟩⟩
      have n : Nw X.K F R H (upd F p (.tup ws)) (upd H p (.tup ws)) := Nw.one hp rs.fh
      exact k _ _ _ n (.tup (SqT.of upd_same) (rb.mono n.1.f n.1.r))
theorem bl_list : CallR X (.type "list") (rBlt X.K .list) := by
  intro pins s σ H vs us Q I r h
  obtain ⟨F, R, S, xs, d, rs, ra, hd, k⟩ := h
  unfold blD at hd
  split at hd <;> first | contradiction | skip
  · cases hd
    obtain ⟨v, rfl, rv⟩ := reps1 ra
    cases rv with
    | @tup a ws _ ha rb =>
      refine call_list_of pins s σ H _ us Q I r ⟨_, _, rfl, .inr (same_t rs.fh ha), fun p hp => ?_⟩
      have n : Nw X.K F R H (upd F p (.lst ws)) (upd H p (.lst ws)) := Nw.one hp rs.fh
      exact k _ _ _ n (.lst upd_same (rb.mono n.1.f n.1.r))
  · cases hd
    obtain ⟨v, rfl, rv⟩ := reps1 ra
    cases rv with
    | @lst a ws _ ha rb =>
      refine call_list_of pins s σ H _ us Q I r ⟨_, _, rfl, .inl (SqL.of (rs.fh _ _ ha)), fun p hp => ?_⟩
      have n : Nw X.K F R H (upd F p (.lst ws)) (upd H p (.lst ws)) := Nw.one hp rs.fh
      exact k _ _ _ n (.lst upd_same (rb.mono n.1.f n.1.r))
theorem bl_divmod : CallR X (.builtin "divmod") (rBlt X.K .divmod) := by
  intro pins s σ H vs us Q I r h
  obtain ⟨F, R, S, xs, d, rs, ra, hd, k⟩ := h
  unfold blD at hd
  split at hd <;> first | contradiction | skip
  rename_i i j _
  split at hd
  · rename_i hm
    cases hd
    obtain ⟨v, w, rfl, rv, rw'⟩ := reps2 ra
    cases rv
    cases rw'
    have c : CDivW i j := divOk_of hm
    refine call_divmodW pins s σ H _ us Q I r ⟨i, j, rfl, ⟨c.1, PyProof.noPylong_of_log2 c.2⟩, fun p hp => ?_⟩
    have n : Nw X.K F R H (upd F p (.tup [V.int (i / j), V.int (i % j)])) (upd H p (.tup [V.int (i / j), V.int (i % j)])) := Nw.one hp rs.fh
    exact k _ _ _ n (.tup (SqT.of upd_same) (.cons (.int _) (.cons (.int _) .nil)))
  · cases hd
theorem tup_ty {H : Hp} {a : Addr} {ws : List V} (h : SqT X.K H a ws) : TyX X.K H (.ref a) (.type "tuple") := by
  rcases h with (h | ⟨o, h⟩) | ⟨o, its, n, h1, h2, _⟩
  · exact .base (.tup h)
  · exact .fTuple h
  · exact .kTuple h1 h2
theorem bl_isinst : CallR X (.builtin "isinstance") (rBlt X.K .isinst) := by
  intro pins s σ H vs us Q I r h
  obtain ⟨F, R, S, xs, d, rs, ra, hd, k⟩ := h
  unfold blD at hd
  split at hd <;> first | contradiction | skip
  rename_i x T _
  obtain ⟨v, w, rfl, rv, rw'⟩ := reps2 ra
  cases rw'
  cases e : isTy x T with
  | none => rw [e] at hd; cases hd
  | some b =>
    rw [e] at hd
    cases hd
    have go : ∀ t : String, TyX X.K H v (.type t) → kitB t T = some b → wpAny (model X.prog X.w) X.A (call (.builtin "isinstance") us) (EP X pins σ Q) X.xe s := fun t ty e2 =>
      call_isi pins s σ H _ us Q I r ⟨v, .ty T, .type t, .type T, b, rfl, .ty T, ty, kit_ty e2, k _ F H .refl (.bl _)⟩
    cases rv with
    | non => exact go "NoneType" (.base .non) e
    | bl c => exact go "bool" (.base (.bl c)) e
    | int i => exact go "int" (.base (.int i)) e
    | str z => exact go "str" (.base (.str z)) e
    | tup ha rb => exact go "tuple" (tup_ty (same_t rs.fh ha)) e
    | lst ha rb => exact go "list" (.base (.lst (rs.fh _ _ ha))) e
    | _ => simp [isTy] at e
theorem showD_ok {d : D} {x : Str} (h : showD d = some x) : ∃ p, d.py = some p ∧ p.showable = true ∧ p.depth ≤ 60 ∧ p.hasDict = false ∧ p.shown.length ≤ sizeLine ∧ x = p.shown := by
  unfold showD at h
  cases e : d.py with
  | none => rw [e] at h; cases h
  | some p =>
    rw [e] at h
    simp only [Bool.and_eq_true, decide_eq_true_eq, Bool.not_eq_true'] at h
    split at h
    · rename_i c
      cases h
      exact ⟨p, rfl, c.1.1.1, c.1.1.2, c.1.2, c.2, rfl⟩
    · cases h
theorem bl_repr (b : BOk X) : CallR X (.builtin "repr") (rBlt X.K .repr) := by
  intro pins s σ H vs us Q I r h
  obtain ⟨F, R, S, xs, d, rs, ra, hd, k⟩ := h
  unfold blD at hd
  split at hd <;> first | contradiction | skip
  rename_i x _
  obtain ⟨v, rfl, rv⟩ := reps1 ra
  cases e : showD x with
  | none => rw [e] at hd; cases hd
  | some y =>
    rw [e] at hd
    cases hd
    obtain ⟨p, h1, h2, h3, h4, h5, rfl⟩ := showD_ok e
    have hQ := k _ F H .refl (Rep.str (K := X.K) (F := F) (R := R) p.shown)
    have un := b.un
    obtain ⟨u, rfl, r1⟩ := vals1 r
    obtain ⟨as, rd⟩ := Dp.reads I p v u (rv.py rs.fh h1) r1
    have fin : ∀ h' w tk, (∀ b o, s.heap.get? b = some o → h'.get? b = some o) → EP X pins σ Q (.str p.shown w) { s with heap := h', toks := tk } := fun h' w tk hk => ⟨.str p.shown, H, I.kept hk, ⟨_, rfl⟩, hQ⟩
    have big : ∀ a, u = .ref a → wpAny (model X.prog X.w) X.A (call (.builtin "repr") [u]) (EP X pins σ Q) X.xe s := fun a ea => by
      subst ea
      exact repr_of_reads' rd h2 (fun z => by rw [h4] at z; cases z) b.gd (by omega) (fun _ _ q => q) fin h5
    cases rd with
    | none => exact PySem.P.repr_of_none (fin s.heap _ _ fun _ _ q => q)
    | bool c =>
      refine PySem.P.repr_of_bool ?_
      have := fin s.heap s.toks (s.toks + 1) fun _ _ q => q
      cases c <;> exact this
    | int i t => exact PySem.P.repr_of_int (by simpa [PyData.showable] using h2) (fin s.heap _ _ fun _ _ q => q)
    | str z t => exact PySem.P.repr_of_str (fin s.heap _ _ fun _ _ q => q) h5
    | list => exact big _ rfl
    | tuple => exact big _ rfl
    | dict => exact big _ rfl
theorem bi_ok (b : BOk X) : ∀ c : Bi, CallR X (fBi c) (rBlt X.K c)
  | .len => bl_len b
  | .abs => bl_abs
  | .int => bl_int
  | .str => bl_str
  | .repr => bl_repr b
  | .all => bl_all b
  | .any => bl_any b
  | .sum => bl_sum b
  | .max => bl_max b
  | .min => bl_min b
  | .tuple => bl_tuple
  | .list => bl_list
  | .divmod => bl_divmod
  | .isinst => bl_isinst
  | .sorted => by
    intro pins s σ H vs us Q I r h
    obtain ⟨F, R, S, xs, d, rs, ra, hd, k⟩ := h
    simp [blD] at hd
  | .range => by
    intro pins s σ H vs us Q I r h
    obtain ⟨F, R, S, xs, d, rs, ra, hd, k⟩ := h
    simp [blD] at hd
end
end Mn
/-! how arguments come to parameters; a def that keeps its promise (with nothing being written by repr around it) -/
namespace Mn
open PySem PySem.Spec PyProof.Rows L2
theorem zip_lookup {α : Type} : ∀ {ps : List Str} {us : List α} {n : Str}, us.length = ps.length → n ∈ ps → ∃ v, (ps.zip us).lookup n = some v
  | p :: ps, [], n, h, _ => by simp at h
  | p :: ps, u :: us, n, h, hn => by
    rw [List.zip_cons_cons, List.lookup_cons]
    by_cases e : n = p
    · subst e; exact ⟨u, by simp⟩
    · have : (n == p) = false := by simpa using e
      rw [this]
      exact zip_lookup (by simpa using h) (by simpa [e] using hn)
theorem fm_congr {α β : Type} {f g : α → Option β} : ∀ {l : List α}, (∀ n ∈ l, f n = g n) → l.filterMap f = l.filterMap g
  | [], _ => rfl
  | a :: l, h => by
    rw [List.filterMap_cons, List.filterMap_cons, h a List.mem_cons_self, fm_congr (l := l) fun n hn => h n (List.mem_cons_of_mem _ hn)]
theorem zip_binds {α : Type} : ∀ {ps : List Str} {us : List α}, us.length = ps.length → ps.Nodup → ps.filterMap (fun n => ((ps.zip us).lookup n).map fun v => (n, v)) = ps.zip us
  | [], us, h, _ => by cases us <;> simp_all
  | p :: ps, [], h, _ => by simp at h
  | p :: ps, u :: us, h, nd => by
    obtain ⟨h1, h2⟩ := List.nodup_cons.mp nd
    rw [List.filterMap_cons]
    simp only [List.zip_cons_cons, List.lookup_cons, beq_self_eq_true, Option.map_some]
    congr 1
    refine Eq.trans ?_ (zip_binds (us := us) (by simpa using h) h2)
    apply fm_congr
    intro n hn
    have e : (n == p) = false := by
      have : n ≠ p := fun z => h1 (z ▸ hn)
      simpa using this
    rw [e]
structure PlainP (a : Arguments) (ps : List Str) : Prop where
  pos : a.posonlyargs = []
  args : a.args.map (·.arg) = ps
  va : a.vararg = none
  ko : a.kwonlyargs = []
  kd : a.kw_defaults = []
  kw : a.kwarg = none
  df : a.defaults = []
theorem bind_plain {fd : FuncData} {ps : List Str} (h : PlainP fd.params ps) (hd : fd.defaults = .none) (nd : ps.Nodup) (us : List Value) (hl : us.length = ps.length) : bindArgs fd ⟨us, []⟩ = pure (ps.zip us) := by
  unfold bindArgs
  have e1 : seqItems? Value.none = pure none := rfl
  have e2 : (ps.filter fun n => ((ps.zip us).lookup n).isNone) = [] := by
    rw [List.filter_eq_nil_iff]
    intro n hn
    obtain ⟨v, hv⟩ := zip_lookup hl hn
    rw [hv]; simp
  simp only [h.pos, h.args, h.va, h.ko, h.kw, hd, e1, List.map_nil, List.nil_append, List.append_nil, pure_bind, Option.getD_none]
  simp [hl, e2, zip_binds hl nd]
theorem lookup_app {α : Type} {n : Str} : ∀ {a b : List (Str × α)}, (a ++ b).lookup n = match a.lookup n with | some v => some v | none => b.lookup n
  | [], b => rfl
  | (k, v) :: a, b => by
    rw [List.cons_append, List.lookup_cons, List.lookup_cons]
    cases n == k with
    | true => rfl
    | false => exact lookup_app
theorem forIn_kw {f : Str × Value → List (Str × Value) × List (Str × Value) → Sem (ForInStep (List (Str × Value) × List (Str × Value)))} : ∀ (kw s0 : List (Str × Value)),
    (∀ q ∈ kw, ∀ sl : List (Str × Value), sl.lookup q.1 = none → f q (sl, []) = pure (.yield (sl ++ [q], []))) → (∀ q ∈ kw, s0.lookup q.1 = none) → (kw.map (·.1)).Nodup → (forIn kw (s0, []) f : Sem _) = pure (s0 ++ kw, [])
  | [], s0, _, _, _ => by rw [List.forIn_nil, List.append_nil]
  | q :: kw, s0, h, hn, nd => by
    rw [List.forIn_cons, h q List.mem_cons_self s0 (hn q List.mem_cons_self), pure_bind]
    have nd2 := List.nodup_cons.mp (show (q.1 :: kw.map (·.1)).Nodup from nd)
    show (forIn kw (s0 ++ [q], []) f : Sem _) = _
    rw [forIn_kw kw (s0 ++ [q]) (fun p hp => h p (List.mem_cons_of_mem _ hp)) (fun p hp => ?_) nd2.2, List.append_assoc]
    · rfl
    · rw [lookup_app, hn p (List.mem_cons_of_mem _ hp)]
      have ne : p.1 ≠ q.1 := fun e => nd2.1 (e ▸ List.mem_map_of_mem hp)
      show List.lookup p.1 [(q.1, q.2)] = none
      rw [List.lookup_cons]
      have : (p.1 == q.1) = false := by simpa using ne
      rw [this]; rfl
theorem bind_kw {fd : FuncData} {ps : List Str} (h : PlainP fd.params ps) (hd : fd.defaults = .none) (us : List Value) (kw : List (Str × Value)) (hp : ∀ q ∈ kw, q.1 ∈ ps) (hl : us.length ≤ ps.length) (ndk : (kw.map (·.1)).Nodup) (hn : ∀ q ∈ kw, ((ps.zip us).lookup q.1) = none)
    (hall : ∀ n ∈ ps, ((ps.zip us ++ kw).lookup n).isSome = true) :
    bindArgs fd ⟨us, kw⟩ = pure (ps.filterMap fun n => ((ps.zip us ++ kw).lookup n).map fun v => (n, v)) := by
  unfold bindArgs
  have e1 : seqItems? Value.none = pure none := rfl
  have e2 : (ps.filter fun n => ((ps.zip us ++ kw).lookup n).isNone) = [] := by
    rw [List.filter_eq_nil_iff]
    intro n hn
    have := hall n hn
    cases e : (ps.zip us ++ kw).lookup n with
    | none => rw [e] at this; cases this
    | some v => simp
  simp only [h.pos, h.args, h.va, h.ko, h.kw, hd, e1, List.map_nil, List.nil_append, List.append_nil, pure_bind, Option.getD_none]
  rw [forIn_kw kw (ps.zip us) (fun q hq sl e => ?_) hn ndk]
  · simp [Nat.not_lt.mpr hl, e2]
  · simp [hp q hq, e]
theorem zip_look {α : Type} : ∀ {ps : List Str} {us : List α} {j : Nat} {n : Str} {u : α}, ps.Nodup → ps[j]? = some n → us[j]? = some u → (ps.zip us).lookup n = some u
  | [], _, _, _, _, _, h, _ => by simp at h
  | _ :: _, [], _, _, _, _, _, h => by simp at h
  | p :: ps, w :: us, 0, n, u, _, h1, h2 => by
    simp at h1 h2
    subst h1 h2
    simp
  | p :: ps, w :: us, j + 1, n, u, nd, h1, h2 => by
    obtain ⟨g1, g2⟩ := List.nodup_cons.mp nd
    have e : (n == p) = false := by
      have : n ≠ p := fun z => g1 (z ▸ List.mem_of_getElem? (by simpa using h1))
      simpa using this
    rw [List.zip_cons_cons, List.lookup_cons, e]
    exact zip_look g2 (by simpa using h1) (by simpa using h2)
theorem zip_look0 {α : Type} : ∀ {ps : List Str} {us : List α} {n : Str}, n ∉ ps.take us.length → (ps.zip us).lookup n = none
  | [], _, _, _ => rfl
  | _ :: _, [], _, _ => rfl
  | p :: ps, w :: us, n, h => by
    simp only [List.length_cons, List.take_succ_cons, List.mem_cons, not_or] at h
    have e : (n == p) = false := by simpa using h.1
    rw [List.zip_cons_cons, List.lookup_cons, e]
    exact zip_look0 h.2
/-- the names kn of the keywords stand for the parameters from the n-th on, in the order ks -/
def kwC (ps : List Str) (n : Nat) (kn : List Str) (ks : List Nat) : Bool :=
  decide (ps.Nodup) && decide (kn.Nodup) && decide (kn.length + n = ps.length) && decide (ps.drop n = ks.map fun k => kn.getD k Str.empty) && ks.all (fun k => decide (k < kn.length)) && kn.all (fun x => decide (x ∈ ps.drop n))
theorem bind_k {fd : FuncData} {ps : List Str} {n : Nat} {kn : List Str} {ks : List Nat} (h : PlainP fd.params ps) (hd : fd.defaults = .none) (c : kwC ps n kn ks = true) (us ws : List Value) (hu : us.length = n) (hw : ws.length = kn.length) :
    bindArgs fd ⟨us, kn.zip ws⟩ = pure (ps.zip (us ++ ks.map fun k => ws.getD k .none)) := by
  unfold kwC at c
  simp only [Bool.and_eq_true, decide_eq_true_eq, List.all_eq_true] at c
  obtain ⟨⟨⟨⟨⟨c1, c2⟩, c3⟩, c4⟩, c5⟩, inD⟩ := c
  have hk : (kn.zip ws).map (·.1) = kn := by rw [List.map_fst_zip (by omega)]
  have hle : us.length ≤ ps.length := by omega
  have nin : ∀ x ∈ kn, x ∉ ps.take n := fun x hx hm => by
    have h2 := inD x hx
    have nd2 : (ps.take n ++ ps.drop n).Nodup := by rw [List.take_append_drop]; exact c1
    exact (List.nodup_append.mp nd2).2.2 x hm x h2 rfl
  have look : ∀ j x, ps[j]? = some x → (ps.zip us ++ kn.zip ws).lookup x = (us ++ ks.map fun k => ws.getD k .none)[j]? := fun j x hj => by
    rw [lookup_app]
    by_cases hjn : j < n
    · have hu' : us[j]? = some us[j] := List.getElem?_eq_getElem (by omega)
      rw [zip_look c1 hj hu', List.getElem?_append_left (by omega), hu']
    · have hx : (ps.drop n)[j - n]? = some x := by rw [List.getElem?_drop]; rw [show n + (j - n) = j by omega]; exact hj
      have hnt : x ∉ ps.take us.length := by
        rw [hu]
        intro hm
        have nd2 : (ps.take n ++ ps.drop n).Nodup := by rw [List.take_append_drop]; exact c1
        exact (List.nodup_append.mp nd2).2.2 x hm x (List.mem_of_getElem? hx) rfl
      rw [zip_look0 hnt]
      rw [c4, List.getElem?_map] at hx
      rw [List.getElem?_append_right (by omega), hu, List.getElem?_map]
      cases e : ks[j - n]? with
      | none => rw [e] at hx; cases hx
      | some k =>
        rw [e] at hx
        have hk2 := c5 k (List.mem_of_getElem? e)
        have ex : kn[k]? = some x := by
          rw [← Option.some.inj hx]
          show kn[k]? = some (kn.getD k Str.empty)
          rw [List.getD_eq_getElem?_getD, List.getElem?_eq_getElem hk2]; rfl
        have ew : ws[k]? = some (ws.getD k .none) := by
          rw [List.getD_eq_getElem?_getD, List.getElem?_eq_getElem (by omega)]; rfl
        show (kn.zip ws).lookup x = some (ws.getD k .none)
        exact zip_look c2 ex ew
  have hlk : ks.length = ps.length - n := by
    have := congrArg List.length c4
    simp at this
    omega
  have hlen2 : (us ++ ks.map fun k => ws.getD k Value.none).length = ps.length := by
    rw [List.length_append, List.length_map]; omega
  rw [bind_kw h hd us (kn.zip ws) (fun q hq => ?_) hle (by rw [hk]; exact c2) (fun q hq => ?_) (fun x hx => ?_)]
  · congr 1
    rw [← zip_binds hlen2 c1]
    apply fm_congr
    intro x hx
    obtain ⟨j, hj⟩ := List.mem_iff_getElem?.mp hx
    have hj2 : (us ++ ks.map fun k => ws.getD k Value.none)[j]? = some ((us ++ ks.map fun k => ws.getD k Value.none)[j]'(by rw [hlen2]; exact (List.getElem?_eq_some_iff.mp hj).1)) := List.getElem?_eq_getElem _
    rw [look j x hj, zip_look c1 hj hj2, hj2]
  · have : q.1 ∈ (kn.zip ws).map (·.1) := List.mem_map_of_mem hq
    rw [hk] at this
    exact List.mem_of_mem_drop (inD _ this)
  · have : q.1 ∈ (kn.zip ws).map (·.1) := List.mem_map_of_mem hq
    rw [hk] at this
    exact zip_look0 (by rw [hu]; exact nin _ this)
  · obtain ⟨j, hj⟩ := List.mem_iff_getElem?.mp hx
    rw [look j x hj, List.getElem?_eq_getElem (by rw [hlen2]; exact (List.getElem?_eq_some_iff.mp hj).1)]
    rfl
/-! ### a def's promise, where no repr is on its way -/
structure RoomG (k : Nat) (A : Around) : Prop where
  rm : Room k A
  gd : A.guards = some []
theorem RoomG.mono {j k : Nat} {A : Around} (r : RoomG k A) (h : j ≤ k) : RoomG j A := ⟨r.rm.mono h, r.gd⟩
/-- what a def promises: the arguments, the heap, what follows -/
abbrev Sq := List V → Hp → VK → Prop
structure FnG (P : Program) (w : World) (K : PySem.W.Frag) (mg : Str → Option Value) (base : Heap) (k : Nat) (f : Addr) (fd : FuncData) (ps : List Str) (sp : Sq) : Prop where
  len : ∀ vs H Q, sp vs H Q → vs.length = ps.length
  run : ∀ (A : Around) (outer : List Env) (s : Shared) (H : Hp) (args : Args) (us : List Value) (vs : List V) (Q : VK), RoomG k A → Env0 P w K mg base A outer s H →
    BindsTo s fd args (ps.zip us) → Vals vs us → sp vs H Q → codeAny (model P w) A (.call (.ref f) args) (CR CX0 outer P w H s Q E0) s
section
variable {P : Program} {w : World} {K : PySem.W.Frag} {mg : Str → Option Value} {base : Heap} {k : Nat} {f : Addr} {fd : FuncData} {N ps : List Str} {sp : Sq} {x qual : Str} {params : Arguments} {body : List Stmt} {scope : Scope}
theorem FnG.of (F : FunD K x qual params body scope [] [] f fd) (S : FnScope N ps scope) (len : ∀ vs H Q, sp vs H Q → vs.length = ps.length)
    (hbody : ∀ (cdv : Value) (A : Around) (outer : List Env) (s : Shared) (H : Hp) (vs : List V) (Q : VK), RoomG k (A.deeper (envOfC qual scope s.heap.objs.size f cdv)) → sp vs H Q →
      ∃ t, PSs (cxOf CX0 P w K mg base N qual scope f cdv A outer s H E0).nox body t ∧ t { nx := fun _ H' => Q .non H', rt := Q } (start N vs) H) : FnG P w K mg base (k + 1) f fd ps sp := by
  obtain ⟨oc, od, dV, kV, doc, pm, an, cdv, ct, osl, e, lk, hcd, _, _⟩ := F.ex
  subst e
  constructor
  · exact len
  intro A outer s H args us vs Q hr e0 hb r hsp
  have hl := len _ _ _ hsp
  have kin := e0.mod.kin.keeps fun b o e => (e0.bs b o e).1
  have lim := e0.mod.nolimit.keeps fun b o e => (e0.bs b o e).1
  have kinds : ∀ y ∈ ps.zip us, scope.names.lookup y.1 = some .local ∨ (scope.names.lookup y.1 = some .cell ∧ ((cellsFrom (s.heap.objs.size + 1) scope.names []).lookup y.1).isSome = true) := by
    rintro ⟨n, v⟩ hy
    exact (S.par n (List.of_mem_zip hy).1).imp id fun q => ⟨q, PySem.W.cellsFrom_some _ _ _ (.inl q)⟩
  refine codeAny_call_function hr.rm.depth (kin _ _ lk) rfl S.co S.gen rfl (PySem.W.codeRec_of kin hcd) (hb _ _ _ _ ?_)
  refine wpAny_newFunctionEnv_cells S.kind kinds fun env he s1 x => ?_
  subst he
  refine ⟨lim.keeps x.toInCall.keep, codeAny_func ?_⟩
  obtain ⟨t, ht, hq⟩ := hbody cdv A outer s H vs Q ⟨hr.rm.deeper _, hr.gd⟩ hsp
  have I := inv_start (CX := CX0) (E := E0) (cd := cdv) S hr.rm.hd e0 hl r x
  have fin : ∀ {σ' : L2.St} {H' : Hp} {v : V} {u : Value} {s' : Shared}, Inv (cxOf CX0 P w K mg base N qual scope f cdv A outer s H E0) [] σ' H' s' → RelV v u → Q v H' → CE outer P w H s Q u s' :=
    fun {σ' H' v u s'} J rv q => ⟨v, H', J.os, J.bare, J.base, J.hok, rv, q⟩
  refine wpAny_mono (ht.nox.run [] s1 (start N vs) H _ I hq) (fun fl s' hs => ?_) fun _ _ hs => hs
  cases fl with
  | next =>
    obtain ⟨_, _, J, q⟩ := hs
    exact fin (v := .non) (u := .none) J rfl q
  | ret u =>
    obtain ⟨_, _, _, J, rv, q⟩ := hs
    exact fin J rv q
  | brk =>
    obtain ⟨_, _, _, q⟩ := hs
    exact q.elim
  | cont =>
    obtain ⟨_, _, _, q⟩ := hs
    exact q.elim
theorem FnG.mono {j : Nat} (F : FnG P w K mg base j f fd ps sp) (h : j ≤ k) : FnG P w K mg base k f fd ps sp := ⟨F.len, fun A outer s H args us vs Q hr => F.run A outer s H args us vs Q (hr.mono h)⟩
end
section
variable {X : Cx} {k : Nat} {f : Addr} {fd : FuncData} {ps : List Str} {sp : Sq} {pins : List (Addr × Obj)} {σ : L2.St} {H : Hp} {s : Shared} {Q : VK}
/-- the callee runs -/
theorem run_fnG {args : Args} {us : List Value} {vs : List V} (F : FnG X.prog X.w X.K X.mg X.base k f fd ps sp) (hr : RoomG k X.A) (hb : BindsTo s fd args (ps.zip us)) (I : Inv X pins σ H s) (r : Vals vs us) (h : sp vs H Q) :
    wpAny (model X.prog X.w) X.A (call (.ref f) args.pos args.kw) (EP X pins σ Q) X.xe s := by
  refine wpAny_call (codeAny_mono (F.run X.A X.stack s H args us vs Q hr I.env0 hb r h) fun r s' hq => ?_)
  match r, hq with
  | .ok (.ret _), hq => exact I.after hq
theorem pe_callG {e : Expr} {es : List Expr} {t : TA} {x : Str} {p pos : Pos} (F : FnG X.prog X.w X.K X.mg X.base k f fd ps sp) (hr : RoomG k X.A) (hg : Gl X x) (hm : X.mg x = some (.ref f)) (hk : PySem.W.keepIn X.K (.ref f) = true) (hp : PlainP fd.params ps) (hd : fd.defaults = .none) (nd : ps.Nodup)
    (ha : PA X (e :: es) t) (hdb : (x == ("__debug__" : Str)) = false) (he : starEach (e :: es) X.env = (false, eval e X.env) :: starEach es X.env) (hpl : (backTo pos (starEach es X.env)).any (·.1) = false) :
    PE X (.Call (.Name x p) (e :: es) [] pos) (fun σ H Q => t σ H fun vs H1 => sp vs H1 Q) := by
  constructor
  intro pins s σ H Q I h
  refine wpAny_Call_Name_kw (ld_glob I hg hm ?_ hdb)
  refine PySem.W.callWith_K (h₀ := X.base) I.ok.mod.kin hk (thn (ha.run pos pins s σ H _ I h) ?_) he hpl
  rintro us s1 ⟨vs, H1, I1, r, q⟩
  have hl : us.length = ps.length := by rw [← r.length]; exact F.len _ _ _ q
  exact ⟨I1.kIn, run_fnG (args := ⟨us, []⟩) F hr (.of_eq (bind_plain hp hd nd us hl)) I1 r q⟩
theorem pe_callG0 {x : Str} {p pos : Pos} (F : FnG X.prog X.w X.K X.mg X.base k f fd ps sp) (hr : RoomG k X.A) (hg : Gl X x) (hm : X.mg x = some (.ref f)) (hk : PySem.W.keepIn X.K (.ref f) = true) (hp : PlainP fd.params ps) (hd : fd.defaults = .none) (nd : ps.Nodup)
    (hdb : (x == ("__debug__" : Str)) = false) : PE X (.Call (.Name x p) [] [] pos) (fun _ H Q => sp [] H Q) := by
  constructor
  intro pins s σ H Q I h
  refine wpAny_Call_Name_kw (ld_glob I hg hm ?_ hdb)
  have hl : ([] : List Value).length = ps.length := F.len _ _ _ h
  exact PySem.W.callWith_K0 I.kIn hk (run_fnG (args := ⟨[], []⟩) F hr (.of_eq (bind_plain hp hd nd [] hl)) I .nil h)
/-- the values in the parameters' order -/
def kwV {α : Type} (z : α) (ks : List Nat) (vs zs : List α) : List α := vs ++ ks.map fun k => zs.getD k z
theorem vals_getD {vs : List V} {us : List Value} (r : Vals vs us) (k : Nat) : RelV (vs.getD k .non) (us.getD k .none) := by
  rw [List.getD_eq_getElem?_getD, List.getD_eq_getElem?_getD]
  cases e : vs[k]? with
  | none => rw [r.none_of e]; exact rfl
  | some v =>
    obtain ⟨u, h1, h2⟩ := r.get e
    rw [h1]
    exact h2
theorem vals_kwV {vs zs : List V} {us ws : List Value} (r : Vals vs us) (q : Vals zs ws) (ks : List Nat) : Vals (kwV .non ks vs zs) (kwV .none ks us ws) := by
  unfold kwV
  refine r.append ?_
  induction ks with
  | nil => exact .nil
  | cons k ks ih => exact .cons (vals_getD q k) ih
theorem pe_callGK {e : Expr} {es : List Expr} {kws : List Keyword} {t tk : TA} {x : Str} {p pos : Pos} {kn : List Str} {ks : List Nat} {n : Nat} (F : FnG X.prog X.w X.K X.mg X.base k f fd ps sp) (hr : RoomG k X.A) (hg : Gl X x) (hm : X.mg x = some (.ref f)) (hk : PySem.W.keepIn X.K (.ref f) = true) (hp : PlainP fd.params ps) (hd : fd.defaults = .none)
    (c : kwC ps n kn ks = true) (hn : ∀ {σ H Q}, t σ H Q → t σ H fun vs H1 => vs.length = n ∧ Q vs H1) (hz : ∀ {σ H Q}, tk σ H Q → tk σ H fun vs H1 => vs.length = kn.length ∧ Q vs H1)
    (ha : PA X (e :: es) t) (hkw : PK X kws tk) (hall : (backToKw pos (keywordEach kws X.env)).all (·.1.isSome) = true) (hks : (backToKw pos (keywordEach kws X.env)).filterMap (·.1) = kn)
    (hdb : (x == ("__debug__" : Str)) = false) (he : starEach (e :: es) X.env = (false, eval e X.env) :: starEach es X.env)
    (hpl : ((backTo pos (starEach (e :: es) X.env)).any (·.1) || (backToKw pos (keywordEach kws X.env)).any (·.1.isNone)) = false) :
    PE X (.Call (.Name x p) (e :: es) kws pos) (fun σ H Q => t σ H fun vs H1 => tk σ H1 fun zs H2 => sp (kwV .non ks vs zs) H2 Q) := by
  constructor
  intro pins s σ H Q I h
  refine wpAny_Call_Name_kw (ld_glob I hg hm ?_ hdb)
  refine PySem.W.callWith_KW (h₀ := X.base) I.ok.mod.kin hk hall (thn (ha.run pos pins s σ H _ I (hn h)) ?_) hpl he
  rintro us s1 ⟨vs, H1, I1, r, l1, q⟩
  refine thn (hkw.run pos pins s1 σ H1 _ I1 (hz q)) ?_
  rintro ws s2 ⟨zs, H2, I2, rz, l2, q2⟩
  refine ⟨I2.kIn, ?_⟩
  rw [hks]
  have b := bind_k hp hd c us ws (by rw [← r.length]; exact l1) (by rw [← rz.length]; exact l2)
  exact run_fnG (args := ⟨us, kn.zip ws⟩) F hr (.of_eq b) I2 (vals_kwV r rz ks) q2
/-- f(k = v, ..): keywords alone -/
theorem pe_callGK0 {kws : List Keyword} {tk : TA} {x : Str} {p pos : Pos} {kn : List Str} {ks : List Nat} (F : FnG X.prog X.w X.K X.mg X.base k f fd ps sp) (hr : RoomG k X.A) (hg : Gl X x) (hm : X.mg x = some (.ref f)) (hk : PySem.W.keepIn X.K (.ref f) = true) (hp : PlainP fd.params ps) (hd : fd.defaults = .none)
    (c : kwC ps 0 kn ks = true) (hz : ∀ {σ H Q}, tk σ H Q → tk σ H fun vs H1 => vs.length = kn.length ∧ Q vs H1)
    (hkw : PK X kws tk) (hall : (backToKw pos (keywordEach kws X.env)).all (·.1.isSome) = true) (hks : (backToKw pos (keywordEach kws X.env)).filterMap (·.1) = kn)
    (hdb : (x == ("__debug__" : Str)) = false) (hpl : ((backTo pos (starEach [] X.env)).any (·.1) || (backToKw pos (keywordEach kws X.env)).any (·.1.isNone)) = false) :
    PE X (.Call (.Name x p) [] kws pos) (fun σ H Q => tk σ H fun zs H2 => sp (kwV .non ks [] zs) H2 Q) := by
  constructor
  intro pins s σ H Q I h
  refine wpAny_Call_Name_kw (ld_glob I hg hm ?_ hdb)
  refine PySem.W.callWith_KW0 (h₀ := X.base) I.ok.mod.kin hk hall (thn (hkw.run pos pins s σ H _ I (hz h)) ?_) hpl
  rintro ws s2 ⟨zs, H2, I2, rz, l2, q2⟩
  refine ⟨I2.kIn, ?_⟩
  rw [hks]
  have b := bind_k hp hd c [] ws rfl (by rw [← rz.length]; exact l2)
  exact run_fnG (args := ⟨[], kn.zip ws⟩) F hr (.of_eq b) I2 (vals_kwV .nil rz ks) q2
end
end Mn
/-! expressions: what the small language reckons is what the text's expressions come to -/
namespace Mn
open PySem PySem.Spec PyProof.Rows L2
abbrev Stt := L2.St
theorem bind_ok {α β : Type} {o : Out α} {f : α → Sto → Out β} {b : β} {S' : Sto} (h : o.bind f = .ok b S') : ∃ a S, o = .ok a S ∧ f a S = .ok b S' := by
  cases o with
  | ok a S => exact ⟨a, S, rfl, h⟩
  | exc e S => cases h
  | bad => cases h
theorem opt_ok {α : Type} {o : Option α} {S S' : Sto} {a : α} (h : opt o S = .ok a S') : o = some a ∧ S' = S := by
  cases o with
  | none => cases h
  | some b => cases h; exact ⟨rfl, rfl⟩
/-! ### shapes of the text -/
def noStar : Expr → Bool
  | .Starred .. => false
  | _ => true
theorem star_cons {e : Expr} {es : List Expr} {env : Env} (h : noStar e = true) : starEach (e :: es) env = (false, eval e env) :: starEach es env := by
  cases e <;> first | rfl | (simp [noStar] at h)
theorem star_plain {env : Env} {pos : Pos} : ∀ {es : List Expr}, es.all noStar = true → (backTo pos (starEach es env)).any (·.1) = false
  | [], _ => rfl
  | e :: es, h => by
    simp only [List.all_cons, Bool.and_eq_true] at h
    rw [star_cons h.1]
    show ((backTo pos (starEach es env)).any (·.1)) = false
    exact star_plain h.2
def noSlice : Expr → Bool
  | .Slice .. => false
  | _ => true
theorem plain_ix {b : Expr} (h : noSlice b = true) : PlainIx b := by
  intro o i
  cases b <;> first | rfl | (simp [noSlice] at h)
/-- no test of its own kind -/
def plainT : Expr → Bool
  | .UnaryOp .Not _ _ => false
  | .BoolOp .. => false
  | .IfExp .. => false
  | .Compare .. => false
  | _ => true
theorem plain_test {e : Expr} {env : Env} (h : plainT e = true) (whole : Sem Value) : isTrue e env whole = (do let v ← whole; standAt e.pos; holding [v] (truthy v)) := by
  cases e <;> first | rfl | (simp [plainT] at h)
  case UnaryOp op x p => cases op <;> first | rfl | (simp [plainT] at h)
def noSet : Expr → Bool
  | .Set .. => false
  | _ => true
theorem no_marks {b : Expr} {op : CmpOp} (h : noSet b = true) : behindInMarks op b = false := by
  cases b <;> first | rfl | (simp [noSet] at h)
theorem no_last {b c : Expr} {o1 o2 : CmpOp} (h : noSet c = true) : lastMarks [o1, o2] [b, c] = false := by
  show behindInMarks o2 c = false
  exact no_marks h
theorem no_fold {e : Expr} {env : Env} (h : noSet e = true) (x : Value) : foldedSetIterable e env x = pure x := by
  cases e <;> first | rfl | (simp [noSet] at h)
theorem PE.imp {X : Cx} {e : Expr} {t t' : TE} (h : PE X e t) (w : ∀ σ H Q, t' σ H Q → t σ H Q) : PE X e t' := ⟨fun pins s σ H Q I q => h.run pins s σ H Q I (w σ H Q q)⟩
theorem PT.imp {X : Cx} {e : Expr} {t t' : TT} (h : PT X e t) (w : ∀ σ H Q, t' σ H Q → t σ H Q) : PT X e t' := ⟨fun pins s σ H Q I q => h.run pins s σ H Q I (w σ H Q q)⟩
theorem PW.imp {X : Cx} {e : Expr} {t t' : TT} (h : PW X e t) (w : ∀ σ H Q, t' σ H Q → t σ H Q) : PW X e t' := ⟨fun wh pins s σ H Q I q => h.run wh pins s σ H Q I (w σ H Q q)⟩
theorem PA.imp {X : Cx} {e : List Expr} {t t' : TA} (h : PA X e t) (w : ∀ σ H Q, t' σ H Q → t σ H Q) : PA X e t' := ⟨fun pos pins s σ H Q I q => h.run pos pins s σ H Q I (w σ H Q q)⟩
theorem PO.imp {X : Cx} {e : Option Expr} {t t' : TO} (h : PO X e t) (w : ∀ σ H Q, t' σ H Q → t σ H Q) : PO X e t' := ⟨fun pins s σ H Q I q => h.run pins s σ H Q I (w σ H Q q)⟩
theorem PI.imp {X : Cx} {tg e : Expr} {t t' : TI} (h : PI X tg e t) (w : ∀ σ H R, t' σ H R → t σ H R) : PI X tg e t' := ⟨fun pins s σ H R I q => h.run pins s σ H R I (w σ H R q)⟩
theorem PG.imp {X : Cx} {e : Expr} {t t' : TG} (h : PG X e t) (w : ∀ v σ H Q, t' v σ H Q → t v σ H Q) : PG X e t' := ⟨fun pins s σ H v u Q I r q => h.run pins s σ H v u Q I r (w v σ H Q q)⟩
theorem PGs.imp {X : Cx} {e : List Expr} {t t' : TGs} (h : PGs X e t) (w : ∀ v σ H Q, t' v σ H Q → t v σ H Q) : PGs X e t' := ⟨fun pins s σ H v u Q I r q => h.run pins s σ H v u Q I r (w v σ H Q q)⟩
/-! ### readings -/
section
variable (cl : Nat → List D → Sto → Out D) (gl : Nat → Option D) (K : PySem.W.Frag)
/-- one step: something is reckoned, what is known of it goes on -/
def Stp {α β : Type} (o : Frm → Sto → Out α) (Rp : Hp → List Addr → β → α → Prop) (σ : Stt) (H : Hp) (Q : β → Hp → Prop) : Prop :=
  ∃ F R fr S a S', RelS K F R H S ∧ RelF K F R H σ fr ∧ o fr S = .ok a S' ∧ ∀ F' R' H' v, Nxt F R H F' R' H' → RelS K F' R' H' S' → Rp F' R' v a → Q v H'
def tE (m : ME) : TE := fun σ H Q => Stp K (fun fr S => ev cl gl fr m S) (fun F R v d => Rep K F R v d) σ H Q
def tEs (ms : List ME) : TA := fun σ H Q => Stp K (fun fr S => evs cl gl fr ms S) (fun F R v d => RepAll K F R v d) σ H Q
def tM (m : MT) : TT := fun σ H Q => Stp K (fun fr S => evT cl gl fr m S) (fun _ _ v d => v = d) σ H Q
def tMs (m : List MT) : TT := fun σ H Q => Stp K (fun fr S => evTs cl gl fr m S) (fun _ _ v d => v = d) σ H Q
def tEo (m : Option ME) : TO := fun σ H Q => Stp K (fun fr S => evO cl gl fr m S) (fun _ _ v d => v = d) σ H Q
end
section
variable {cl : Nat → List D → Sto → Out D} {gl : Nat → Option D} {X : Cx}
/-- the pattern of all proofs: the parts of a step -/
theorem Stp.bind {K : PySem.W.Frag} {α β α2 β2 : Type} {o : Frm → Sto → Out α} {f : Frm → α → Sto → Out α2} {Rp : Hp → List Addr → β → α → Prop} {Rp2 : Hp → List Addr → β2 → α2 → Prop} {σ : Stt} {H : Hp} {Q : β2 → Hp → Prop}
    (h : Stp K (fun fr S => (o fr S).bind (f fr)) Rp2 σ H Q) :
    Stp K o Rp σ H fun v H1 => ∃ F R fr S a a2 S2, RelS K F R H1 S ∧ RelF K F R H1 σ fr ∧ Rp F R v a ∧ f fr a S = .ok a2 S2 ∧ ∀ F' R' H' w, Nxt F R H1 F' R' H' → RelS K F' R' H' S2 → Rp2 F' R' w a2 → Q w H' := by
  obtain ⟨F, R, fr, S, a2, S2, rs, rf, he, k⟩ := h
  obtain ⟨a, S1, e1, e2⟩ := bind_ok he
  exact ⟨F, R, fr, S, a, S1, rs, rf, e1, fun F1 R1 H1 v n1 rs1 rp => ⟨F1, R1, fr, S1, a, a2, S2, rs1, rf.nxt n1, rp, e2, fun F' R' H' w n rs' rp' => k F' R' H' w (n1.trans n) rs' rp'⟩⟩
theorem snd_bin {a b : Expr} {op : Operator} {ma mb : ME} {pos : Pos} (ha : PE X a (tE cl gl X.K ma)) (hb : PE X b (tE cl gl X.K mb)) : PE X (.BinOp a op b pos) (tE cl gl X.K (.bin op ma mb)) := by
  refine PE.imp (pe_op (op_bin op) ha hb) fun σ H Q h => ?_
  obtain ⟨F, R, fr, S, d, S', rs, rf, he, k⟩ := h
  simp only [ev] at he
  obtain ⟨x, S1, e1, he⟩ := bind_ok he
  obtain ⟨y, S2, e2, he⟩ := bind_ok he
  obtain ⟨e3, rfl⟩ := opt_ok he
  refine ⟨F, R, fr, S, x, S1, rs, rf, e1, fun F1 R1 H1 v n1 rs1 rv => ⟨F1, R1, fr, S1, y, S', rs1, rf.nxt n1, e2, fun F2 R2 H2 w n2 rs2 rw' => ?_⟩⟩
  exact ⟨F2, R2, x, y, d, rs2.fh, rv.mono n2.f n2.r, rw', e3, fun z F3 H3 n3 rz => k F3 R2 H3 z ((n1.trans n2).trans n3.1) (n3.2 _ rs2) rz⟩
theorem snd_neg {a : Expr} {ma : ME} {pos : Pos} (ha : PE X a (tE cl gl X.K ma)) : PE X (.UnaryOp .USub a pos) (tE cl gl X.K (.neg ma)) := by
  refine PE.imp (pe_un un_neg ha) fun σ H Q h => ?_
  obtain ⟨F, R, fr, S, d, S', rs, rf, he, k⟩ := h
  simp only [ev] at he
  obtain ⟨x, S1, e1, he⟩ := bind_ok he
  obtain ⟨e3, rfl⟩ := opt_ok he
  refine ⟨F, R, fr, S, x, S', rs, rf, e1, fun F1 R1 H1 v n1 rs1 rv => ?_⟩
  cases rv <;> simp only [intO, Option.map_some, Option.map_none, Option.some.injEq, reduceCtorEq] at e3
  case int i => subst e3; exact ⟨i, rfl, k F1 R1 H1 _ n1 rs1 (.int _)⟩
theorem snd_cmp {a b : Expr} {op : CmpOp} {ma mb : ME} {pos : Pos} (bo : BOk X) (hm : noSet b = true) (ha : PE X a (tE cl gl X.K ma)) (hb : PE X b (tE cl gl X.K mb)) : PE X (.Compare a [op] [b] pos) (tE cl gl X.K (.cmp op ma mb)) := by
  refine PE.imp (pe_cmpR (op_cmp bo.un op) ha hb (no_marks hm)) fun σ H Q h => ?_
  obtain ⟨F, R, fr, S, d, S', rs, rf, he, k⟩ := h
  simp only [ev] at he
  obtain ⟨x, S1, e1, he⟩ := bind_ok he
  obtain ⟨y, S2, e2, he⟩ := bind_ok he
  obtain ⟨e3, rfl⟩ := opt_ok he
  refine ⟨F, R, fr, S, x, S1, rs, rf, e1, fun F1 R1 H1 v n1 rs1 rv => ⟨F1, R1, fr, S1, y, S', rs1, rf.nxt n1, e2, fun F2 R2 H2 w n2 rs2 rw' => ?_⟩⟩
  cases e4 : cmpD op x y with
  | none => rw [e4] at e3; cases e3
  | some c =>
    rw [e4] at e3
    cases e3
    exact ⟨F2, R2, x, y, c, rs2.fh, rv.mono n2.f n2.r, rw', e4, k F2 R2 H2 _ (n1.trans n2) rs2 (.bl c)⟩
theorem snd_tcmp {a b : Expr} {op : CmpOp} {ma mb : ME} {pos : Pos} (bo : BOk X) (hm : noSet b = true) (ha : PE X a (tE cl gl X.K ma)) (hb : PE X b (tE cl gl X.K mb)) : PT X (.Compare a [op] [b] pos) (tM cl gl X.K (.cmp op ma mb)) := by
  refine PT.imp (pt_cmpR (op_cmp bo.un op) ha hb (no_marks hm)) fun σ H Q h => ?_
  obtain ⟨F, R, fr, S, d, S', rs, rf, he, k⟩ := h
  simp only [evT] at he
  obtain ⟨x, S1, e1, he⟩ := bind_ok he
  obtain ⟨y, S2, e2, he⟩ := bind_ok he
  obtain ⟨e3, rfl⟩ := opt_ok he
  refine ⟨F, R, fr, S, x, S1, rs, rf, e1, fun F1 R1 H1 v n1 rs1 rv => ⟨F1, R1, fr, S1, y, S', rs1, rf.nxt n1, e2, fun F2 R2 H2 w n2 rs2 rw' => ?_⟩⟩
  exact ⟨F2, R2, x, y, d, rs2.fh, rv.mono n2.f n2.r, rw', e3, d, rfl, k F2 R2 H2 _ (n1.trans n2) rs2 rfl⟩
theorem snd_chain {a b c : Expr} {o1 o2 : CmpOp} {ma mb mc : ME} {pos : Pos} (bo : BOk X) (hm : noSet c = true) (ha : PE X a (tE cl gl X.K ma)) (hb : PE X b (tE cl gl X.K mb)) (hc : PE X c (tE cl gl X.K mc)) :
    PE X (.Compare a [o1, o2] [b, c] pos) (tE cl gl X.K (.chain o1 o2 ma mb mc)) := by
  refine PE.imp (pe_chain (op_cmp bo.un o1) (op_cmp bo.un o2) ha hb hc (no_last hm)) fun σ H Q h => ?_
  obtain ⟨F, R, fr, S, d, S', rs, rf, he, k⟩ := h
  simp only [ev] at he
  obtain ⟨x, S1, e1, he⟩ := bind_ok he
  obtain ⟨y, S2, e2, he⟩ := bind_ok he
  obtain ⟨j, S3, e3', he⟩ := bind_ok he
  obtain ⟨e3, rfl⟩ := opt_ok e3'
  refine ⟨F, R, fr, S, x, S1, rs, rf, e1, fun F1 R1 H1 v n1 rs1 rv => ⟨F1, R1, fr, S1, y, _, rs1, rf.nxt n1, e2, fun F2 R2 H2 w n2 rs2 rw' => ?_⟩⟩
  refine ⟨F2, R2, x, y, j, rs2.fh, rv.mono n2.f n2.r, rw', e3, j, rfl, ?_⟩
  cases j with
  | false =>
    rw [if_neg Bool.false_ne_true] at he ⊢
    cases he
    exact k F2 R2 H2 _ (n1.trans n2) rs2 (.bl false)
  | true =>
    rw [if_pos rfl] at he ⊢
    obtain ⟨z, S4, e4, he⟩ := bind_ok he
    obtain ⟨e5, rfl⟩ := opt_ok he
    refine ⟨F2, R2, fr, S3, z, S', rs2, rf.nxt (n1.trans n2), e4, fun F3 R3 H3 u n3 rs3 ru => ?_⟩
    cases e6 : cmpD o2 y z with
    | none => rw [e6] at e5; cases e5
    | some c =>
      rw [e6] at e5
      cases e5
      exact ⟨F3, R3, y, z, c, rs3.fh, rw'.mono n3.f n3.r, ru, e6, k F3 R3 H3 _ ((n1.trans n2).trans n3) rs3 (.bl c)⟩
theorem snd_tchain {a b c : Expr} {o1 o2 : CmpOp} {ma mb mc : ME} {pos : Pos} (bo : BOk X) (hm : noSet c = true) (ha : PE X a (tE cl gl X.K ma)) (hb : PE X b (tE cl gl X.K mb)) (hc : PE X c (tE cl gl X.K mc)) :
    PT X (.Compare a [o1, o2] [b, c] pos) (tM cl gl X.K (.chain o1 o2 ma mb mc)) := by
  refine PT.imp (pt_chain (op_cmp bo.un o1) (op_cmp bo.un o2) ha hb hc (no_last hm)) fun σ H Q h => ?_
  obtain ⟨F, R, fr, S, d, S', rs, rf, he, k⟩ := h
  simp only [evT] at he
  obtain ⟨x, S1, e1, he⟩ := bind_ok he
  obtain ⟨y, S2, e2, he⟩ := bind_ok he
  obtain ⟨j, S3, e3', he⟩ := bind_ok he
  obtain ⟨e3, rfl⟩ := opt_ok e3'
  refine ⟨F, R, fr, S, x, S1, rs, rf, e1, fun F1 R1 H1 v n1 rs1 rv => ⟨F1, R1, fr, S1, y, _, rs1, rf.nxt n1, e2, fun F2 R2 H2 w n2 rs2 rw' => ?_⟩⟩
  refine ⟨F2, R2, x, y, j, rs2.fh, rv.mono n2.f n2.r, rw', e3, j, rfl, ?_⟩
  cases j with
  | false =>
    rw [if_neg Bool.false_ne_true] at he ⊢
    cases he
    exact ⟨false, rfl, k F2 R2 H2 _ (n1.trans n2) rs2 rfl⟩
  | true =>
    rw [if_pos rfl] at he ⊢
    obtain ⟨z, S4, e4, he⟩ := bind_ok he
    obtain ⟨e5, rfl⟩ := opt_ok he
    refine ⟨F2, R2, fr, S3, z, S', rs2, rf.nxt (n1.trans n2), e4, fun F3 R3 H3 u n3 rs3 ru => ?_⟩
    exact ⟨F3, R3, y, z, d, rs3.fh, rw'.mono n3.f n3.r, ru, e5, d, rfl, k F3 R3 H3 _ ((n1.trans n2).trans n3) rs3 rfl⟩
theorem bool_of {K : PySem.W.Frag} {F : Hp} {R : List Addr} {v : V} {x : D} {b : Bool} (r : Rep K F R v x) (h : boolO x = some b) : v = .bl b := by
  cases r <;> simp only [boolO, Option.some.injEq, reduceCtorEq] at h
  case bl c => rw [h]
theorem snd_and {a b : Expr} {rest : List Expr} {ma mb : ME} {pos : Pos} (ha : PE X a (tE cl gl X.K ma)) (hb : PE X (.BoolOp .And (b :: rest) pos) (tE cl gl X.K mb)) : PE X (.BoolOp .And (a :: b :: rest) pos) (tE cl gl X.K (.and ma mb)) := by
  refine PE.imp (pe_and ha hb) fun σ H Q h => ?_
  obtain ⟨F, R, fr, S, d, S', rs, rf, he, k⟩ := h
  simp only [ev] at he
  obtain ⟨x, S1, e1, he⟩ := bind_ok he
  obtain ⟨j, S2, e2', he⟩ := bind_ok he
  obtain ⟨e2, rfl⟩ := opt_ok e2'
  refine ⟨F, R, fr, S, x, S2, rs, rf, e1, fun F1 R1 H1 v n1 rs1 rv => ⟨j, bool_of rv e2, ?_⟩⟩
  cases j with
  | false =>
    rw [if_neg Bool.false_ne_true] at he ⊢
    cases he
    exact k F1 R1 H1 _ n1 rs1 (.bl false)
  | true =>
    rw [if_pos rfl] at he ⊢
    exact ⟨F1, R1, fr, S2, d, S', rs1, rf.nxt n1, he, fun F2 R2 H2 w n2 rs2 rw' => k F2 R2 H2 w (n1.trans n2) rs2 rw'⟩
theorem snd_or {a b : Expr} {rest : List Expr} {ma mb : ME} {pos : Pos} (ha : PE X a (tE cl gl X.K ma)) (hb : PE X (.BoolOp .Or (b :: rest) pos) (tE cl gl X.K mb)) : PE X (.BoolOp .Or (a :: b :: rest) pos) (tE cl gl X.K (.or ma mb)) := by
  refine PE.imp (pe_or ha hb) fun σ H Q h => ?_
  obtain ⟨F, R, fr, S, d, S', rs, rf, he, k⟩ := h
  simp only [ev] at he
  obtain ⟨x, S1, e1, he⟩ := bind_ok he
  obtain ⟨j, S2, e2', he⟩ := bind_ok he
  obtain ⟨e2, rfl⟩ := opt_ok e2'
  refine ⟨F, R, fr, S, x, S2, rs, rf, e1, fun F1 R1 H1 v n1 rs1 rv => ⟨j, bool_of rv e2, ?_⟩⟩
  cases j with
  | true =>
    rw [if_pos rfl] at he ⊢
    cases he
    exact k F1 R1 H1 _ n1 rs1 (.bl true)
  | false =>
    rw [if_neg Bool.false_ne_true] at he ⊢
    exact ⟨F1, R1, fr, S2, d, S', rs1, rf.nxt n1, he, fun F2 R2 H2 w n2 rs2 rw' => k F2 R2 H2 w (n1.trans n2) rs2 rw'⟩
theorem snd_not {a : Expr} {ma : ME} {pos : Pos} (ha : PE X a (tE cl gl X.K ma)) : PE X (.UnaryOp .Not a pos) (tE cl gl X.K (.not ma)) := by
  refine PE.imp (pe_not ha) fun σ H Q h => ?_
  obtain ⟨F, R, fr, S, d, S', rs, rf, he, k⟩ := h
  simp only [ev] at he
  obtain ⟨x, S1, e1, he⟩ := bind_ok he
  obtain ⟨j, S2, e2', hf⟩ := bind_ok he
  obtain ⟨e2, rfl⟩ := opt_ok e2'
  cases hf
  exact ⟨F, R, fr, S, x, _, rs, rf, e1, fun F1 R1 H1 v n1 rs1 rv => ⟨j, bool_of rv e2, k F1 R1 H1 _ n1 rs1 (.bl _)⟩⟩
theorem snd_ife {c a b : Expr} {mc : MT} {ma mb : ME} {pos : Pos} (hc : PT X c (tM cl gl X.K mc)) (ha : PE X a (tE cl gl X.K ma)) (hb : PE X b (tE cl gl X.K mb)) : PE X (.IfExp c a b pos) (tE cl gl X.K (.ife mc ma mb)) := by
  refine PE.imp (pe_ifExp hc ha hb) fun σ H Q h => ?_
  obtain ⟨F, R, fr, S, d, S', rs, rf, he, k⟩ := h
  simp only [ev] at he
  obtain ⟨x, S1, e1, he⟩ := bind_ok he
  refine ⟨F, R, fr, S, x, S1, rs, rf, e1, fun F1 R1 H1 v n1 rs1 rv => ?_⟩
  subst rv
  cases v with
  | true =>
    rw [if_pos rfl] at he ⊢
    exact ⟨F1, R1, fr, S1, d, S', rs1, rf.nxt n1, he, fun F2 R2 H2 w n2 rs2 rw' => k F2 R2 H2 w (n1.trans n2) rs2 rw'⟩
  | false =>
    rw [if_neg Bool.false_ne_true] at he ⊢
    exact ⟨F1, R1, fr, S1, d, S', rs1, rf.nxt n1, he, fun F2 R2 H2 w n2 rs2 rw' => k F2 R2 H2 w (n1.trans n2) rs2 rw'⟩
/-! tests -/
theorem snd_tval {e : Expr} {m : ME} (h : PE X e (tE cl gl X.K m)) (hp : plainT e = true) : PT X e (tM cl gl X.K (.val m)) := by
  refine PT.imp (pt_val h (plain_test hp)) fun σ H Q h => ?_
  obtain ⟨F, R, fr, S, d, S', rs, rf, he, k⟩ := h
  simp only [evT] at he
  obtain ⟨x, S1, e1, he⟩ := bind_ok he
  obtain ⟨e2, rfl⟩ := opt_ok he
  exact ⟨F, R, fr, S, x, S', rs, rf, e1, fun F1 R1 H1 v n1 rs1 rv => ⟨d, bool_of rv e2, k F1 R1 H1 _ n1 rs1 rfl⟩⟩
theorem tru_of {K : PySem.W.Frag} {F H : Hp} {R : List Addr} {S : Sto} {v : V} {x : D} {b : Bool} (rs : RelS K F R H S) (r : Rep K F R v x) (h : truD S x = some b) : TruV K v H b := by
  have lst : (rdL S x).map (fun xs => !xs.isEmpty) = some b → TruV K v H b := fun e => by
    cases e1 : rdL S x with
    | none => rw [e1] at e; cases e
    | some xs =>
      rw [e1] at e
      cases e
      obtain ⟨a, vs, rfl, h1, h2⟩ := rdL_ok rs r e1
      refine .inl ⟨vs, h1, ?_⟩
      cases h2 <;> rfl
  cases r with
  | non => cases h; rfl
  | bl c => cases h; rfl
  | int i => cases h; rfl
  | str z =>
    simp only [truD] at h
    split at h
    · rename_i hl
      cases h
      exact ⟨hl, rfl⟩
    · cases h
  | tup ha ra =>
    cases h
    refine .inr (.inl ⟨_, same_t rs.fh ha, ?_⟩)
    cases ra <;> rfl
  | lst ha ra => exact lst h
  | scr ha => exact lst h
  | obj ha => exact lst h
  | ty => cases h
theorem snd_ttru {e : Expr} {m : ME} (h : PE X e (tE cl gl X.K m)) (hp : plainT e = true) : PT X e (tM cl gl X.K (.tru m)) := by
  refine PT.imp (pt_truth h (plain_test hp)) fun σ H Q h => ?_
  obtain ⟨F, R, fr, S, d, S', rs, rf, he, k⟩ := h
  simp only [evT] at he
  obtain ⟨x, S1, e1, he⟩ := bind_ok he
  obtain ⟨e2, rfl⟩ := opt_ok he
  exact ⟨F, R, fr, S, x, S', rs, rf, e1, fun F1 R1 H1 v n1 rs1 rv => ⟨d, tru_of rs1 rv e2, k F1 R1 H1 _ n1 rs1 rfl⟩⟩
-- theorem stp_if {σ : Stt} {H : Hp} {Q : Bool → Hp → Prop} {a b : MT} {c1 c2 : Bool} {u1 u2 : TT} (hf : c1 = true → ∀ fr S, (evT cl gl fr a S).bind (fun k S => if k then evT cl gl fr b S else Out.ok false S) = evT cl gl fr a S) : True := trivial
theorem snd_tand {a b : Expr} {rest : List Expr} {ma mb : MT} {pos : Pos} (ha : PT X a (tM cl gl X.K ma)) (hb : PW X (.BoolOp .And (b :: rest) pos) (tM cl gl X.K mb)) : PW X (.BoolOp .And (a :: b :: rest) pos) (tM cl gl X.K (.and ma mb)) := by
  refine PW.imp (pw_and ha hb) fun σ H Q h => ?_
  obtain ⟨F, R, fr, S, d, S', rs, rf, he, k⟩ := h
  simp only [evT] at he
  obtain ⟨x, S1, e1, he⟩ := bind_ok he
  refine ⟨F, R, fr, S, x, S1, rs, rf, e1, fun F1 R1 H1 v n1 rs1 rv => ?_⟩
  subst rv
  cases v with
  | false =>
    rw [if_neg Bool.false_ne_true] at he ⊢
    cases he
    exact k F1 R1 H1 _ n1 rs1 rfl
  | true =>
    rw [if_pos rfl] at he ⊢
    exact ⟨F1, R1, fr, S1, d, S', rs1, rf.nxt n1, he, fun F2 R2 H2 w n2 rs2 rw' => k F2 R2 H2 w (n1.trans n2) rs2 rw'⟩
theorem snd_tor {a b : Expr} {rest : List Expr} {ma mb : MT} {pos : Pos} (ha : PT X a (tM cl gl X.K ma)) (hb : PW X (.BoolOp .Or (b :: rest) pos) (tM cl gl X.K mb)) : PW X (.BoolOp .Or (a :: b :: rest) pos) (tM cl gl X.K (.or ma mb)) := by
  refine PW.imp (pw_or ha hb) fun σ H Q h => ?_
  obtain ⟨F, R, fr, S, d, S', rs, rf, he, k⟩ := h
  simp only [evT] at he
  obtain ⟨x, S1, e1, he⟩ := bind_ok he
  refine ⟨F, R, fr, S, x, S1, rs, rf, e1, fun F1 R1 H1 v n1 rs1 rv => ?_⟩
  subst rv
  cases v with
  | true =>
    rw [if_pos rfl] at he ⊢
    cases he
    exact k F1 R1 H1 _ n1 rs1 rfl
  | false =>
    rw [if_neg Bool.false_ne_true] at he ⊢
    exact ⟨F1, R1, fr, S1, d, S', rs1, rf.nxt n1, he, fun F2 R2 H2 w n2 rs2 rw' => k F2 R2 H2 w (n1.trans n2) rs2 rw'⟩
theorem snd_tnot {a : Expr} {ma : MT} {pos : Pos} (ha : PT X a (tM cl gl X.K ma)) : PT X (.UnaryOp .Not a pos) (tM cl gl X.K (.not ma)) := by
  refine PT.imp (pt_not ha) fun σ H Q h => ?_
  obtain ⟨F, R, fr, S, d, S', rs, rf, he, k⟩ := h
  simp only [evT] at he
  obtain ⟨x, S1, e1, he⟩ := bind_ok he
  cases he
  refine ⟨F, R, fr, S, x, _, rs, rf, e1, fun F1 R1 H1 v n1 rs1 rv => ?_⟩
  subst rv
  exact k F1 R1 H1 _ n1 rs1 rfl
/-! arguments, displays -/
theorem snd_nil : PA X [] (tEs cl gl X.K []) := by
  refine PA.imp pa_nil fun σ H Q h => ?_
  obtain ⟨F, R, fr, S, d, S', rs, rf, he, k⟩ := h
  simp only [evs] at he
  cases he
  exact k F R H _ .refl rs .nil
theorem snd_cons {e : Expr} {es : List Expr} {m : ME} {ms : List ME} (hs : noStar e = true) (h : PE X e (tE cl gl X.K m)) (t : PA X es (tEs cl gl X.K ms)) : PA X (e :: es) (tEs cl gl X.K (m :: ms)) := by
  refine PA.imp (pa_cons h t (star_cons hs)) fun σ H Q h => ?_
  obtain ⟨F, R, fr, S, d, S', rs, rf, he, k⟩ := h
  simp only [evs] at he
  obtain ⟨x, S1, e1, he⟩ := bind_ok he
  obtain ⟨xs, S2, e2, he⟩ := bind_ok he
  cases he
  exact ⟨F, R, fr, S, x, S1, rs, rf, e1, fun F1 R1 H1 v n1 rs1 rv => ⟨F1, R1, fr, S1, xs, _, rs1, rf.nxt n1, e2, fun F2 R2 H2 ws n2 rs2 rw' => k F2 R2 H2 _ (n1.trans n2) rs2 (.cons (rv.mono n2.f n2.r) rw')⟩⟩
theorem evs_len {fr : Frm} : ∀ {ms : List ME} {S S' : Sto} {xs : List D}, evs cl gl fr ms S = .ok xs S' → xs.length = ms.length
  | [], S, S', xs, h => by simp only [evs] at h; cases h; rfl
  | m :: ms, S, S', xs, h => by
    simp only [evs] at h
    obtain ⟨x, S1, e1, h⟩ := bind_ok h
    obtain ⟨ys, S2, e2, h⟩ := bind_ok h
    cases h
    rw [List.length_cons, List.length_cons, evs_len e2]
theorem snd_tup {es : List Expr} {ms : List ME} {k1 : Nat} {pos : Pos} (hl : ms.length ≤ 1000) (h : PA X es (tEs cl gl X.K ms)) : PE X (.Tuple es k1 pos) (tE cl gl X.K (.tup ms)) := by
  refine PE.imp (pe_tup h) fun σ H Q h => ?_
  obtain ⟨F, R, fr, S, d, S', rs, rf, he, k⟩ := h
  simp only [ev] at he
  obtain ⟨xs, S1, e1, he⟩ := bind_ok he
  cases he
  refine ⟨F, R, fr, S, xs, _, rs, rf, e1, fun F1 R1 H1 vs n1 rs1 rv => ⟨?_, fun p hp => ?_⟩⟩
  · have h1 := rv.length
    have h2 := evs_len e1
    rw [sizeLine_eq]
    omega
  · have n : Nw X.K F1 R1 H1 (upd F1 p (.tup vs)) (upd H1 p (.tup vs)) := Nw.one hp rs1.fh
    exact k _ R1 _ _ (n1.trans n.1) (n.2 _ rs1) (.tup (SqT.of upd_same) (rv.mono n.1.f n.1.r))
theorem snd_lst {es : List Expr} {ms : List ME} {pos : Pos} (hl : ms.length ≤ 1000) (h : PA X es (tEs cl gl X.K ms)) : PE X (.List es pos) (tE cl gl X.K (.lst ms)) := by
  refine PE.imp (pe_lst h) fun σ H Q h => ?_
  obtain ⟨F, R, fr, S, d, S', rs, rf, he, k⟩ := h
  simp only [ev] at he
  obtain ⟨xs, S1, e1, he⟩ := bind_ok he
  cases he
  refine ⟨F, R, fr, S, xs, _, rs, rf, e1, fun F1 R1 H1 vs n1 rs1 rv => ⟨?_, fun p hp => ?_⟩⟩
  · have h1 := rv.length
    have h2 := evs_len e1
    rw [sizeLine_eq]
    omega
  · have n : Nw X.K F1 R1 H1 (upd F1 p (.lst vs)) (upd H1 p (.lst vs)) := Nw.one hp rs1.fh
    exact k _ R1 _ _ (n1.trans n.1) (n.2 _ rs1) (.lst upd_same (rv.mono n.1.f n.1.r))
/-- a new thing of the store -/
theorem store_new {K : PySem.W.Frag} {F H : Hp} {R : List Addr} {S : Sto} {p : Addr} {vs : List V} {xs : List D} (rs : RelS K F R H S) (hp : H p = none) (rv : RepAll K F R vs xs) :
    Nxt F R H F (R ++ [p]) (upd H p (.lst vs)) ∧ RelS K F (R ++ [p]) (upd H p (.lst vs)) (S ++ [.lst xs]) ∧ (R ++ [p])[S.length]? = some p := by
  have hnR : p ∉ R := fun h => by
    obtain ⟨o, ho⟩ := rs.tr p h
    rw [hp] at ho; cases ho
  have hFp : F p = none := rs.fh.free hp
  have n : Nxt F R H F (R ++ [p]) (upd H p (.lst vs)) := by
    refine ⟨Same.refl _, ⟨[p], rfl⟩, fun _ _ h => .inl h, fun a o h _ => ?_, fun a h => ?_⟩
    · rw [upd_ne (ne_of_none h hp)]; exact h
    · rcases List.mem_append.mp h with h | h
      · exact .inl h
      · have e : a = p := by simpa using h
        rw [e]; exact .inr hp
  have at2 : (R ++ [p])[S.length]? = some p := by
    rw [← rs.len, List.getElem?_append_right (Nat.le_refl _), Nat.sub_self]; rfl
  refine ⟨n, ⟨fun a o h => ?_, by simp [rs.len], ?_, fun a h => ?_, fun i a o h1 h2 => ?_⟩, at2⟩
  · rw [upd_ne (ne_of_none (rs.fh a o h) hp)]; exact rs.fh a o h
  · exact List.nodup_append.mpr ⟨rs.nd, by simp, fun a ha b hb => by
      have e : b = p := by simpa using hb
      rw [e]; rintro rfl; exact hnR ha⟩
  · by_cases e : a = p
    · subst e; exact ⟨_, upd_same⟩
    · have ha : a ∈ R := by simpa [e] using h
      obtain ⟨o, ho⟩ := rs.tr a ha
      exact ⟨o, by rw [upd_ne e]; exact ho⟩
  · by_cases hi : i < R.length
    · rw [List.getElem?_append_left hi] at h1
      rw [List.getElem?_append_left (by rw [← rs.len]; exact hi)] at h2
      have ha : a ∈ R := List.mem_of_getElem? h1
      have hne : a ≠ p := fun e => hnR (e ▸ ha)
      have q := rs.at_ i a o h1 h2
      cases o with
      | lst ds =>
        obtain ⟨g1, ws, g2, g3⟩ := q
        exact ⟨g1, ws, by rw [upd_ne hne]; exact g2, g3.mono (Same.refl _) n.r⟩
      | dct _ => exact q
      | ins _ _ => exact q
      | dead => trivial
    · have hi2 : i = R.length := by
        have := (List.getElem?_eq_some_iff.mp h1).1
        simp at this; omega
      subst hi2
      have e1 : p = a := by
        rw [rs.len, at2] at h1
        exact Option.some.inj h1
      subst e1
      have e2 : SO.lst xs = o := by
        rw [rs.len, List.getElem?_append_right (Nat.le_refl _), Nat.sub_self] at h2
        exact Option.some.inj h2
      subst e2
      exact ⟨hFp, vs, upd_same, rv.mono (Same.refl _) n.r⟩
theorem snd_ref {es : List Expr} {ms : List ME} {pos : Pos} (hl : ms.length ≤ 1000) (h : PA X es (tEs cl gl X.K ms)) : PE X (.List es pos) (tE cl gl X.K (.ref ms)) := by
  refine PE.imp (pe_lst h) fun σ H Q h => ?_
  obtain ⟨F, R, fr, S, d, S', rs, rf, he, k⟩ := h
  simp only [ev] at he
  obtain ⟨xs, S1, e1, he⟩ := bind_ok he
  cases he
  refine ⟨F, R, fr, S, xs, _, rs, rf, e1, fun F1 R1 H1 vs n1 rs1 rv => ⟨?_, fun p hp => ?_⟩⟩
  · have h1 := rv.length
    have h2 := evs_len e1
    rw [sizeLine_eq]
    omega
  · obtain ⟨n, rs2, at2⟩ := store_new rs1 hp rv
    exact k _ _ _ _ (n1.trans n) rs2 (.obj at2)
end
end Mn
/-! expressions: names, calls, subscripts, targets, what is walked, comprehensions -/
namespace Mn
open PySem PySem.Spec PyProof.Rows L2
/-- what a def promises by the interpreter -/
def spF (K : PySem.W.Frag) (cl : Nat → List D → Sto → Out D) (f : Nat) : Sq := fun vs H Q => ∃ F R S ds d S', RelS K F R H S ∧ RepAll K F R vs ds ∧ cl f ds S = .ok d S' ∧
  ∀ F' R' H' v, Nxt F R H F' R' H' → RelS K F' R' H' S' → Rep K F' R' v d → Q v H'
def nBi : Bi → Str
  | .len => "len" | .abs => "abs" | .int => "int" | .str => "str" | .repr => "repr" | .all => "all" | .any => "any" | .sum => "sum" | .max => "max" | .min => "min"
  | .tuple => "tuple" | .list => "list" | .divmod => "divmod" | .sorted => "sorted" | .isinst => "isinstance" | .range => "range"
/-- what stands around an expression -/
structure Cxt (nm : Nat → Str) (P : List (Nat × MF)) (cl : Nat → List D → Sto → Out D) (gl : Nat → Option D) (X : Cx) : Prop where
  b : BOk X
  nd : X.N.Nodup
  bi : ∀ c, X.mg (nBi c) = none
  zip : X.mg "zip" = none
  enu : X.mg "enumerate" = none
  bty : ∀ T ∈ (["bool", "dict"] : List String), X.mg (Str.ofString T) = none
  fn : ∀ f m, P.lookup f = some m → ∃ k fa fd, X.mg (nm f) = some (.ref fa) ∧ PySem.W.keepIn X.K (.ref fa) = true ∧ PlainP fd.params (m.names.take m.ps) ∧ fd.defaults = .none ∧ (m.names.take m.ps).Nodup ∧
    RoomG k X.A ∧ FnG X.prog X.w X.K X.mg X.base k fa fd (m.names.take m.ps) (spF X.K cl f)
  gb : ∀ x d, gl x = some d → ∃ v u, X.mg (nm x) = some u ∧ RelV v u ∧ ∀ F R, Rep X.K F R v d
  px : PassesOwn (model X.prog X.w) X.A X.env X.xe
section
variable {nm : Nat → Str} {P : List (Nat × MF)} {cl : Nat → List D → Sto → Out D} {gl : Nat → Option D} {X : Cx}
theorem snd_var {i : Nat} {x : Str} {pos : Pos} (hN : X.N[i]? = some x) (hv : Vis X.env.scope x) (hd : (x == ("__debug__" : Str)) = false) (hcd : (x == ("__classdict__" : Str)) = false) : PE X (.Name x pos) (tE cl gl X.K (.var i)) := by
  refine PE.imp (pe_var hN hv hd hcd) fun σ H Q h => ?_
  obtain ⟨F, R, fr, S, d, S', rs, rf, he, k⟩ := h
  simp only [ev] at he
  split at he
  · rename_i d' hfr
    cases he
    obtain ⟨v, h1, h2⟩ := rf.sl i _ hfr
    exact ⟨v, h1, k F R H v .refl rs h2⟩
  · cases he
theorem snd_const {e : Expr} {v : V} {d : D} (h : PE X e (tC v)) (hr : ∀ F R, Rep X.K F R v d) : PE X e (tE cl gl X.K (.cst d)) := by
  refine PE.imp h fun σ H Q h => ?_
  obtain ⟨F, R, fr, S, d', S', rs, rf, he, k⟩ := h
  simp only [ev] at he
  cases he
  exact k F R H v .refl rs (hr F R)
theorem snd_glob {x : Nat} {pos : Pos} (c : Cxt nm P cl gl X) (hg : Gl X (nm x)) (hd : ((nm x) == ("__debug__" : Str)) = false) : PE X (.Name (nm x) pos) (tE cl gl X.K (.glob x)) := by
  refine ⟨fun pins s σ H Q I h => ?_⟩
  obtain ⟨F, R, fr, S, d', S', rs, rf, he, k⟩ := h
  simp only [ev] at he
  obtain ⟨e1, rfl⟩ := opt_ok he
  obtain ⟨v, u, h1, h2, h3⟩ := c.gb x d' e1
  exact ld_glob I hg h1 ⟨v, H, I, h2, k F R H v .refl rs (h3 F R)⟩ hd
theorem snd_call {f : Nat} {m : MF} {e : Expr} {es : List Expr} {ms : List ME} {p pos : Pos} (c : Cxt nm P cl gl X) (hf : P.lookup f = some m) (hg : Gl X (nm f)) (hdb : ((nm f) == ("__debug__" : Str)) = false) (hs : (e :: es).all noStar = true)
    (ha : PA X (e :: es) (tEs cl gl X.K ms)) : PE X (.Call (.Name (nm f) p) (e :: es) [] pos) (tE cl gl X.K (.call f ms)) := by
  obtain ⟨kk, fa, fd, h1, h2, h3, h4, h5, hr, F⟩ := c.fn f m hf
  simp only [List.all_cons, Bool.and_eq_true] at hs
  refine PE.imp (pe_callG F hr hg h1 h2 h3 h4 h5 ha hdb (star_cons hs.1) (star_plain hs.2)) fun σ H Q h => ?_
  obtain ⟨F, R, fr, S, d, S', rs, rf, he, k⟩ := h
  simp only [ev] at he
  obtain ⟨xs, S1, e1, he⟩ := bind_ok he
  exact ⟨F, R, fr, S, xs, S1, rs, rf, e1, fun F1 R1 H1 vs n1 rs1 rv => ⟨F1, R1, S1, xs, d, S', rs1, rv, he, fun F2 R2 H2 v n2 rs2 rv2 => k F2 R2 H2 v (n1.trans n2) rs2 rv2⟩⟩
theorem snd_call0 {f : Nat} {m : MF} {p pos : Pos} (c : Cxt nm P cl gl X) (hf : P.lookup f = some m) (hg : Gl X (nm f)) (hdb : ((nm f) == ("__debug__" : Str)) = false) : PE X (.Call (.Name (nm f) p) [] [] pos) (tE cl gl X.K (.call f [])) := by
  obtain ⟨kk, fa, fd, h1, h2, h3, h4, h5, hr, F⟩ := c.fn f m hf
  refine PE.imp (pe_callG0 F hr hg h1 h2 h3 h4 h5 hdb) fun σ H Q h => ?_
  obtain ⟨F, R, fr, S, d, S', rs, rf, he, k⟩ := h
  simp only [ev, evs] at he
  obtain ⟨xs, S1, e1, he⟩ := bind_ok he
  cases e1
  exact ⟨F, R, S, [], d, S', rs, .nil, he, k⟩
theorem rep_kw {K : PySem.W.Frag} {F : Hp} {R : List Addr} {vs zs : List V} {xs ys : List D} (r : RepAll K F R vs xs) (q : RepAll K F R zs ys) (ks : List Nat) : RepAll K F R (kwV .non ks vs zs) (xs ++ ks.map fun k => ys.getD k .non) := by
  unfold kwV
  refine r.append ?_
  induction ks with
  | nil => exact .nil
  | cons k ks ih =>
    refine .cons ?_ ih
    show Rep K F R (zs.getD k .non) (ys.getD k .non)
    rw [List.getD_eq_getElem?_getD, List.getD_eq_getElem?_getD]
    cases e : ys[k]? with
    | none =>
      have : zs[k]? = none := by
        rw [List.getElem?_eq_none_iff] at e ⊢
        rw [q.length]; exact e
      rw [this]
      exact .non
    | some d =>
      obtain ⟨v, h1, h2⟩ := q.get e
      rw [h1]
      exact h2
/-- the keywords' values -/
theorem snd_kws : ∀ {kws : List Keyword} {ms : List ME}, (∀ (i : Nat) q m, kws[i]? = some q → ms[i]? = some m → PE X q.value (tE cl gl X.K m)) → kws.length = ms.length → PK X kws (tEs cl gl X.K ms)
  | [], [], _, _ => by
    constructor
    intro pos pins s σ H Q I h
    refine pk_nil.run pos pins s σ H Q I ?_
    obtain ⟨F, R, fr, S, d, S', rs, rf, he, k⟩ := h
    simp only [evs] at he
    cases he
    exact k F R H _ .refl rs .nil
  | ⟨n, e, p⟩ :: kws, m :: ms, h, hl => by
    have t := snd_kws (kws := kws) (ms := ms) (fun i q m' h1 h2 => h (i + 1) q m' (by simpa using h1) (by simpa using h2)) (by simpa using hl)
    have h0 : PE X e (tE cl gl X.K m) := h 0 ⟨n, e, p⟩ m rfl rfl
    constructor
    intro pos pins s σ H Q I q
    refine (pk_cons h0 t).run pos pins s σ H Q I ?_
    obtain ⟨F, R, fr, S, d, S', rs, rf, he, k⟩ := q
    simp only [evs] at he
    obtain ⟨x, S1, e1, he⟩ := bind_ok he
    obtain ⟨xs, S2, e2, he⟩ := bind_ok he
    cases he
    exact ⟨F, R, fr, S, x, S1, rs, rf, e1, fun F1 R1 H1 v n1 rs1 rv => ⟨F1, R1, fr, S1, xs, _, rs1, rf.nxt n1, e2, fun F2 R2 H2 ws n2 rs2 rw' => k F2 R2 H2 _ (n1.trans n2) rs2 (.cons (rv.mono n2.f n2.r) rw')⟩⟩
theorem tEs_len {ms : List ME} {σ : Stt} {H : Hp} {Q : List V → Hp → Prop} {n : Nat} (hn : ms.length = n) (h : tEs cl gl X.K ms σ H Q) : tEs cl gl X.K ms σ H fun vs H1 => vs.length = n ∧ Q vs H1 := by
  obtain ⟨F, R, fr, S, d, S', rs, rf, he, k⟩ := h
  exact ⟨F, R, fr, S, d, S', rs, rf, he, fun F1 R1 H1 v n1 rs1 rv => ⟨by rw [rv.length, evs_len he, hn], k F1 R1 H1 v n1 rs1 rv⟩⟩
def kwNames (kws : List Keyword) : List Str := kws.filterMap (·.arg)
theorem kws_some {env : Env} {pos : Pos} : ∀ {kws : List Keyword}, kws.all (·.arg.isSome) = true → (backToKw pos (keywordEach kws env)).all (·.1.isSome) = true ∧ (backToKw pos (keywordEach kws env)).filterMap (·.1) = kwNames kws ∧ (backToKw pos (keywordEach kws env)).any (·.1.isNone) = false
  | [], _ => ⟨rfl, rfl, rfl⟩
  | ⟨some n, e, p⟩ :: kws, h => by
    simp only [List.all_cons, Bool.and_eq_true] at h
    obtain ⟨h1, h2, h3⟩ := kws_some (env := env) (pos := pos) h.2
    refine ⟨h1, ?_, h3⟩
    show n :: (backToKw pos (keywordEach kws env)).filterMap (·.1) = n :: kwNames kws
    rw [h2]
  | ⟨none, e, p⟩ :: kws, h => by simp at h
theorem snd_callK {f : Nat} {m : MF} {es : List Expr} {kws : List Keyword} {ms vs : List ME} {ks : List Nat} {p pos : Pos} (c : Cxt nm P cl gl X) (hf : P.lookup f = some m) (hg : Gl X (nm f)) (hdb : ((nm f) == ("__debug__" : Str)) = false) (hs : es.all noStar = true)
    (ha : PA X es (tEs cl gl X.K ms)) (hl : es.length = ms.length) (hk : PK X kws (tEs cl gl X.K vs)) (hkl : kws.length = vs.length) (hsome : kws.all (·.arg.isSome) = true) (hc : kwC (m.names.take m.ps) ms.length (kwNames kws) ks = true) : PE X (.Call (.Name (nm f) p) es kws pos) (tE cl gl X.K (.callK f ms ks vs)) := by
  obtain ⟨kk, fa, fd, h1, h2, h3, h4, h5, hr, F⟩ := c.fn f m hf
  obtain ⟨g1, g2, g3⟩ := kws_some (env := X.env) (pos := pos) hsome
  have hkn : vs.length = (kwNames kws).length := by
    rw [← hkl]
    clear hc g1 g2 g3 hk hkl
    induction kws with
    | nil => rfl
    | cons q kws ih =>
      simp only [List.all_cons, Bool.and_eq_true] at hsome
      obtain ⟨n, hn⟩ := Option.isSome_iff_exists.mp hsome.1
      show kws.length + 1 = (List.filterMap (·.arg) (q :: kws)).length
      rw [List.filterMap_cons_some (by exact hn), List.length_cons, ih hsome.2]
      rfl
  have read : ∀ σ H Q, tE cl gl X.K (.callK f ms ks vs) σ H Q → tEs cl gl X.K ms σ H fun ws H1 => tEs cl gl X.K vs σ H1 fun zs H2 => spF X.K cl f (kwV .non ks ws zs) H2 Q := fun σ H Q h => by
    obtain ⟨F, R, fr, S, d, S', rs, rf, he, k⟩ := h
    simp only [ev] at he
    obtain ⟨xs, S1, e1, he⟩ := bind_ok he
    obtain ⟨ys, S2, e2, he⟩ := bind_ok he
    refine ⟨F, R, fr, S, xs, S1, rs, rf, e1, fun F1 R1 H1 ws n1 rs1 rv => ⟨F1, R1, fr, S1, ys, S2, rs1, rf.nxt n1, e2, fun F2 R2 H2 zs n2 rs2 rz => ?_⟩⟩
    exact ⟨F2, R2, S2, _, d, S', rs2, rep_kw (rv.mono n2.f n2.r) rz ks, he, fun F3 R3 H3 v n3 rs3 rv3 => k F3 R3 H3 v ((n1.trans n2).trans n3) rs3 rv3⟩
  cases es with
  | cons e es =>
    have hs' := hs
    simp only [List.all_cons, Bool.and_eq_true] at hs'
    refine PE.imp (pe_callGK F hr hg h1 h2 h3 h4 hc (tEs_len rfl) (tEs_len hkn) ha hk g1 g2 hdb (star_cons hs'.1) ?_) read
    rw [star_plain hs, g3]; rfl
  | nil =>
    have hm0 : ms = [] := by
      cases ms with
      | nil => rfl
      | cons => simp at hl
    subst hm0
    refine PE.imp (pe_callGK0 F hr hg h1 h2 h3 h4 hc (tEs_len hkn) hk g1 g2 hdb ?_) fun σ H Q h => ?_
    · rw [g3]; rfl
    · obtain ⟨F, R, fr, S, xs, S1, rs, rf, he, k⟩ := read σ H Q h
      simp only [evs] at he
      cases he
      exact k F R H [] .refl rs .nil
theorem snd_blt {b : Bi} {e : Expr} {es : List Expr} {ms : List ME} {p pos : Pos} (c : Cxt nm P cl gl X) (hg : Gl X (nBi b)) (hs : (e :: es).all noStar = true) (ha : PA X (e :: es) (tEs cl gl X.K ms)) :
    PE X (.Call (.Name (nBi b) p) (e :: es) [] pos) (tE cl gl X.K (.blt b ms)) := by
  have r := bi_ok c.b b
  simp only [List.all_cons, Bool.and_eq_true] at hs
  have hs1 := star_cons (es := es) (env := X.env) hs.1
  have hs2 := star_plain (env := X.env) (pos := pos) hs.2
  have go : PE X (.Call (.Name (nBi b) p) (e :: es) [] pos) (tCB (rBlt X.K b) (tEs cl gl X.K ms)) := by
    cases b
    case len => exact pe_callB r hg (c.bi _) boot_len ha (by decide) (by decide) hs1 hs2
    case abs => exact pe_callB r hg (c.bi _) boot_abs ha (by decide) (by decide) hs1 hs2
    case int => exact pe_callTy r hg (c.bi _) PyProof.Rows.boot_int ha (by decide) (by decide) hs1 hs2
    case str => exact pe_callTy r hg (c.bi _) PyProof.Rows.boot_str ha (by decide) (by decide) hs1 hs2
    case repr => exact pe_callB r hg (c.bi _) boot_repr ha (by decide) (by decide) hs1 hs2
    case all => exact pe_callB r hg (c.bi _) boot_all ha (by decide) (by decide) hs1 hs2
    case any => exact pe_callB r hg (c.bi _) boot_any ha (by decide) (by decide) hs1 hs2
    case sum => exact pe_callB r hg (c.bi _) boot_sum ha (by decide) (by decide) hs1 hs2
    case max => exact pe_callB r hg (c.bi _) boot_max ha (by decide) (by decide) hs1 hs2
    case min => exact pe_callB r hg (c.bi _) boot_min ha (by decide) (by decide) hs1 hs2
    case tuple => exact pe_callTy r hg (c.bi _) PyProof.Rows.boot_tuple ha (by decide) (by decide) hs1 hs2
    case list => exact pe_callTy r hg (c.bi _) PyProof.Rows.boot_list ha (by decide) (by decide) hs1 hs2
    case divmod => exact pe_callB r hg (c.bi _) boot_divmod ha (by decide) (by decide) hs1 hs2
    case sorted => exact pe_callB r hg (c.bi _) boot_sorted ha (by decide) (by decide) hs1 hs2
    case isinst => exact pe_callB r hg (c.bi _) boot_isinstance ha (by decide) (by decide) hs1 hs2
    case range => exact pe_callTy r hg (c.bi _) PyProof.Rows.boot_range ha (by decide) (by decide) hs1 hs2
  refine PE.imp go fun σ H Q h => ?_
  obtain ⟨F, R, fr, S, d, S', rs, rf, he, k⟩ := h
  simp only [ev] at he
  obtain ⟨xs, S1, e1, he⟩ := bind_ok he
  obtain ⟨e2, rfl⟩ := opt_ok he
  exact ⟨F, R, fr, S, xs, S', rs, rf, e1, fun F1 R1 H1 vs n1 rs1 rv => ⟨F1, R1, S', xs, d, rs1, rv, e2, fun z F2 H2 n2 rz => k F2 R1 H2 z (n1.trans n2.1) (n2.2 _ rs1) rz⟩⟩
theorem snd_sub {a i : Expr} {ma mi : ME} {pos : Pos} (hs : noSlice i = true) (ha : PE X a (tE cl gl X.K ma)) (hi : PE X i (tE cl gl X.K mi)) : PE X (.Subscript a i pos) (tE cl gl X.K (.sub ma mi)) := by
  refine PE.imp (pe_ix ix_sub ha hi (plain_ix hs)) fun σ H Q h => ?_
  obtain ⟨F, R, fr, S, d, S', rs, rf, he, k⟩ := h
  simp only [ev] at he
  obtain ⟨x, S1, e1, he⟩ := bind_ok he
  obtain ⟨y, S2, e2, he⟩ := bind_ok he
  obtain ⟨e3, rfl⟩ := opt_ok he
  refine ⟨F, R, fr, S, x, S1, rs, rf, e1, fun F1 R1 H1 v n1 rs1 rv => ⟨F1, R1, fr, S1, y, S', rs1, rf.nxt n1, e2, fun F2 R2 H2 w n2 rs2 rw' => ?_⟩⟩
  exact ⟨F2, R2, S', x, y, d, rs2, rv.mono n2.f n2.r, rw', e3, fun z rz => k F2 R2 H2 z (n1.trans n2) rs2 rz⟩
theorem snd_o0 : PO X none (tEo cl gl X.K none) := by
  refine PO.imp po_none fun σ H Q h => ?_
  obtain ⟨F, R, fr, S, d, S', rs, rf, he, k⟩ := h
  simp only [evO] at he
  cases he
  exact k F R H _ .refl rs rfl
theorem snd_o1 {e : Expr} {m : ME} (h : PE X e (tE cl gl X.K m)) : PO X (some e) (tEo cl gl X.K (some m)) := by
  refine PO.imp (po_some h) fun σ H Q h => ?_
  obtain ⟨F, R, fr, S, d, S', rs, rf, he, k⟩ := h
  simp only [evO] at he
  obtain ⟨x, S1, e1, he⟩ := bind_ok he
  obtain ⟨i, S2, e2, hf⟩ := bind_ok he
  obtain ⟨e3, rfl⟩ := opt_ok e2
  cases hf
  refine ⟨F, R, fr, S, x, _, rs, rf, e1, fun F1 R1 H1 v n1 rs1 rv => ?_⟩
  cases rv <;> simp only [intO, Option.some.injEq, reduceCtorEq] at e3
  case int j => subst e3; exact ⟨j, rfl, k F1 R1 H1 _ n1 rs1 rfl⟩
theorem snd_sl {a : Expr} {lo hi : Option Expr} {ma : ME} {ml mh : Option ME} {p2 pos : Pos} (ha : PE X a (tE cl gl X.K ma)) (hl : PO X lo (tEo cl gl X.K ml)) (hh : PO X hi (tEo cl gl X.K mh)) :
    PE X (.Subscript a (.Slice lo hi none p2) pos) (tE cl gl X.K (.sl ma ml mh)) := by
  refine PE.imp (pe_slice sl_ok ha hl hh) fun σ H Q h => ?_
  obtain ⟨F, R, fr, S, d, S', rs, rf, he, k⟩ := h
  simp only [ev] at he
  obtain ⟨x, S1, e1, he⟩ := bind_ok he
  obtain ⟨l, S2, e2, he⟩ := bind_ok he
  obtain ⟨u, S3, e3, he⟩ := bind_ok he
  obtain ⟨e4, rfl⟩ := opt_ok he
  refine ⟨F, R, fr, S, x, S1, rs, rf, e1, fun F1 R1 H1 v n1 rs1 rv => ⟨F1, R1, fr, S1, l, S2, rs1, rf.nxt n1, e2, fun F2 R2 H2 l' n2 rs2 el => ⟨F2, R2, fr, S2, u, S', rs2, rf.nxt (n1.trans n2), e3, fun F3 R3 H3 u' n3 rs3 eu => ?_⟩⟩⟩
  subst el eu
  exact ⟨F3, R3, S', x, d, rs3, (rv.mono n2.f n2.r).mono n3.f n3.r, e4, fun z F4 H4 n4 rz => k F4 R3 H4 z (((n1.trans n2).trans n3).trans n4.1) (n4.2 _ rs3) rz⟩
theorem snd_rev {a : Expr} {ma : ME} {k1 : Nat} {p1 p2 p3 pos : Pos} (ha : PE X a (tE cl gl X.K ma)) : PE X (.Subscript a (.Slice none none (some (.UnaryOp .USub (.Constant (.int 1) k1 p1) p2)) p3) pos) (tE cl gl X.K (.rev ma)) := by
  refine PE.imp (pe_revL ha) fun σ H Q h => ?_
  obtain ⟨F, R, fr, S, d, S', rs, rf, he, k⟩ := h
  simp only [ev] at he
  obtain ⟨x, S1, e1, he⟩ := bind_ok he
  obtain ⟨e2, rfl⟩ := opt_ok he
  refine ⟨F, R, fr, S, x, S', rs, rf, e1, fun F1 R1 H1 v n1 rs1 rv => ?_⟩
  cases e3 : rdL S' x with
  | none => rw [e3] at e2; cases e2
  | some xs =>
    rw [e3] at e2
    cases e2
    obtain ⟨a, vs, rfl, h1, h2⟩ := rdL_ok rs1 rv e3
    refine ⟨a, vs, rfl, h1, fun p hp => ?_⟩
    have n : Nw X.K F1 R1 H1 (upd F1 p (.lst vs.reverse)) (upd H1 p (.lst vs.reverse)) := Nw.one hp rs1.fh
    exact k _ R1 _ _ (n1.trans n.1) (n.2 _ rs1) (.lst upd_same (h2.reverse.mono n.1.f n.1.r))
end
/-! ### targets -/
theorem ownAt_set {σ : L2.St} {fr : Frm} {i l : Nat} {v : V} {sv : SV} {a : Addr} (h : OwnAt (σ.set i (some v)) (fr.set i (some sv)) l a) : (l = i ∧ sv.own = true ∧ v = .ref a) ∨ (l ≠ i ∧ OwnAt σ fr l a) := by
  obtain ⟨sv', q1, q2, q3⟩ := h
  by_cases e : i = l
  · subst e
    left
    have hi : i < fr.length := by
      by_cases hi : i < fr.length
      · exact hi
      · rw [List.getElem?_eq_none (by simp; omega)] at q1; cases q1
    rw [List.getElem?_set_self hi] at q1
    cases q1
    have hs : i < σ.length := by
      by_cases hi : i < σ.length
      · exact hi
      · rw [List.getElem?_eq_none (by simp; omega)] at q3; cases q3
    rw [List.getElem?_set_self hs] at q3
    cases q3
    exact ⟨rfl, q2, rfl⟩
  · right
    rw [List.getElem?_set_ne e] at q1 q3
    exact ⟨fun z => e z.symm, sv', q1, q2, q3⟩
mutual
def gSl : MG → List Nat
  | .name i => [i]
  | .tup gs => gSls gs
  | .sub _ _ => []
def gSls : List MG → List Nat
  | [] => []
  | g :: gs => gSl g ++ gSls gs
end
section
variable (cl : Nat → List D → Sto → Out D) (gl : Nat → Option D) (K : PySem.W.Frag)
def tG (g : MG) : TG := fun v σ H Q => ∃ F R fr S d fr' S', RelS K F R H S ∧ RelF K F R H σ fr ∧ Rep K F R v d ∧ asg cl gl g fr d S = .ok fr' S' ∧
  ∀ F' R' σ' H', Nxt F R H F' R' H' → RelS K F' R' H' S' → RelF K F' R' H' σ' fr' → σ'.length = σ.length → (∀ j, j ∉ gSl g → σ'[j]? = σ[j]?) → (∀ j a, OwnAt σ' fr' j a → OwnAt σ fr j a) → Q σ' H'
def tGg (gs : List MG) : TGs := fun vs σ H Q => ∃ F R fr S ds fr' S', RelS K F R H S ∧ RelF K F R H σ fr ∧ RepAll K F R vs ds ∧ asgs cl gl gs fr ds S = .ok fr' S' ∧
  ∀ F' R' σ' H', Nxt F R H F' R' H' → RelS K F' R' H' S' → RelF K F' R' H' σ' fr' → σ'.length = σ.length → (∀ j, j ∉ gSls gs → σ'[j]? = σ[j]?) → (∀ j a, OwnAt σ' fr' j a → OwnAt σ fr j a) → Q σ' H'
end
section
variable {nm : Nat → Str} {P : List (Nat × MF)} {cl : Nat → List D → Sto → Out D} {gl : Nat → Option D} {X : Cx}
theorem RelF.set {K : PySem.W.Frag} {F H : Hp} {R : List Addr} {σ : Stt} {fr : Frm} {i : Nat} {v : V} {d : D} (f : RelF K F R H σ fr) (r : Rep K F R v d) : RelF K F R H (σ.set i (some v)) (fr.set i (some (.val d))) := by
  refine ⟨by simp [f.len], fun j sv h => ?_, fun j l a h1 h2 => ?_⟩
  · by_cases e : i = j
    · subst e
      by_cases hi : i < fr.length
      · rw [List.getElem?_set_self hi] at h
        cases h
        exact ⟨v, List.getElem?_set_self (by rw [← f.len]; exact hi), r⟩
      · rw [List.getElem?_eq_none (by simp; omega)] at h
        cases h
    · rw [List.getElem?_set_ne e] at h ⊢
      exact f.sl j sv h
  · have old : ∀ l, OwnAt (σ.set i (some v)) (fr.set i (some (.val d))) l a → OwnAt σ fr l a ∧ i ≠ l := fun l ⟨sv, q1, q2, q3⟩ => by
      by_cases e : i = l
      · subst e
        by_cases hi : i < fr.length
        · rw [List.getElem?_set_self hi] at q1
          cases q1
          cases q2
        · rw [List.getElem?_eq_none (by simp; omega)] at q1
          cases q1
      · rw [List.getElem?_set_ne e] at q1 q3
        exact ⟨⟨sv, q1, q2, q3⟩, e⟩
    exact f.ap j l a (old j h1).1 (old l h2).1
theorem snd_gname {i : Nat} {x : Str} {pos : Pos} (hN : X.N.Nodup) (hi : X.N[i]? = some x) (hx : Loc X.env.scope x) (hf : X.fn x = true ∨ X.env.scope.names.lookup x = some .local) : PG X (.Name x pos) (tG cl gl X.K (.name i)) := by
  refine PG.imp (pg_name hN hi hx hf) fun v σ H Q h => ?_
  obtain ⟨F, R, fr, S, d, fr', S', rs, rf, rv, he, k⟩ := h
  simp only [asg] at he
  cases he
  refine k F R _ H .refl rs (rf.set rv) (by simp) (fun j hj => ?_) fun j a hj => ?_
  · have : i ≠ j := fun e => hj (by simp [gSl, e])
    rw [List.getElem?_set_ne this]
  · rcases ownAt_set hj with ⟨_, o1, _⟩ | ⟨_, o1⟩
    · cases o1
    · exact o1
theorem snd_gnil : PGs X [] (tGg cl gl X.K []) := by
  refine PGs.imp pgs_nil fun vs σ H Q h => ?_
  obtain ⟨F, R, fr, S, ds, fr', S', rs, rf, rv, he, k⟩ := h
  cases ds with
  | nil =>
    cases rv
    simp only [asgs] at he
    cases he
    exact ⟨rfl, k F R σ H .refl rs rf rfl (fun _ _ => rfl) fun _ _ z => z⟩
  | cons => simp [asgs] at he
theorem assign_cons {e : Expr} {es : List Expr} {env : Env} (h : noStar e = true) : assignEach (e :: es) env = (false, assign e env) :: assignEach es env := by
  cases e <;> first | rfl | (simp [noStar] at h)
theorem assign_plain {env : Env} : ∀ {es : List Expr}, es.all noStar = true → (assignEach es env).length = es.length ∧ (assignEach es env).findIdx? (·.1) = none
  | [], _ => ⟨rfl, rfl⟩
  | e :: es, h => by
    simp only [List.all_cons, Bool.and_eq_true] at h
    obtain ⟨h1, h2⟩ := assign_plain (env := env) h.2
    rw [assign_cons h.1]
    refine ⟨by rw [List.length_cons, List.length_cons, h1], ?_⟩
    rw [List.findIdx?_cons, h2]; rfl
theorem snd_gcons {e : Expr} {es : List Expr} {g : MG} {gs : List MG} (hs : noStar e = true) (h1 : PG X e (tG cl gl X.K g)) (h2 : PGs X es (tGg cl gl X.K gs)) : PGs X (e :: es) (tGg cl gl X.K (g :: gs)) := by
  refine PGs.imp (pgs_cons h1 h2 (by rw [assign_cons hs]; rfl)) fun vs σ H Q h => ?_
  obtain ⟨F, R, fr, S, ds, fr', S', rs, rf, rv, he, k⟩ := h
  cases ds with
  | nil => simp [asgs] at he
  | cons d ds =>
    cases rv with
    | cons r t =>
      simp only [asgs] at he
      obtain ⟨fr1, S1, e1, he⟩ := bind_ok he
      refine ⟨_, _, rfl, F, R, fr, S, d, fr1, S1, rs, rf, r, e1, fun F1 R1 σ1 H1 n1 rs1 rf1 l1 o1 w1 => ?_⟩
      refine ⟨F1, R1, fr1, S1, ds, fr', S', rs1, rf1, t.mono n1.f n1.r, he, fun F2 R2 σ2 H2 n2 rs2 rf2 l2 o2 w2 => k F2 R2 σ2 H2 (n1.trans n2) rs2 rf2 (l2.trans l1) (fun j hj => ?_) fun j a z => w1 j a (w2 j a z)⟩
      simp only [gSls, List.mem_append, not_or] at hj
      rw [o2 j hj.2, o1 j hj.1]
theorem asgs_len {gs : List MG} : ∀ {fr : Frm} {ds : List D} {S S' : Sto} {fr' : Frm}, asgs cl gl gs fr ds S = .ok fr' S' → ds.length = gs.length := by
  induction gs with
  | nil =>
    intro fr ds S S' fr' h
    cases ds with
    | nil => rfl
    | cons => simp [asgs] at h
  | cons g gs ih =>
    intro fr ds S S' fr' h
    cases ds with
    | nil => simp [asgs] at h
    | cons d ds =>
      simp only [asgs] at h
      obtain ⟨a, b, e1, e2⟩ := bind_ok h
      rw [List.length_cons, List.length_cons, ih e2]
theorem PG.or {X : Cx} {e : Expr} {t1 t2 : TG} (h1 : PG X e t1) (h2 : PG X e t2) : PG X e (fun v σ H Q => t1 v σ H Q ∨ t2 v σ H Q) := by
  constructor
  intro pins s σ H v u Q I r h
  rcases h with h | h
  · exact h1.run pins s σ H v u Q I r h
  · exact h2.run pins s σ H v u Q I r h
theorem snd_gtup {es : List Expr} {gs : List MG} {k1 : Nat} {pos : Pos} (c : Cxt nm P cl gl X) (hs : es.all noStar = true) (hl : es.length = gs.length) (h : PGs X es (tGg cl gl X.K gs)) : PG X (.Tuple es k1 pos) (tG cl gl X.K (.tup gs)) := by
  obtain ⟨a1, a2⟩ := assign_plain (env := X.env) hs
  refine PG.imp (PG.or (pg_tup c.b.calm h a1 a2) (pg_unl c.b.calm h a1 a2)) fun v σ H Q h => ?_
  obtain ⟨F, R, fr, S, d, fr', S', rs, rf, rv, he, k⟩ := h
  cases rv <;> simp only [asg, reduceCtorEq] at he
  case lst a xs ds ha ra =>
    refine .inr ⟨a, xs, rfl, SqL.of (rs.fh _ _ ha), by rw [ra.length, asgs_len he, hl], F, R, fr, S, ds, fr', S', rs, rf, ra, he, fun F1 R1 σ1 H1 n1 rs1 rf1 l1 o1 w1 => k F1 R1 σ1 H1 n1 rs1 rf1 l1 (fun j hj => o1 j (by simpa [gSl] using hj)) w1⟩
  case tup a xs ds ha ra =>
    refine .inl ⟨a, xs, rfl, same_t rs.fh ha, by rw [ra.length, asgs_len he, hl], F, R, fr, S, ds, fr', S', rs, rf, ra, he, fun F1 R1 σ1 H1 n1 rs1 rf1 l1 o1 w1 => k F1 R1 σ1 H1 n1 rs1 rf1 l1 (fun j hj => o1 j (by simpa [gSl] using hj)) w1⟩
/-- a thing of the store is changed -/
theorem store_set {K : PySem.W.Frag} {F H : Hp} {R : List Addr} {S : Sto} {n j : Nat} {a : Addr} {vs : List V} {xs : List D} {v : V} {d : D} {σ : Stt} {fr : Frm} (rs : RelS K F R H S) (rf : RelF K F R H σ fr) (hn : R[n]? = some a) (hS : S[n]? = some (.lst xs)) (hH : H a = some (.lst vs)) (ra : RepAll K F R vs xs) (rv : Rep K F R v d) :
    Nxt F R H F R (upd H a (.lst (vs.set j v))) ∧ RelS K F R (upd H a (.lst (vs.set j v))) (S.set n (.lst (xs.set j d))) ∧ RelF K F R (upd H a (.lst (vs.set j v))) σ fr := by
  have ha : a ∈ R := List.mem_of_getElem? hn
  have fa : F a = none := (rs.at_ n a _ hn hS).1
  have nx : Nxt F R H F R (upd H a (.lst (vs.set j v))) := ⟨Same.refl _, List.prefix_refl _, fun _ _ h => .inl h, fun b o h hb => by
    have hne : b ≠ a := fun e => by subst e; exact hb ha
    rw [upd_ne hne]; exact h, fun _ h => .inl h⟩
  refine ⟨nx, ⟨fun b o h => ?_, by simp [rs.len], rs.nd, fun b hb => ?_, fun i b o h1 h2 => ?_⟩, rf.nxt nx⟩
  · rw [upd_ne (fun e => by rw [e, fa] at h; cases h)]; exact rs.fh b o h
  · by_cases e : b = a
    · subst e; exact ⟨_, upd_same⟩
    · obtain ⟨o, ho⟩ := rs.tr b hb
      exact ⟨o, by rw [upd_ne e]; exact ho⟩
  · by_cases e : i = n
    · subst e
      rw [hn] at h1
      cases h1
      have hi : i < S.length := (List.getElem?_eq_some_iff.mp hS).1
      rw [List.getElem?_set_self hi] at h2
      cases h2
      exact ⟨fa, _, upd_same, ra.set rv j⟩
    · rw [List.getElem?_set_ne (fun z => e z.symm)] at h2
      have hne : b ≠ a := fun z => by subst z; exact e ((List.getElem_inj rs.nd).mp ((List.getElem?_eq_some_iff.mp h1).2.trans (List.getElem?_eq_some_iff.mp hn).2.symm))
      have q := rs.at_ i b o h1 h2
      cases o with
      | lst ds =>
        obtain ⟨g1, ws, g2, g3⟩ := q
        exact ⟨g1, ws, by rw [upd_ne hne]; exact g2, g3⟩
      | dct _ => exact q
      | ins _ _ => exact q
      | dead => trivial
theorem snd_gsub {o i : Expr} {mo mi : ME} {pos : Pos} (hs : noSlice i = true) (ho : PE X o (tE cl gl X.K mo)) (hi : PE X i (tE cl gl X.K mi)) : PG X (.Subscript o i pos) (tG cl gl X.K (.sub mo mi)) := by
  refine PG.imp (pg_sub ho hi set_list (by intro v; cases i <;> first | rfl | (simp [noSlice] at hs))) fun v σ H Q h => ?_
  obtain ⟨F, R, fr, S, d, fr', S', rs, rf, rv, he, k⟩ := h
  simp only [asg] at he
  obtain ⟨x, S1, e1, he⟩ := bind_ok he
  obtain ⟨y, S2, e2, he⟩ := bind_ok he
  refine ⟨F, R, fr, S, x, S1, rs, rf, e1, fun F1 R1 H1 ov n1 rs1 ro => ⟨F1, R1, fr, S1, y, S2, rs1, rf.nxt n1, e2, fun F2 R2 H2 iv n2 rs2 ri => ?_⟩⟩
  have inv : ∃ n j, x = .obj n ∧ y = .int j := by
    cases x <;> cases y <;> first | exact ⟨_, _, rfl, rfl⟩ | (simp only [reduceCtorEq] at he)
  obtain ⟨n, j, rfl, rfl⟩ := inv
  cases ri
  cases ro with
  | obj hn =>
    obtain ⟨S3, S4, e3, hf⟩ := bind_ok he
    obtain ⟨e4, rfl⟩ := opt_ok e3
    cases hf
    have hn2 := ix_pre n2.r hn
    unfold setD at e4
    cases hS : S4[n]? with
    | none => rw [hS] at e4; cases e4
    | some so =>
      rw [hS] at e4
      cases so with
      | lst xs =>
        cases hj : ixN xs.length j with
        | none => simp only [hj] at e4; cases e4
        | some jj =>
          simp only [hj, Option.some.injEq] at e4
          subst e4
          obtain ⟨g1, vs, g2, g3⟩ := rs2.at_ n _ _ hn2 hS
          have rv2 := (rv.mono n1.f n1.r).mono n2.f n2.r
          obtain ⟨q1, q2, q3⟩ := store_set (j := jj) rs2 (rf.nxt (n1.trans n2)) hn2 hS g2 g3 rv2
          exact ⟨_, vs, j, jj, rfl, rfl, g2, by rw [g3.length]; exact hj, k F2 R2 σ _ ((n1.trans n2).trans q1) q2 q3 rfl (fun _ _ => rfl) fun _ _ z => z⟩
      | _ => cases e4
end
end Mn
/-! what is walked; comprehensions -/
namespace Mn
open PySem PySem.Spec PyProof.Rows L2 RZ
/-- J walks the items xs, seen from the state F0 R0 H0 on -/
def WalkD (K : PySem.W.Frag) (J : It) (xs : List D) (F0 : Hp) (R0 : List Addr) : Prop :=
  ∃ G Y, L2.Walk J xs.length G Y ∧ (∀ F H, Same F0 F → Same F H → G H) ∧
    ∀ F R H i x H', Same F0 F → R0 <+: R → Same F H → i < xs.length → Y i H x H' → ∃ F' d, xs[i]? = some d ∧ Nw K F R H F' H' ∧ Rep K F' R x d
section
variable {K : PySem.W.Frag} {F0 : Hp} {R0 : List Addr} {a b : Addr} {vs ws : List V} {xs ys : List D}
theorem wd_list (h : SqL K F0 a vs) (ra : RepAll K F0 R0 vs xs) : WalkD K (Itl K a) xs F0 R0 := by
  refine ⟨fun H => SqL K H a vs, YAt vs, ?_, fun F H n fh => fh.seq (n.seq h), fun F R H i x H' n np fh hi y => ?_⟩
  · rw [← ra.length]; exact walk_list
  · obtain ⟨rfl, hx⟩ := y
    obtain ⟨d, h1, h2⟩ := (ra.mono n np).got hx
    exact ⟨F, d, h1, .refl, h2⟩
theorem wd_tup (h : SqT K F0 a vs) (ra : RepAll K F0 R0 vs xs) : WalkD K (Itt K a) xs F0 R0 := by
  refine ⟨fun H => SqT K H a vs, YAt vs, ?_, fun F H n fh => same_t fh (same_t n h), fun F R H i x H' n np fh hi y => ?_⟩
  · rw [← ra.length]; exact walk_tup
  · obtain ⟨rfl, hx⟩ := y
    obtain ⟨d, h1, h2⟩ := (ra.mono n np).got hx
    exact ⟨F, d, h1, .refl, h2⟩
theorem wd_range {lo : Int} {m : Nat} : WalkD K (Itr lo m) ((List.range m).map fun i => D.int (lo + (i : Nat))) F0 R0 := by
  have hl : ((List.range m).map fun i => D.int (lo + (i : Nat))).length = m := by simp
  refine ⟨fun _ => True, YFn fun i => .int (lo + i), ?_, fun F H n fh => trivial, fun F R H i x H' n np fh hi y => ?_⟩
  · rw [hl]; exact walk_range
  · obtain ⟨rfl, rfl⟩ := y
    rw [hl] at hi
    refine ⟨F, .int (lo + i), ?_, .refl, .int _⟩
    rw [List.getElem?_map, List.getElem?_range hi]; rfl
theorem pair_new {F H : Hp} {R : List Addr} {T : Addr} {x y : V} {d e : D} (fh : Same F H) (hT : H T = none) (rx : Rep K F R x d) (ry : Rep K F R y e) :
    Nw K F R H (upd F T (.tup [x, y])) (upd H T (.tup [x, y])) ∧ Rep K (upd F T (.tup [x, y])) R (.ref T) (.tup [d, e]) := by
  have n : Nw K F R H (upd F T (.tup [x, y])) (upd H T (.tup [x, y])) := Nw.one hT fh
  exact ⟨n, .tup (SqT.of upd_same) (.cons (rx.mono n.1.f n.1.r) (.cons (ry.mono n.1.f n.1.r) .nil))⟩
theorem wd_enum (h : SqL K F0 a vs) (ra : RepAll K F0 R0 vs xs) : WalkD K (Ite K a) (enumD xs) F0 R0 := by
  have hl : (enumD xs).length = vs.length := by unfold enumD; simp [ra.length]
  refine ⟨fun H => SqL K H a vs, YPair (fun i => some (.int (i : Nat))) (fun i => vs[i]?), ?_, fun F H n fh => fh.seq (n.seq h), fun F R H i x H' n np fh hi y => ?_⟩
  · rw [hl]; exact walk_enum
  · obtain ⟨T, u, w, rfl, hT, rfl, e1, e2⟩ := y
    cases e1
    obtain ⟨d, h1, h2⟩ := (ra.mono n np).got e2
    obtain ⟨q1, q2⟩ := pair_new fh hT (.int (i : Int)) h2
    refine ⟨_, _, ?_, q1, q2⟩
    unfold enumD
    rw [List.getElem?_map, List.getElem?_zipIdx, h1]
    simp
theorem wd_pair {J : It} {G : Hp → Prop} (hw : ∀ m, m = min vs.length ws.length → L2.Walk J m G (YPair (fun i => vs[i]?) (fun i => ws[i]?))) (hG : ∀ F H, Same F0 F → Same F H → G H)
    (ra : RepAll K F0 R0 vs xs) (rb : RepAll K F0 R0 ws ys) : WalkD K J (zipD xs ys) F0 R0 := by
  have hl : (zipD xs ys).length = min vs.length ws.length := by unfold zipD; simp [ra.length, rb.length]
  refine ⟨G, _, hw _ hl, hG, fun F R H i x H' n np fh hi y => ?_⟩
  obtain ⟨T, u, w, rfl, hT, rfl, e1, e2⟩ := y
  obtain ⟨d, h1, h2⟩ := (ra.mono n np).got e1
  obtain ⟨e, h3, h4⟩ := (rb.mono n np).got e2
  obtain ⟨q1, q2⟩ := pair_new fh hT h2 h4
  refine ⟨_, _, ?_, q1, q2⟩
  unfold zipD
  have hz : (xs.zip ys)[i]? = some (d, e) := List.getElem?_zip_eq_some.mpr ⟨h1, h3⟩
  rw [List.getElem?_map, hz]; rfl
/-- zip of two tuples -/
theorem walk_zipT {m : Nat} (hn : m = min vs.length ws.length) : L2.Walk (ItzT K a b) m (fun H => SqT K H a vs ∧ SqT K H b ws) (YPair (fun i => vs[i]?) (fun i => ws[i]?)) := by
  subst hn
  refine ⟨fun i H hi q => ⟨vs, ws, vs[i]'(by omega), ws[i]'(by omega), q.1, q.2, by simp [show i < vs.length by omega], by simp [show i < ws.length by omega]⟩, fun H q => ⟨vs, ws, q.1, q.2, by omega⟩, fun i H v H' _ q y => ?_⟩
  obtain ⟨T, x, z, h1, h2, h3, h4, h5⟩ := y
  exact ⟨T, x, z, h1, h2, h3, h4 vs q.1, h5 ws q.2⟩
end
section
variable (cl : Nat → List D → Sto → Out D) (gl : Nat → Option D) (K : PySem.W.Frag)
def tW (m : MI) : TI := fun σ H Rr => ∃ F R fr S xs S', RelS K F R H S ∧ RelF K F R H σ fr ∧ evI cl gl fr m S = .ok xs S' ∧
  ∀ F' R' H' J, Nxt F R H F' R' H' → RelS K F' R' H' S' → WalkD K J xs F' R' → Rr J H'
end
section
variable {nm : Nat → Str} {P : List (Nat × MF)} {cl : Nat → List D → Sto → Out D} {gl : Nat → Option D} {X : Cx}
theorem rdF_ok {K : PySem.W.Frag} {F : Hp} {R : List Addr} {v : V} {x : D} {xs : List D} (r : Rep K F R v x) (h : rdF x = some xs) : ∃ a vs, v = .ref a ∧ SqL K F a vs ∧ RepAll K F R vs xs := by
  cases r <;> simp only [rdF, Option.some.injEq, reduceCtorEq] at h
  case lst ha ra => subst h; exact ⟨_, _, rfl, SqL.of ha, ra⟩
  case scr a ns ha => subst h; exact ⟨_, _, rfl, ha, RepAll.ints ns⟩
theorem snd_ilst {tg e : Expr} {m : ME} (h : PE X e (tE cl gl X.K m)) : PI X tg e (tW cl gl X.K (.lst m)) := by
  refine PI.imp (pi_list h) fun σ H Rr h => ?_
  obtain ⟨F, R, fr, S, xs, S', rs, rf, he, k⟩ := h
  simp only [evI] at he
  obtain ⟨x, S1, e1, he⟩ := bind_ok he
  obtain ⟨e2, rfl⟩ := opt_ok he
  refine ⟨F, R, fr, S, x, S', rs, rf, e1, fun F1 R1 H1 v n1 rs1 rv => ?_⟩
  obtain ⟨a, vs, rfl, h1, h2⟩ := rdF_ok rv e2
  exact ⟨a, rfl, ⟨vs, rs1.fh.seq h1⟩, k F1 R1 H1 _ n1 rs1 (wd_list h1 h2)⟩
theorem snd_itup {tg e : Expr} {m : ME} (h : PE X e (tE cl gl X.K m)) : PI X tg e (tW cl gl X.K (.tup m)) := by
  refine PI.imp (pi_tup h) fun σ H Rr h => ?_
  obtain ⟨F, R, fr, S, xs, S', rs, rf, he, k⟩ := h
  simp only [evI] at he
  obtain ⟨x, S1, e1, he⟩ := bind_ok he
  cases x <;> simp only [reduceCtorEq] at he
  case tup ys =>
    cases he
    refine ⟨F, R, fr, S, _, _, rs, rf, e1, fun F1 R1 H1 v n1 rs1 rv => ?_⟩
    cases rv with
    | tup ha ra => exact ⟨_, rfl, ⟨_, same_t rs1.fh ha⟩, k F1 R1 H1 _ n1 rs1 (wd_tup ha ra)⟩
theorem int_of {K : PySem.W.Frag} {F : Hp} {R : List Addr} {v : V} {x : D} {i : Int} (r : Rep K F R v x) (h : intO x = some i) : v = .int i := by
  cases r <;> simp only [intO, Option.some.injEq, reduceCtorEq] at h
  case int c => rw [h]
theorem rng_ok {lo hi : Int} {xs : List D} (h : rngD lo hi = some xs) : (-(2 ^ 62) ≤ lo ∧ lo < 2 ^ 62 ∧ -(2 ^ 62) ≤ hi ∧ hi < 2 ^ 62) ∧ xs = (List.range (hi - lo).toNat).map fun i => D.int (lo + (i : Nat)) := by
  unfold rngD at h
  split at h
  · rename_i c; cases h; exact ⟨c, rfl⟩
  · cases h
theorem snd_irng1 {tg a : Expr} {m : ME} {p pos : Pos} (c : Cxt nm P cl gl X) (hg : Gl X "range") (hs : noStar a = true) (h : PE X a (tE cl gl X.K m)) : PI X tg (.Call (.Name "range" p) [a] [] pos) (tW cl gl X.K (.rng1 m)) := by
  have hst : starEach [a] X.env = [(false, eval a X.env)] := star_cons hs
  refine PI.imp (pi_range1 hg (c.bi .range) (pa_cons h pa_nil hst) hst) fun σ H Rr h => ?_
  obtain ⟨F, R, fr, S, xs, S', rs, rf, he, k⟩ := h
  simp only [evI] at he
  obtain ⟨x, S1, e1, he⟩ := bind_ok he
  obtain ⟨e2, rfl⟩ := opt_ok he
  refine ⟨F, R, fr, S, x, S', rs, rf, e1, fun F1 R1 H1 v n1 rs1 rv => ?_⟩
  cases e3 : intO x with
  | none => rw [e3] at e2; cases e2
  | some i =>
    rw [e3] at e2
    obtain ⟨⟨b1, b2, b3, b4⟩, rfl⟩ := rng_ok (show rngD 0 i = some xs from e2)
    refine ⟨i, by rw [int_of rv e3], b3, b4, k F1 R1 H1 _ n1 rs1 ?_⟩
    have e : (i - 0).toNat = i.toNat := by rw [Int.sub_zero]
    rw [e]
    exact wd_range
theorem snd_irng2 {tg a b : Expr} {m m2 : ME} {p pos : Pos} (c : Cxt nm P cl gl X) (hg : Gl X "range") (hs : noStar a = true) (hs2 : noStar b = true) (h : PE X a (tE cl gl X.K m)) (h2 : PE X b (tE cl gl X.K m2)) :
    PI X tg (.Call (.Name "range" p) [a, b] [] pos) (tW cl gl X.K (.rng2 m m2)) := by
  have hst2 : starEach [b] X.env = [(false, eval b X.env)] := star_cons hs2
  have hst : starEach [a, b] X.env = [(false, eval a X.env), (false, eval b X.env)] := by rw [star_cons hs, hst2]
  refine PI.imp (pi_range2 hg (c.bi .range) (pa_cons h (pa_cons h2 pa_nil hst2) (star_cons hs)) hst hst2) fun σ H Rr h => ?_
  obtain ⟨F, R, fr, S, xs, S', rs, rf, he, k⟩ := h
  simp only [evI] at he
  obtain ⟨x, S1, e1, he⟩ := bind_ok he
  obtain ⟨y, S2, e2, he⟩ := bind_ok he
  obtain ⟨e3, rfl⟩ := opt_ok he
  refine ⟨F, R, fr, S, x, S1, rs, rf, e1, fun F1 R1 H1 v n1 rs1 rv => ⟨F1, R1, fr, S1, y, S', rs1, rf.nxt n1, e2, fun F2 R2 H2 w n2 rs2 rw' => ?_⟩⟩
  cases e4 : intO x with
  | none => rw [e4] at e3; cases e3
  | some i =>
    cases e5 : intO y with
    | none => rw [e4, e5] at e3; cases e3
    | some j =>
      rw [e4, e5] at e3
      obtain ⟨bs, rfl⟩ := rng_ok (show rngD i j = some xs from e3)
      exact ⟨i, j, by rw [int_of rv e4, int_of rw' e5], bs, k F2 R2 H2 _ (n1.trans n2) rs2 wd_range⟩
theorem snd_ienum {e : Expr} {m : ME} {elts : List Expr} {kk : Nat} {p pos tpos : Pos} (c : Cxt nm P cl gl X) (hg : Gl X "enumerate") (hs : noStar e = true) (h : PE X e (tE cl gl X.K m)) :
    PI X (.Tuple elts kk tpos) (.Call (.Name "enumerate" p) [e] [] pos) (tW cl gl X.K (.enum m)) := by
  have hst : starEach [e] X.env = [(false, eval e X.env)] := star_cons hs
  refine PI.imp (pi_enum hg c.enu (pa_cons h pa_nil hst) hst) fun σ H Rr h => ?_
  obtain ⟨F, R, fr, S, xs, S', rs, rf, he, k⟩ := h
  simp only [evI] at he
  obtain ⟨x, S1, e1, he⟩ := bind_ok he
  obtain ⟨e2, rfl⟩ := opt_ok he
  refine ⟨F, R, fr, S, x, S', rs, rf, e1, fun F1 R1 H1 v n1 rs1 rv => ?_⟩
  cases e3 : rdF x with
  | none => rw [e3] at e2; cases e2
  | some ys =>
    rw [e3] at e2
    cases e2
    obtain ⟨a, vs, rfl, h1, h2⟩ := rdF_ok rv e3
    exact ⟨a, vs, rfl, rs1.fh.seq h1, k F1 R1 H1 _ n1 rs1 (wd_enum h1 h2)⟩
theorem rdS_ok {K : PySem.W.Frag} {F : Hp} {R : List Addr} {v : V} {x : D} {b : Bool} {xs : List D} (r : Rep K F R v x) (h : rdS x = some (b, xs)) :
    ∃ a vs, v = .ref a ∧ RepAll K F R vs xs ∧ ((b = true ∧ SqL K F a vs) ∨ (b = false ∧ SqT K F a vs)) := by
  cases r <;> simp only [rdS, Option.some.injEq, Prod.mk.injEq, reduceCtorEq] at h
  case lst ha ra => obtain ⟨rfl, rfl⟩ := h; exact ⟨_, _, rfl, ra, .inl ⟨rfl, SqL.of ha⟩⟩
  case scr a ns ha => obtain ⟨rfl, rfl⟩ := h; exact ⟨_, _, rfl, RepAll.ints ns, .inl ⟨rfl, ha⟩⟩
  case tup ha ra => obtain ⟨rfl, rfl⟩ := h; exact ⟨_, _, rfl, ra, .inr ⟨rfl, ha⟩⟩
theorem snd_izip {a b : Expr} {m m2 : ME} {elts : List Expr} {kk : Nat} {p pos tpos : Pos} (c : Cxt nm P cl gl X) (hg : Gl X "zip") (hs : noStar a = true) (hs2 : noStar b = true) (h : PE X a (tE cl gl X.K m)) (h2 : PE X b (tE cl gl X.K m2)) :
    PI X (.Tuple elts kk tpos) (.Call (.Name "zip" p) [a, b] [] pos) (tW cl gl X.K (.zip m m2)) := by
  have hst2 : starEach [b] X.env = [(false, eval b X.env)] := star_cons hs2
  refine PI.imp (pi_zipA hg c.zip (pa_cons h (pa_cons h2 pa_nil hst2) (star_cons hs)) (star_cons hs) (star_plain (by simp [hs2]))) fun σ H Rr h => ?_
  obtain ⟨F, R, fr, S, xs, S', rs, rf, he, k⟩ := h
  simp only [evI] at he
  obtain ⟨x, S1, e1, he⟩ := bind_ok he
  obtain ⟨y, S2, e2, he⟩ := bind_ok he
  obtain ⟨e3, rfl⟩ := opt_ok he
  refine ⟨F, R, fr, S, x, S1, rs, rf, e1, fun F1 R1 H1 v n1 rs1 rv => ⟨F1, R1, fr, S1, y, S', rs1, rf.nxt n1, e2, fun F2 R2 H2 w n2 rs2 rw' => ?_⟩⟩
  unfold zipO at e3
  cases e4 : rdS x with
  | none => rw [e4] at e3; cases e3
  | some p1 =>
    obtain ⟨b1, ys⟩ := p1
    cases e5 : rdS y with
    | none => rw [e4, e5] at e3; cases e3
    | some p2 =>
      obtain ⟨b2, zs⟩ := p2
      rw [e4, e5] at e3
      simp only at e3
      split at e3
      · rename_i hb
        cases e3
        obtain ⟨a1, vs, rfl, r1, q1⟩ := rdS_ok (rv.mono n2.f n2.r) e4
        obtain ⟨a2, ws, rfl, r2, q2⟩ := rdS_ok rw' e5
        rcases q1 with ⟨t1, s1⟩ | ⟨t1, s1⟩ <;> rcases q2 with ⟨t2, s2⟩ | ⟨t2, s2⟩
        · exact ⟨a1, a2, vs, ws, rfl, .inl ⟨rs2.fh.seq s1, rs2.fh.seq s2, k F2 R2 H2 _ (n1.trans n2) rs2 (wd_pair (fun m hm => walk_zip hm) (fun F3 H3 n3 f3 => ⟨f3.seq (n3.seq s1), f3.seq (n3.seq s2)⟩) r1 r2)⟩⟩
        · subst t1 t2; cases hb
        · subst t1 t2; cases hb
        · exact ⟨a1, a2, vs, ws, rfl, .inr ⟨same_t rs2.fh s1, same_t rs2.fh s2, k F2 R2 H2 _ (n1.trans n2) rs2 (wd_pair (fun m hm => walk_zipT hm) (fun F3 H3 n3 f3 => ⟨same_t f3 (same_t n3 s1), same_t f3 (same_t n3 s2)⟩) r1 r2)⟩⟩
      · cases e3
/-! ### comprehensions -/
theorem snd_ts0 : PTs X [] (tMs cl gl X.K []) := by
  constructor
  intro pins s σ H Q I h
  refine pts_nil.run pins s σ H Q I ?_
  obtain ⟨F, R, fr, S, d, S', rs, rf, he, k⟩ := h
  simp only [evTs] at he
  cases he
  exact k F R H _ .refl rs rfl
theorem snd_ts1 {c : Expr} {m : MT} (h : PT X c (tM cl gl X.K m)) : PTs X [c] (tMs cl gl X.K [m]) := by
  constructor
  intro pins s σ H Q I q
  refine (pts_one h).run pins s σ H Q I ?_
  obtain ⟨F, R, fr, S, d, S', rs, rf, he, k⟩ := q
  simp only [evTs] at he
  exact ⟨F, R, fr, S, d, S', rs, rf, he, k⟩
theorem wipeF_length (fr : Frm) : ∀ vs : List Nat, (wipeF fr vs).length = fr.length
  | [] => rfl
  | v :: vs => by unfold wipeF; rw [List.length_set, wipeF_length fr vs]
theorem wipeF_at {fr : Frm} {i : Nat} {sv : SV} : ∀ {vs : List Nat}, (wipeF fr vs)[i]? = some (some sv) → fr[i]? = some (some sv) ∧ i ∉ vs
  | [], h => ⟨h, by simp⟩
  | v :: vs, h => by
    unfold wipeF at h
    by_cases e : v = i
    · subst e
      by_cases hi : v < (wipeF fr vs).length
      · rw [List.getElem?_set_self hi] at h; cases h
      · rw [List.getElem?_eq_none (by simp; omega)] at h; cases h
    · rw [List.getElem?_set_ne e] at h
      obtain ⟨h1, h2⟩ := wipeF_at h
      exact ⟨h1, by simp [h2]; exact fun z => e z.symm⟩
theorem wipe_at {σ : Stt} {i : Nat} : ∀ {vs : List Nat}, i ∉ vs → (wipe σ vs)[i]? = σ[i]?
  | [], _ => rfl
  | v :: vs, h => by
    simp only [List.mem_cons, not_or] at h
    unfold wipe
    rw [List.getElem?_set_ne (fun z => h.1 z.symm)]
    exact wipe_at h.2
theorem wipe_in {σ : Stt} {i : Nat} : ∀ {vs : List Nat}, i ∈ vs → i < σ.length → (wipe σ vs)[i]? = some none
  | v :: vs, h, hi => by
    unfold wipe
    by_cases e : v = i
    · subst e
      rw [List.getElem?_set_self (by rw [wipe_length]; exact hi)]
    · rw [List.getElem?_set_ne e]
      rcases List.mem_cons.mp h with q | q
      · exact (e q.symm).elim
      · exact wipe_in q hi
theorem RelF.wipe {K : PySem.W.Frag} {F H : Hp} {R : List Addr} {σ : Stt} {fr : Frm} (f : RelF K F R H σ fr) (vs : List Nat) : RelF K F R H (L2.wipe σ vs) (wipeF fr vs) := by
  refine ⟨by rw [wipeF_length, wipe_length, f.len], fun i sv h => ?_, fun i j a h1 h2 => ?_⟩
  · obtain ⟨h1, h2⟩ := wipeF_at h
    obtain ⟨v, h3, h4⟩ := f.sl i sv h1
    exact ⟨v, by rw [wipe_at h2]; exact h3, h4⟩
  · have old : ∀ l, OwnAt (L2.wipe σ vs) (wipeF fr vs) l a → OwnAt σ fr l a := fun l ⟨sv, q1, q2, q3⟩ => by
      obtain ⟨g1, g2⟩ := wipeF_at q1
      exact ⟨sv, g1, q2, by rw [wipe_at g2] at q3; exact q3⟩
    exact f.ap i j a (old i h1) (old j h2)
theorem wipe_same {σ σ' : Stt} {vs : List Nat} (hl : σ'.length = (L2.wipe σ vs).length) (h : ∀ j, j ∉ vs → σ'[j]? = (L2.wipe σ vs)[j]?) : L2.wipe σ' vs = L2.wipe σ vs := by
  apply List.ext_getElem?
  intro i
  by_cases hi : i ∈ vs
  · by_cases hlt : i < σ.length
    · rw [wipe_in hi hlt, wipe_in hi (by rw [hl, wipe_length]; exact hlt)]
    · rw [List.getElem?_eq_none (by rw [wipe_length, hl, wipe_length]; omega), List.getElem?_eq_none (by rw [wipe_length]; omega)]
  · rw [wipe_at hi, h i hi]
theorem Nxt.lay {F H : Hp} {R : List Addr} {p : Addr} {o : HO} (hp : H p = none) : Nxt F R H F R (upd H p o) :=
  ⟨Same.refl _, List.prefix_refl _, fun _ _ h => .inl h, fun a u h _ => by rw [upd_ne (ne_of_none h hp)]; exact h, fun _ h => .inl h⟩
theorem RelS.lay {K : PySem.W.Frag} {F H : Hp} {R : List Addr} {S : Sto} {p : Addr} {o : HO} (r : RelS K F R H S) (hp : F p = none) (hR : p ∉ R) : RelS K F R (upd H p o) S := by
  have ne : ∀ a ∈ R, a ≠ p := fun a ha e => hR (e ▸ ha)
  refine ⟨fun a u h => ?_, r.len, r.nd, fun a ha => ?_, fun i a so h1 h2 => ?_⟩
  · rw [upd_ne (fun e => by rw [e, hp] at h; cases h)]; exact r.fh a u h
  · obtain ⟨u, hu⟩ := r.tr a ha
    exact ⟨u, by rw [upd_ne (ne a ha)]; exact hu⟩
  · have ha : a ∈ R := List.mem_of_getElem? h1
    have h3 := r.at_ i a so h1 h2
    cases so with
    | lst ds =>
      obtain ⟨g1, xs, g2, g3⟩ := h3
      exact ⟨g1, xs, by rw [upd_ne (ne a ha)]; exact g2, g3⟩
    | dct _ => exact h3
    | ins _ _ => exact h3
    | dead => trivial
/-- a list of one's own stays it -/
theorem own_nxt {F H F' H' : Hp} {R R' : List Addr} {a : Addr} {o : HO} (n : Nxt F R H F' R' H') (h1 : F a = none) (h2 : a ∉ R) (h3 : H a = some o) : F' a = none ∧ a ∉ R' ∧ H' a = some o := by
  refine ⟨?_, fun h => ?_, n.tr a o h3 h2⟩
  · cases q : F' a with
    | none => rfl
    | some u =>
      rcases n.new a u q with z | z | z
      · rw [h1] at z; cases z
      · rw [h3] at z; cases z
      · exact (h2 z).elim
  · rcases n.newR a h with z | z
    · exact h2 z
    · rw [h3] at z; cases z
/-- a list of one's own is known from now on -/
theorem own_frz {K : PySem.W.Frag} {F H F0 H0 : Hp} {R R0 : List Addr} {S : Sto} {a : Addr} {vs : List V} {xs : List D} (r : RelS K F R H S) (n : Nxt F0 R0 H0 F R H) (h0 : H0 a = none) (h1 : F a = none) (h2 : a ∉ R) (h3 : H a = some (.lst vs)) (ra : RepAll K F R vs xs) :
    Nxt F0 R0 H0 (upd F a (.lst vs)) R H ∧ RelS K (upd F a (.lst vs)) R H S ∧ Rep K (upd F a (.lst vs)) R (.ref a) (.lst xs) := by
  have f1 : Same F (upd F a (.lst vs)) := fun b u h => by
    rw [upd_ne (fun e => by rw [e, h1] at h; cases h)]; exact h
  refine ⟨⟨n.f.trans f1, n.r, fun b u h => ?_, n.tr, n.newR⟩, ⟨fun b u h => ?_, r.len, r.nd, r.tr, fun i b so g1 g2 => ?_⟩, .lst upd_same (ra.mono f1 (List.prefix_refl _))⟩
  · by_cases e : b = a
    · subst e; exact .inr (.inl h0)
    · rw [upd_ne e] at h; exact n.new b u h
  · by_cases e : b = a
    · subst e; rw [upd_same] at h; cases h; exact h3
    · rw [upd_ne e] at h; exact r.fh b u h
  · have hb : b ∈ R := List.mem_of_getElem? g1
    have hne : b ≠ a := fun e => h2 (e ▸ hb)
    have q := r.at_ i b so g1 g2
    cases so with
    | lst ds =>
      obtain ⟨q1, ws, q2, q3⟩ := q
      exact ⟨by rw [upd_ne hne]; exact q1, ws, q2, q3.mono f1 (List.prefix_refl _)⟩
    | dct _ => exact q
    | ins _ _ => exact q
    | dead => trivial
def lcF (cl : Nat → List D → Sto → Out D) (gl : Nat → Option D) (fr : Frm) (own : List Nat) (g : MG) (tt : List MT) (e : ME) : List D → D → Sto → Out (List D) := fun acc x S => (asg cl gl g (wipeF fr own) x S).bind fun fr2 S => (evTs cl gl fr2 tt S).bind fun k S =>
  if k then (ev cl gl fr2 e S).bind fun d S => if acc.length < sizeLine then .ok (acc ++ [d]) S else .bad else .ok acc S
theorem Nxt.back {K : PySem.W.Frag} {F F' H H' : Hp} {R R' : List Addr} {S' : Sto} {a : Addr} (n : Nxt F R H F' R' H') (r : RelS K F' R' H' S') (h : H' a = none) : H a = none := by
  cases q : H a with
  | none => rfl
  | some o =>
    by_cases ha : a ∈ R
    · obtain ⟨u, hu⟩ := r.tr a (n.r.subset ha)
      rw [h] at hu; cases hu
    · rw [n.tr a o q ha] at h; cases h
/-- the reading of a comprehension: a new list of one's own -/
theorem lc_own {K : PySem.W.Frag} {own : List Nat} {g : MG} {src : MI} {tt : List MT} {e : ME} (hsub : ∀ j ∈ gSl g, j ∈ own) (σ : Stt) (H : Hp) (Q : VK)
    (h : ∃ F R fr S xs S1 acc S', RelS K F R H S ∧ RelF K F R H σ fr ∧ evI cl gl fr src S = .ok xs S1 ∧ foldO (lcF cl gl fr own g tt e) [] xs S1 = .ok acc S' ∧
      ∀ F' R' H' Dl vs, Nxt F R H F' R' H' → RelS K F' R' H' S' → H Dl = none → F' Dl = none → Dl ∉ R' → H' Dl = some (.lst vs) → RepAll K F' R' vs acc → Q (.ref Dl) H') :
    tLc (tW cl gl K src) (tG cl gl K g) (tMs cl gl K tt) (tE cl gl K e) own σ H Q := by
  obtain ⟨F, R, fr, S, xs, S1, acc, S', rs, rf, e1, e2, k⟩ := h
  refine ⟨F, R, fr, S, xs, S1, rs, rf, e1, fun F1 R1 H1 J n1 rs1 wd Dl hD => ?_⟩
  obtain ⟨G, Y, w, wG, wY⟩ := wd
  have hF1 : F1 Dl = none := rs1.fh.free hD
  have hR1 : Dl ∉ R1 := fun hm => by
    obtain ⟨o, ho⟩ := rs1.tr Dl hm
    rw [hD] at ho; cases ho
  refine lc_it w (fun i H' => ∃ F' R' Sx pre vs, Nxt F1 R1 H1 F' R' H' ∧ RelS K F' R' H' Sx ∧ F' Dl = none ∧ Dl ∉ R' ∧ H' Dl = some (.lst vs) ∧ RepAll K F' R' vs pre ∧ foldO (lcF cl gl fr own g tt e) pre (xs.drop i) Sx = .ok acc S')
    ⟨F1, R1, S1, [], [], Nxt.lay hD, rs1.lay hF1 hR1, hF1, hR1, upd_same, .nil, e2⟩ ?_ ?_ ?_
  · rintro i H' _ ⟨F', R', S3, pre, vs, n, r, _⟩
    exact wG F' H' n.f r.fh
  · rintro i x H' H'' hi ⟨F', R', S3, pre, vs, n, r, d1, d2, d3, ra, ef⟩ y
    obtain ⟨F2, dx, hx, nw, rx⟩ := wY F' R' H' i x H'' n.f n.r r.fh hi y
    have edrop : xs.drop i = dx :: xs.drop (i + 1) := by
      rw [List.drop_eq_getElem_cons hi]
      congr 1
      rw [List.getElem?_eq_getElem hi] at hx
      exact Option.some.inj hx
    rw [edrop] at ef
    simp only [foldO] at ef
    obtain ⟨pre2, S4, ef1, ef2⟩ := bind_ok ef
    simp only [lcF] at ef1
    obtain ⟨fr2, S5, a1, ef1⟩ := bind_ok ef1
    obtain ⟨b, S6, a2, ef1⟩ := bind_ok ef1
    have r2 := nw.2 _ r
    have n2 := n.trans nw.1
    obtain ⟨d1, d2, d3⟩ := own_nxt nw.1 d1 d2 d3
    have ra2 := ra.mono nw.1.f nw.1.r
    refine ⟨F2, R', wipeF fr own, S3, dx, fr2, S5, r2, ((rf.nxt n1).nxt n2).wipe own, rx, a1, fun F3 R3 σ3 H3 n3 r3 f3 l3 o3 _ => ⟨wipe_same l3 fun j hj => o3 j fun z => hj (hsub j z), ?_⟩⟩
    obtain ⟨d1, d2, d3⟩ := own_nxt n3 d1 d2 d3
    refine ⟨F3, R3, fr2, S5, b, S6, r3, f3, a2, fun F4 R4 H4 b' n4 r4 eb => ?_⟩
    subst eb
    obtain ⟨d1, d2, d3⟩ := own_nxt n4 d1 d2 d3
    have n5 := (n2.trans n3).trans n4
    have ra4 := (ra2.mono n3.f n3.r).mono n4.f n4.r
    cases b' with
    | false =>
      rw [if_neg Bool.false_ne_true] at ef1 ⊢
      cases ef1
      exact ⟨F4, R4, _, pre, vs, n5, r4, d1, d2, d3, ra4, ef2⟩
    | true =>
      rw [if_pos rfl] at ef1 ⊢
      obtain ⟨z, S7, a3, ef1⟩ := bind_ok ef1
      refine ⟨F4, R4, fr2, S6, z, S7, r4, f3.nxt n4, a3, fun F6 R6 H6 v n6 r6 rz => ?_⟩
      obtain ⟨d1, d2, d3⟩ := own_nxt n6 d1 d2 d3
      have ra6 := ra4.mono n6.f n6.r
      split at ef1
      · rename_i hlt
        cases ef1
        refine ⟨vs, d3, by rw [ra.length]; exact hlt, F6, R6, _, _, vs ++ [v], ?_, r6.lay d1 d2, d1, d2, upd_same, ra6.append (.cons rz .nil), ef2⟩
        have n7 := n5.trans n6
        refine ⟨n7.f, n7.r, n7.new, fun a o ha hR => ?_, n7.newR⟩
        rw [upd_ne (fun e => by rw [e, hD] at ha; cases ha)]
        exact n7.tr a o ha hR
      · cases ef1
  · rintro H' ⟨F', R', S3, pre, vs, n, r, d1, d2, d3, ra, ef⟩
    rw [List.drop_length] at ef
    simp only [foldO] at ef
    cases ef
    exact k F' R' H' Dl vs (n1.trans n) r (n1.back rs1 hD) d1 d2 d3 ra
theorem lc_read {K : PySem.W.Frag} {own : List Nat} {g : MG} {src : MI} {tt : List MT} {e : ME} (hsub : ∀ j ∈ gSl g, j ∈ own) (σ : Stt) (H : Hp) (Q : VK) (h : tE cl gl K (.lc own g src tt e) σ H Q) :
    tLc (tW cl gl K src) (tG cl gl K g) (tMs cl gl K tt) (tE cl gl K e) own σ H Q := by
  obtain ⟨F, R, fr, S, d, S', rs, rf, he, k⟩ := h
  simp only [ev] at he
  obtain ⟨xs, S1, e1, he⟩ := bind_ok he
  obtain ⟨acc, S2, e2, hf⟩ := bind_ok he
  cases hf
  refine lc_own hsub σ H Q ⟨F, R, fr, S, xs, S1, acc, _, rs, rf, e1, e2, fun F' R' H' Dl vs n r h0 d1 d2 d3 ra => ?_⟩
  obtain ⟨q1, q2, q3⟩ := own_frz r n h0 d1 d2 d3 ra
  exact k _ R' H' _ q1 q2 q3
theorem snd_lc {elt tg iter : Expr} {ifs : List Expr} {scope : Scope} {own : List (Str × Nat)} {pos : Pos} {g : MG} {src : MI} {tt : List MT} {e : ME} (c : Cxt nm P cl gl X) (hi : PI X tg iter (tW cl gl X.K src)) (ok : BlkOk X.N X.env.scope scope own)
    (hg : ∀ (s : Shared) (H : Hp) (C : Addr) (cl' : List (Str × Addr)) (fp : List Addr), PG (X.blk s H scope (compEnvC scope cl' C X.env) fp) tg (tG cl gl X.K g)) (ht : ∀ (s : Shared) (H : Hp) (C : Addr) (cl' : List (Str × Addr)) (fp : List Addr), PTs (X.blk s H scope (compEnvC scope cl' C X.env) fp) ifs (tMs cl gl X.K tt))
    (he : ∀ (s : Shared) (H : Hp) (C : Addr) (cl' : List (Str × Addr)) (fp : List Addr), PE (X.blk s H scope (compEnvC scope cl' C X.env) fp) elt (tE cl gl X.K e)) (hs : noSet iter = true) (hsub : ∀ j ∈ gSl g, j ∈ own.map (·.2)) :
    PE X (.ListComp elt [⟨tg, iter, ifs, 0⟩] scope pos) (tE cl gl X.K (.lc (own.map (·.2)) g src tt e)) :=
  PE.imp (pe_lc c.b.calm c.nd hi ok hg ht he (fun x => no_fold hs x)) fun σ H Q h => lc_read hsub σ H Q h
end
end Mn
/-! statements -/
namespace Mn
open PySem PySem.Spec PyProof.Rows L2 RZ
theorem PS.imp {X : Cx} {e : Stmt} {t t' : TS} (h : PS X e t) (w : ∀ D σ H, t' D σ H → t D σ H) : PS X e t' := ⟨fun pins s σ H D I q => h.run pins s σ H D I (w D σ H q)⟩
theorem PSs.imp {X : Cx} {e : List Stmt} {t t' : TS} (h : PSs X e t) (w : ∀ D σ H, t' D σ H → t D σ H) : PSs X e t' := ⟨fun pins s σ H D I q => h.run pins s σ H D I (w D σ H q)⟩
/-- lists of one's own are younger than the entry -/
def Frs (H0 : Hp) (σ : Stt) (fr : Frm) : Prop := ∀ i a, OwnAt σ fr i a → H0 a = none
/-- the state within a def -/
structure Mid (K : PySem.W.Frag) (F0 : Hp) (R0 : List Addr) (H0 F : Hp) (R : List Addr) (H : Hp) (σ : Stt) (fr : Frm) (S : Sto) : Prop where
  s : RelS K F R H S
  f : RelF K F R H σ fr
  n : Nxt F0 R0 H0 F R H
  y : Frs H0 σ fr
theorem Mid.step {K : PySem.W.Frag} {F0 H0 F H F' H' : Hp} {R0 R R' : List Addr} {σ : Stt} {fr : Frm} {S S' : Sto} (m : Mid K F0 R0 H0 F R H σ fr S) (n : Nxt F R H F' R' H') (r : RelS K F' R' H' S') : Mid K F0 R0 H0 F' R' H' σ fr S' :=
  ⟨r, m.f.nxt n, m.n.trans n, m.y⟩
/-- what is wanted behind -/
def EndsOk (K : PySem.W.Frag) (F0 : Hp) (R0 : List Addr) (H0 : Hp) (D : Ends) (S' : Sto) : Fl → Prop
  | .next fr' => ∀ F R H σ, Mid K F0 R0 H0 F R H σ fr' S' → D.nx σ H
  | .brk fr' => ∀ F R H σ, Mid K F0 R0 H0 F R H σ fr' S' → D.bk σ H
  | .cont fr' => ∀ F R H σ, Mid K F0 R0 H0 F R H σ fr' S' → D.ct σ H
  | .ret d => ∀ F R H v, Nxt F0 R0 H0 F R H → RelS K F R H S' → Rep K F R v d → D.rt v H
section
variable (cl : Nat → List D → Sto → Out D) (gl : Nat → Option D) (fuel : Nat) (K : PySem.W.Frag)
def tSt (s : MS) : TS := fun D σ H => ∃ F0 R0 H0 F R fr S fl S', Mid K F0 R0 H0 F R H σ fr S ∧ ex cl gl fuel s fr S = .ok fl S' ∧ EndsOk K F0 R0 H0 D S' fl
def tSb (s : List MS) : TS := fun D σ H => ∃ F0 R0 H0 F R fr S fl S', Mid K F0 R0 H0 F R H σ fr S ∧ exs cl gl fuel s fr S = .ok fl S' ∧ EndsOk K F0 R0 H0 D S' fl
end
/-- a new value: known, or a new list of one's own -/
def NewSl (K : PySem.W.Frag) (Hb F : Hp) (R : List Addr) (H : Hp) (v : V) : SV → Prop
  | .val d => Rep K F R v d
  | .olst ds => ∃ a xs, v = .ref a ∧ Hb a = none ∧ F a = none ∧ a ∉ R ∧ H a = some (.lst xs) ∧ RepAll K F R xs ds
  | .odct _ => False
theorem NewSl.nxt {K : PySem.W.Frag} {Hb F H F' H' : Hp} {R R' : List Addr} {v : V} {sv : SV} (h : NewSl K Hb F R H v sv) (n : Nxt F R H F' R' H') : NewSl K Hb F' R' H' v sv := by
  cases sv with
  | val d => exact Rep.mono n.f n.r h
  | olst ds =>
    obtain ⟨a, xs, rfl, h0, h1, h2, h3, h4⟩ := h
    obtain ⟨g1, g2, g3⟩ := own_nxt n h1 h2 h3
    exact ⟨a, xs, rfl, h0, g1, g2, g3, h4.mono n.f n.r⟩
  | odct _ => exact h
theorem OwnAt.in {K : PySem.W.Frag} {F H : Hp} {R : List Addr} {σ : Stt} {fr : Frm} {i : Nat} {a : Addr} (f : RelF K F R H σ fr) (h : OwnAt σ fr i a) : ∃ o, H a = some o ∧ F a = none ∧ a ∉ R := by
  obtain ⟨sv, h1, h2, h3⟩ := h
  obtain ⟨v, g1, g2⟩ := f.sl i sv h1
  rw [h3] at g1
  cases g1
  cases sv with
  | val => cases h2
  | olst ds =>
    obtain ⟨b, xs, e, q1, q2, q3, _⟩ := g2
    cases e
    exact ⟨_, q3, q1, q2⟩
  | odct => exact g2.elim
/-- a slot takes a new value -/
theorem RelF.setN {K : PySem.W.Frag} {F H : Hp} {R : List Addr} {σ : Stt} {fr : Frm} {i : Nat} {v : V} {sv : SV} (f : RelF K F R H σ fr) (h : SlotAt K F R H v sv) (ha : ∀ a, sv.own = true → v = .ref a → ∀ j, ¬ OwnAt σ fr j a) : RelF K F R H (σ.set i (some v)) (fr.set i (some sv)) := by
  refine ⟨by simp [f.len], fun j sv' hj => ?_, fun j l a h1 h2 => ?_⟩
  · by_cases e : i = j
    · subst e
      by_cases hi : i < fr.length
      · rw [List.getElem?_set_self hi] at hj
        cases hj
        exact ⟨v, List.getElem?_set_self (by rw [← f.len]; exact hi), h⟩
      · rw [List.getElem?_eq_none (by simp; omega)] at hj
        cases hj
    · rw [List.getElem?_set_ne e] at hj ⊢
      exact f.sl j sv' hj
  · rcases ownAt_set h1 with ⟨rfl, o1, e1⟩ | ⟨_, o1⟩ <;> rcases ownAt_set h2 with ⟨rfl, o2, e2⟩ | ⟨_, o2⟩
    · rfl
    · exact (ha a o1 e1 l o2).elim
    · exact (ha a o2 e2 j o1).elim
    · exact f.ap j l a o1 o2
theorem NewSl.slot {K : PySem.W.Frag} {Hb F H : Hp} {R : List Addr} {v : V} {sv : SV} (h : NewSl K Hb F R H v sv) : SlotAt K F R H v sv := by
  cases sv with
  | val d => exact h
  | olst ds =>
    obtain ⟨a, xs, rfl, h0, h1, h2, h3, h4⟩ := h
    exact ⟨a, xs, rfl, h1, h2, h3, h4⟩
  | odct _ => exact h
theorem NewSl.new {K : PySem.W.Frag} {Hb F H : Hp} {R : List Addr} {v : V} {sv : SV} {a : Addr} (h : NewSl K Hb F R H v sv) (ho : sv.own = true) (e : v = .ref a) : Hb a = none := by
  cases sv with
  | val d => cases ho
  | olst ds =>
    obtain ⟨b, xs, e2, h0, _⟩ := h
    rw [e] at e2; cases e2; exact h0
  | odct _ => exact h.elim
section
variable {nm : Nat → Str} {P : List (Nat × MF)} {cl : Nat → List D → Sto → Out D} {gl : Nat → Option D} {fuel : Nat} {X : Cx}
theorem Mid.setN {K : PySem.W.Frag} {F0 H0 F H Fb Hb : Hp} {R0 R Rb : List Addr} {σ : Stt} {fr : Frm} {S Sb : Sto} {i : Nat} {v : V} {sv : SV} (mb : Mid K F0 R0 H0 Fb Rb Hb σ fr Sb) (n : Nxt Fb Rb Hb F R H) (r : RelS K F R H S) (h : NewSl K Hb F R H v sv) :
    Mid K F0 R0 H0 F R H (σ.set i (some v)) (fr.set i (some sv)) S := by
  have m := mb.step n r
  refine ⟨r, m.f.setN h.slot fun a ho e j hj => ?_, m.n, fun j a hj => ?_⟩
  · obtain ⟨o, ho', _⟩ := OwnAt.in mb.f hj
    rw [h.new ho e] at ho'; cases ho'
  · rcases ownAt_set hj with ⟨rfl, o1, e1⟩ | ⟨_, o1⟩
    · have hb := h.new o1 e1
      exact mb.n.back mb.s hb
    · exact m.y j a o1
/-! ### blocks -/
theorem snd_bnil : PSs X [] (tSb cl gl fuel X.K []) := by
  refine PSs.imp pss_nil fun D σ H h => ?_
  obtain ⟨F0, R0, H0, F, R, fr, S, fl, S', m, he, k⟩ := h
  simp only [exs] at he
  cases he
  exact k F R H σ m
theorem snd_bcons {s : Stmt} {ss : List Stmt} {m : MS} {ms : List MS} (h : PS X s (tSt cl gl fuel X.K m)) (t : PSs X ss (tSb cl gl fuel X.K ms)) : PSs X (s :: ss) (tSb cl gl fuel X.K (m :: ms)) := by
  refine PSs.imp (pss_cons h t) fun D σ H h => ?_
  obtain ⟨F0, R0, H0, F, R, fr, S, fl, S', md, he, k⟩ := h
  simp only [exs] at he
  obtain ⟨f, S1, e1, he⟩ := bind_ok he
  refine ⟨F0, R0, H0, F, R, fr, S, f, S1, md, e1, ?_⟩
  cases f with
  | next fr1 => exact fun F1 R1 H1 σ1 m1 => ⟨F0, R0, H0, F1, R1, fr1, S1, fl, S', m1, he, k⟩
  | brk fr1 => cases he; exact k
  | cont fr1 => cases he; exact k
  | ret d => cases he; exact k
/-- a list is no more one's own: nothing stands in the text -/
theorem snd_bfrz {ss : List Stmt} {i : Nat} {ms : List MS} (t : PSs X ss (tSb cl gl fuel X.K ms)) : PSs X ss (tSb cl gl fuel X.K (.freeze i :: ms)) := by
  refine PSs.imp t fun D σ H h => ?_
  obtain ⟨F0, R0, H0, F, R, fr, S, fl, S', md, he, k⟩ := h
  simp only [exs, ex] at he
  obtain ⟨f, S1, e1, he⟩ := bind_ok he
  cases h1 : fr[i]? with
  | none =>
    rw [h1] at e1
    cases e1
    exact ⟨F0, R0, H0, F, R, fr, _, fl, S', md, he, k⟩
  | some o =>
    rw [h1] at e1
    cases o with
    | none => cases e1; exact ⟨F0, R0, H0, F, R, fr, _, fl, S', md, he, k⟩
    | some sv =>
      cases sv with
      | val d => cases e1; exact ⟨F0, R0, H0, F, R, fr, _, fl, S', md, he, k⟩
      | odct d =>
        obtain ⟨v, g1, g2⟩ := md.f.sl i _ h1
        exact g2.elim
      | olst xs =>
        cases e1
        obtain ⟨v, g1, g2⟩ := md.f.sl i _ h1
        obtain ⟨a, vs, rfl, d1, d2, d3, ra⟩ := g2
        have own : OwnAt σ fr i a := ⟨_, h1, rfl, g1⟩
        obtain ⟨q1, q2, q3⟩ := own_frz md.s md.n (md.y i a own) d1 d2 d3 ra
        have f1 : Same F (upd F a (.lst vs)) := fun b u hb => by
          rw [upd_ne (fun e => by rw [e, d1] at hb; cases hb)]; exact hb
        have σe : σ.set i (some (.ref a)) = σ := by
          apply List.ext_getElem?
          intro j
          by_cases e : i = j
          · subst e
            rw [List.getElem?_set_self (List.getElem?_eq_some_iff.mp g1).1, g1]
          · rw [List.getElem?_set_ne e]
        -- the other slots do not hold it
        have fr' : RelF X.K (upd F a (.lst vs)) R H σ (fr.set i (some (.val (.lst xs)))) := by
          refine ⟨by simp [md.f.len], fun j sv hj => ?_, fun j l b z1 z2 => ?_⟩
          · by_cases e : i = j
            · subst e
              rw [List.getElem?_set_self (List.getElem?_eq_some_iff.mp h1).1] at hj
              cases hj
              exact ⟨_, g1, q3⟩
            · rw [List.getElem?_set_ne e] at hj
              obtain ⟨v, p1, p2⟩ := md.f.sl j sv hj
              refine ⟨v, p1, ?_⟩
              cases sv with
              | val d => exact Rep.mono f1 (List.prefix_refl _) p2
              | olst ds =>
                obtain ⟨b, ws, rfl, c1, c2, c3, c4⟩ := p2
                have hne : b ≠ a := fun z => by
                  subst z
                  exact e (md.f.ap i j b own ⟨_, hj, rfl, p1⟩)
                exact ⟨b, ws, rfl, by rw [upd_ne hne]; exact c1, c2, c3, c4.mono f1 (List.prefix_refl _)⟩
              | odct => exact p2
          · rw [← σe] at z1 z2
            rcases ownAt_set z1 with ⟨_, o1, _⟩ | ⟨_, o1⟩
            · cases o1
            · rcases ownAt_set z2 with ⟨_, o2, _⟩ | ⟨_, o2⟩
              · cases o2
              · exact md.f.ap j l b o1 o2
        refine ⟨F0, R0, H0, upd F a (.lst vs), R, _, _, fl, S', ⟨q2, fr', q1, fun j b z => ?_⟩, he, k⟩
        rw [← σe] at z
        rcases ownAt_set z with ⟨_, o1, _⟩ | ⟨_, o1⟩
        · cases o1
        · exact md.y j b o1
/-! ### small statements -/
def noComp : Expr → Bool
  | .ListComp .. => false
  | .SetComp .. => false
  | .DictComp .. => false
  | _ => true
theorem no_swap {e : Expr} {t : Option Expr} {l : Nat} {env : Env} (h : noComp e = true) : swapsWith e t l env = pure false := by
  cases e <;> first | rfl | (simp [noComp] at h)
theorem snd_expr {e : Expr} {m : ME} {pos : Pos} (hc : noComp e = true) (h : PE X e (tE cl gl X.K m)) : PS X (.Expr e pos) (tSt cl gl fuel X.K (.expr m)) := by
  refine PS.imp (ps_expr h (no_swap hc)) fun D σ H h => ?_
  obtain ⟨F0, R0, H0, F, R, fr, S, fl, S', md, he, k⟩ := h
  simp only [ex] at he
  obtain ⟨d, S1, e1, he⟩ := bind_ok he
  cases he
  exact ⟨F, R, fr, S, d, _, md.s, md.f, e1, fun F1 R1 H1 v n1 rs1 rv => k F1 R1 H1 σ (md.step n1 rs1)⟩
theorem snd_ret {e : Expr} {m : ME} {pos : Pos} (h : PE X e (tE cl gl X.K m)) : PS X (.Return (some e) pos) (tSt cl gl fuel X.K (.ret m)) := by
  refine PS.imp (ps_ret h) fun D σ H h => ?_
  obtain ⟨F0, R0, H0, F, R, fr, S, fl, S', md, he, k⟩ := h
  simp only [ex] at he
  obtain ⟨d, S1, e1, he⟩ := bind_ok he
  cases he
  exact ⟨F, R, fr, S, d, _, md.s, md.f, e1, fun F1 R1 H1 v n1 rs1 rv => k F1 R1 H1 v (md.n.trans n1) rs1 rv⟩
theorem snd_retN {pos : Pos} : PS X (.Return none pos) (tSt cl gl fuel X.K .retN) := by
  refine PS.imp ps_retN fun D σ H h => ?_
  obtain ⟨F0, R0, H0, F, R, fr, S, fl, S', md, he, k⟩ := h
  simp only [ex] at he
  cases he
  exact k F R H .non md.n md.s .non
theorem snd_pass {pos : Pos} : PS X (.Pass pos) (tSt cl gl fuel X.K .pass) := by
  refine PS.imp ps_pass fun D σ H h => ?_
  obtain ⟨F0, R0, H0, F, R, fr, S, fl, S', md, he, k⟩ := h
  simp only [ex] at he
  cases he
  exact k F R H σ md
theorem snd_brk {pos : Pos} : PS X (.Break pos) (tSt cl gl fuel X.K .brk) := by
  refine PS.imp ps_break fun D σ H h => ?_
  obtain ⟨F0, R0, H0, F, R, fr, S, fl, S', md, he, k⟩ := h
  simp only [ex] at he
  cases he
  exact k F R H σ md
theorem snd_cont {pos : Pos} : PS X (.Continue pos) (tSt cl gl fuel X.K .cont) := by
  refine PS.imp ps_continue fun D σ H h => ?_
  obtain ⟨F0, R0, H0, F, R, fr, S, fl, S', md, he, k⟩ := h
  simp only [ex] at he
  cases he
  exact k F R H σ md
theorem snd_never {s : Stmt} : PS X s (tSt cl gl fuel X.K .never) := by
  refine PS.imp ps_never fun D σ H h => ?_
  obtain ⟨F0, R0, H0, F, R, fr, S, fl, S', md, he, k⟩ := h
  simp only [ex] at he
  cases he
theorem snd_if {c : Expr} {a b : List Stmt} {mc : MT} {ma mb : List MS} {pos : Pos} (hc : PT X c (tM cl gl X.K mc)) (ha : PSs X a (tSb cl gl fuel X.K ma)) (hb : PSs X b (tSb cl gl fuel X.K mb)) : PS X (.If c a b pos) (tSt cl gl fuel X.K (.ife mc ma mb)) := by
  refine PS.imp (ps_if hc ha hb) fun D σ H h => ?_
  obtain ⟨F0, R0, H0, F, R, fr, S, fl, S', md, he, k⟩ := h
  simp only [ex] at he
  obtain ⟨j, S1, e1, he⟩ := bind_ok he
  refine ⟨F, R, fr, S, j, S1, md.s, md.f, e1, fun F1 R1 H1 v n1 rs1 rv => ?_⟩
  subst rv
  cases v with
  | true =>
    rw [if_pos rfl] at he ⊢
    exact ⟨F0, R0, H0, F1, R1, fr, S1, fl, S', md.step n1 rs1, he, k⟩
  | false =>
    rw [if_neg Bool.false_ne_true] at he ⊢
    exact ⟨F0, R0, H0, F1, R1, fr, S1, fl, S', md.step n1 rs1, he, k⟩
/-! ### assignments -/
def tR (cl : Nat → List D → Sto → Out D) (gl : Nat → Option D) (K : PySem.W.Frag) (r : MR) : TE := fun σ H Q => ∃ F R fr S sv S', RelS K F R H S ∧ RelF K F R H σ fr ∧ evR cl gl fr r S = .ok sv S' ∧
  ∀ F' R' H' v, Nxt F R H F' R' H' → RelS K F' R' H' S' → NewSl K H F' R' H' v sv → Q v H'
theorem snd_rval {e : Expr} {m : ME} (h : PE X e (tE cl gl X.K m)) : PE X e (tR cl gl X.K (.val m)) := by
  refine PE.imp h fun σ H Q h => ?_
  obtain ⟨F, R, fr, S, sv, S', rs, rf, he, k⟩ := h
  simp only [evR] at he
  obtain ⟨d, S1, e1, he⟩ := bind_ok he
  cases he
  exact ⟨F, R, fr, S, d, _, rs, rf, e1, fun F1 R1 H1 v n1 rs1 rv => k F1 R1 H1 v n1 rs1 rv⟩
theorem snd_rlst {es : List Expr} {ms : List ME} {pos : Pos} (hl : ms.length ≤ 1000) (h : PA X es (tEs cl gl X.K ms)) : PE X (.List es pos) (tR cl gl X.K (.lst ms)) := by
  refine PE.imp (pe_lst h) fun σ H Q h => ?_
  obtain ⟨F, R, fr, S, sv, S', rs, rf, he, k⟩ := h
  simp only [evR] at he
  obtain ⟨xs, S1, e1, he⟩ := bind_ok he
  cases he
  refine ⟨F, R, fr, S, xs, _, rs, rf, e1, fun F1 R1 H1 vs n1 rs1 rv => ⟨?_, fun p hp => ?_⟩⟩
  · have h1 := rv.length
    have h2 := evs_len e1
    rw [sizeLine_eq]
    omega
  · have hR : p ∉ R1 := fun hm => by
      obtain ⟨o, ho⟩ := rs1.tr p hm
      rw [hp] at ho; cases ho
    have hF : F1 p = none := rs1.fh.free hp
    exact k F1 R1 _ _ (n1.trans (Nxt.lay hp)) (rs1.lay hF hR) ⟨p, vs, rfl, n1.back rs1 hp, hF, hR, upd_same, rv⟩
theorem snd_set {i : Nat} {x : Str} {e : Expr} {r : MR} {p' pos : Pos} (c : Cxt nm P cl gl X) (hi : X.N[i]? = some x) (hx : Loc X.env.scope x) (hf : X.fn x = true ∨ X.env.scope.names.lookup x = some .local) (hc : swapsWith e (some (.Name x p')) pos.line X.env = pure false) (he : PE X e (tR cl gl X.K r)) : PS X (.Assign [.Name x p'] e pos) (tSt cl gl fuel X.K (.set i r)) := by
  refine PS.imp (ps_set c.nd hi hx he hc hf) fun D σ H h => ?_
  obtain ⟨F0, R0, H0, F, R, fr, S, fl, S', md, he, k⟩ := h
  simp only [ex] at he
  obtain ⟨sv, S1, e1, he⟩ := bind_ok he
  cases he
  exact ⟨F, R, fr, S, sv, _, md.s, md.f, e1, fun F1 R1 H1 v n1 rs1 rv => k F1 R1 H1 _ (md.setN n1 rs1 rv)⟩
end
end Mn
/-! statements: several targets, loops -/
namespace Mn
open PySem PySem.Spec PyProof.Rows L2 RZ
/-- are the stores of a written tuple to written targets turned round? (none: not told) -/
def swNames (ts : List Expr) (kf : Str → Option NameKind) : List Str :=
  ts.filterMap fun
    | .Name id pos => if kf id == some .local && pos.line == (ts.head?.map (·.pos.line)).getD 0 then some id else none
    | _ => none
def swP (ts vs : List Expr) (kf : Str → Option NameKind) : Option (Option (List Str)) :=
  if !(ts.length == 2 || ts.length == 3) || vs.length != ts.length then some none
  else if vs.any (fun | .Starred .. => true | _ => false) then some none
  else if (swNames ts kf).length != ts.length || (swNames ts kf).eraseDups.length != (swNames ts kf).length then some none
  else if vs.all (foldedForSure 8) then some none
  else if vs.all (constantsAlone 8) then none
  else some (some (swNames ts kf))
theorem swP_ok {ts vs : List Expr} {k1 k2 : Nat} {p1 p2 : Pos} {env : Env} {r : Option (List Str)} (hk : env.scope.kind = .function) (h : swP ts vs env.kindOf = some r) : swappedStores [.Tuple ts k1 p1] (.Tuple vs k2 p2) env = pure r := by
  have hb : env.blockKind = .function := by unfold Env.blockKind; rw [hk]; rfl
  unfold swP at h
  unfold swappedStores
  simp only [hb]
  simp only [bne_self_eq_false, Bool.or_false]
  split at h
  · rename_i c; cases h; exact if_pos c
  · rename_i c1
    refine (if_neg c1).trans ?_
    split at h
    · rename_i c; cases h; exact if_pos c
    · rename_i c2
      refine (if_neg c2).trans ?_
      split at h
      · rename_i c; cases h; exact if_pos c
      · rename_i c3
        refine (if_neg c3).trans ?_
        split at h
        · rename_i c; cases h; exact if_pos c
        · rename_i c4
          refine (if_neg c4).trans ?_
          split at h
          · cases h
          · rename_i c5
            cases h
            exact if_neg c5
section
variable {nm : Nat → Str} {P : List (Nat × MF)} {cl : Nat → List D → Sto → Out D} {gl : Nat → Option D} {fuel : Nat} {X : Cx}
/-- a general assignment: the value is no comprehension that is stored from within -/
theorem snd_asg {tg e : Expr} {g : MG} {m : ME} {pos : Pos} (he : PE X e (tE cl gl X.K m)) (hg : PG X tg (tG cl gl X.K g)) (hs : swapsWithSole [tg] e pos.line X.env = pure false) (hw : swappedStores [tg] e X.env = pure none) (h1 : noStar tg = true) :
    PS X (.Assign [tg] e pos) (tSt cl gl fuel X.K (.asg g m)) := by
  refine PS.imp (ps_asg he hg hs hw (by rw [assign_cons h1]; rfl)) fun D σ H h => ?_
  obtain ⟨F0, R0, H0, F, R, fr, S, fl, S', md, he, k⟩ := h
  simp only [ex] at he
  obtain ⟨d, S1, e1, he⟩ := bind_ok he
  obtain ⟨fr2, S2, e2, he⟩ := bind_ok he
  cases he
  refine ⟨F, R, fr, S, d, S1, md.s, md.f, e1, fun F1 R1 H1 v n1 rs1 rv => ?_⟩
  have m1 := md.step n1 rs1
  exact ⟨F1, R1, fr, S1, d, fr2, _, rs1, m1.f, rv, e2, fun F2 R2 σ2 H2 n2 rs2 rf2 _ _ w2 => k F2 R2 H2 σ2 ⟨rs2, rf2, m1.n.trans n2, fun j a z => m1.y j a (w2 j a z)⟩⟩
/-- y = [.. for ..] on one line -/
theorem snd_setLc {i : Nat} {y : Str} {py : Pos} {elt tg iter : Expr} {ifs : List Expr} {scope : Scope} {own : List (Str × Nat)} {pos spos : Pos} {g : MG} {src : MI} {tt : List MT} {e : ME} {o : Bool} (c : Cxt nm P cl gl X) (hy : X.N[i]? = some y) (hyl : X.env.scope.names.lookup y = some .local) {sw : Bool}
    (hsw : swapsWith (.ListComp elt [⟨tg, iter, ifs, 0⟩] scope pos) (some (.Name y py)) spos.line X.env = pure sw) (hi : PI X tg iter (tW cl gl X.K src)) (ok : BlkOk X.N X.env.scope scope own)
    (hg : ∀ (s : Shared) (H : Hp) (C : Addr) (cl' : List (Str × Addr)) (fp : List Addr), PG (X.blk s H scope (compEnvC scope cl' C X.env) fp) tg (tG cl gl X.K g)) (ht : ∀ (s : Shared) (H : Hp) (C : Addr) (cl' : List (Str × Addr)) (fp : List Addr), PTs (X.blk s H scope (compEnvC scope cl' C X.env) fp) ifs (tMs cl gl X.K tt))
    (he : ∀ (s : Shared) (H : Hp) (C : Addr) (cl' : List (Str × Addr)) (fp : List Addr), PE (X.blk s H scope (compEnvC scope cl' C X.env) fp) elt (tE cl gl X.K e)) (hs : noSet iter = true) (hsub : ∀ j ∈ gSl g, j ∈ own.map (·.2)) :
    PS X (.Assign [.Name y py] (.ListComp elt [⟨tg, iter, ifs, 0⟩] scope pos) spos) (tSt cl gl fuel X.K (.setLc i o (.lc (own.map (·.2)) g src tt e))) := by
  have ps : PS X (.Assign [.Name y py] (.ListComp elt [⟨tg, iter, ifs, 0⟩] scope pos) spos) (tAsg (tLc (tW cl gl X.K src) (tG cl gl X.K g) (tMs cl gl X.K tt) (tE cl gl X.K e) (own.map (·.2))) (gName i)) := by
    cases sw with
    | true => exact ps_setLc c.b.calm c.nd hy hyl hsw hi ok hg ht he (fun x => no_fold hs x)
    | false => exact ps_set c.nd hy (.inl hyl) (pe_lc c.b.calm c.nd hi ok hg ht he (fun x => no_fold hs x)) hsw (.inr hyl)
  refine PS.imp ps fun D σ H h => ?_
  obtain ⟨F0, R0, H0, F, R, fr, S, fl, S', md, he, k⟩ := h
  simp only [ex, ev] at he
  obtain ⟨d, S1, e1, he⟩ := bind_ok he
  obtain ⟨xs, S2, e2, e1⟩ := bind_ok e1
  obtain ⟨acc, S3, e3, e1⟩ := bind_ok e1
  cases e1
  refine lc_own hsub σ H _ ⟨F, R, fr, S, xs, S2, acc, _, md.s, md.f, e2, e3, fun F1 R1 H1 Dl vs n1 r1 h0 d1 d2 d3 ra => ?_⟩
  cases o with
  | false =>
    cases he
    obtain ⟨q1, q2, q3⟩ := own_frz r1 n1 h0 d1 d2 d3 ra
    exact k _ R1 H1 _ (md.setN q1 q2 q3)
  | true =>
    cases he
    exact k F1 R1 H1 _ (md.setN n1 r1 ⟨Dl, vs, rfl, h0, d1, d2, d3, ra⟩)
theorem snd_aug {i : Nat} {x : Str} {e : Expr} {op : Operator} {m : ME} {p' pos : Pos} (c : Cxt nm P cl gl X) (hi : X.N[i]? = some x) (hx : Loc X.env.scope x) (hfn : X.fn x = true ∨ X.env.scope.names.lookup x = some .local) (hop : op = .Add ∨ op = .Sub) (he : PE X e (tE cl gl X.K m)) : PS X (.AugAssign (.Name x p') op e pos) (tSt cl gl fuel X.K (.aug i op m)) := by
  have go : ∀ f : Int → Int → Int, PIp X op (ipI f) → (∀ x y d, augD op x y = some d → ∃ i j, x = .int i ∧ y = .int j ∧ d = .int (f i j)) → PS X (.AugAssign (.Name x p') op e pos) (tSt cl gl fuel X.K (.aug i op m)) := fun f hp hf => by
    refine PS.imp (ps_aug c.nd hi hx he hp hfn) fun D σ H h => ?_
    obtain ⟨F0, R0, H0, F, R, fr, S, fl, S', md, he, k⟩ := h
    simp only [ex] at he
    cases hfr : fr[i]? with
    | none => rw [hfr] at he; cases he
    | some o =>
      rw [hfr] at he
      cases o with
      | none => cases he
      | some sv =>
        cases sv with
        | val dx =>
          obtain ⟨y, S1, e1, he⟩ := bind_ok he
          obtain ⟨d, S2, e2, hl⟩ := bind_ok he
          obtain ⟨e3, rfl⟩ := opt_ok e2
          cases hl
          obtain ⟨a, b, rfl, rfl, rfl⟩ := hf _ _ _ e3
          obtain ⟨v, g1, g2⟩ := md.f.sl i _ hfr
          have g3 : Rep X.K F R v (.int a) := g2
          cases g3
          refine ⟨_, g1, F, R, fr, S, _, _, md.s, md.f, e1, fun F1 R1 H1 w n1 rs1 rw' => ?_⟩
          cases rw'
          exact ⟨a, b, rfl, rfl, k F1 R1 H1 _ (md.setN n1 rs1 (Rep.int _))⟩
        | olst => cases he
        | odct => cases he
  rcases hop with rfl | rfl
  · exact go _ ip_add fun x y d h => by
      cases x <;> cases y <;> simp only [augD, reduceCtorEq, Option.some.injEq] at h
      exact ⟨_, _, rfl, rfl, h.symm⟩
  · exact go _ ip_sub fun x y d h => by
      cases x <;> cases y <;> simp only [augD, reduceCtorEq, Option.some.injEq] at h
      exact ⟨_, _, rfl, rfl, h.symm⟩
theorem snd_append {i : Nat} {x : Str} {e : Expr} {m : ME} {px apos cpos pos : Pos} (hi : X.N[i]? = some x) (hv : Vis X.env.scope x) (hd : (x == ("__debug__" : Str)) = false) (hcd : (x == ("__classdict__" : Str)) = false) (hs : noStar e = true) (hl : (apos.endLine == cpos.line) = true) (he : PE X e (tE cl gl X.K m)) :
    PS X (.Expr (.Call (.Attribute (.Name x px) "append" apos) [e] [] cpos) pos) (tSt cl gl fuel X.K (.append i m)) := by
  have hst : starEach [e] X.env = [(false, eval e X.env)] := star_cons hs
  have hp : (backTo cpos (starEach ([] : List Expr) X.env)).any (·.1) = false := rfl
  refine PS.imp (ps_expr (pe_bm PySem.F.plainAttrs_list PySem.F.slot_list_append PySem.F.type_list_append mt_append (pe_var hi hv hd hcd) (pa_cons he pa_nil hst) (hfew := by rw [hst]; rfl) (hline := hl) (hs := star_cons hs)) (by rfl)) fun D σ H h => ?_
  obtain ⟨F0, R0, H0, F, R, fr, S, fl, S', md, he, k⟩ := h
  simp only [ex] at he
  obtain ⟨d, S1, e1, he⟩ := bind_ok he
  cases hfr : fr[i]? with
  | none => rw [hfr] at he; cases he
  | some o =>
    rw [hfr] at he
    cases o with
    | none => cases he
    | some sv =>
      cases sv with
      | val dx => cases he
      | odct => cases he
      | olst xs =>
        have he : (if xs.length < sizeLine then Out.ok (Fl.next (fr.set i (some (.olst (xs ++ [d]))))) S1 else .bad) = Out.ok fl S' := he
        by_cases hlt : xs.length < sizeLine
        · rw [if_pos hlt] at he
          cases he
          obtain ⟨v, g1, a, vs, rfl, d1, d2, d3, ra⟩ := md.f.sl i _ hfr
          have own : OwnAt σ fr i a := ⟨_, hfr, rfl, g1⟩
          refine ⟨_, g1, .inl ⟨rfl, vs, SqL.of d3⟩, F, R, fr, S, d, _, md.s, md.f, e1, fun F1 R1 H1 w n1 rs1 rv => ?_⟩
          have m1 := md.step n1 rs1
          obtain ⟨d1, d2, d3⟩ := own_nxt n1 d1 d2 d3
          have ra1 := ra.mono n1.f n1.r
          refine ⟨a, vs, w, rfl, rfl, d3, by rw [ra1.length]; exact hlt, ?_⟩
          have h0 := md.y i a own
          have σe : σ.set i (some (.ref a)) = σ := by
            apply List.ext_getElem?
            intro j
            by_cases e : i = j
            · subst e
              rw [List.getElem?_set_self (List.getElem?_eq_some_iff.mp g1).1, g1]
            · rw [List.getElem?_set_ne e]
          refine k F1 R1 _ σ ⟨rs1.lay d1 d2, ⟨by simp [m1.f.len], fun j sv hj => ?_, fun j l b z1 z2 => ?_⟩, ⟨m1.n.f, m1.n.r, m1.n.new, fun b o hb hR => ?_, m1.n.newR⟩, fun j b z => ?_⟩
          · by_cases e : i = j
            · subst e
              rw [List.getElem?_set_self (List.getElem?_eq_some_iff.mp hfr).1] at hj
              cases hj
              exact ⟨_, g1, a, _, rfl, d1, d2, upd_same, ra1.append (.cons rv .nil)⟩
            · rw [List.getElem?_set_ne e] at hj
              obtain ⟨u, p1, p2⟩ := m1.f.sl j sv hj
              refine ⟨u, p1, ?_⟩
              cases sv with
              | val => exact p2
              | odct => exact p2
              | olst ds =>
                obtain ⟨b, us, rfl, c1, c2, c3, c4⟩ := p2
                have hne : b ≠ a := fun z => by
                  subst z
                  exact e (md.f.ap i j b own ⟨_, hj, rfl, p1⟩)
                exact ⟨b, us, rfl, c1, c2, by rw [upd_ne hne]; exact c3, c4⟩
          · rw [← σe] at z1 z2
            have old : ∀ l b, OwnAt (σ.set i (some (.ref a))) (fr.set i (some (.olst (xs ++ [d])))) l b → OwnAt σ fr l b := fun l b z => by
              rcases ownAt_set z with ⟨rfl, _, e3⟩ | ⟨_, o1⟩
              · cases e3; exact own
              · exact o1
            exact md.f.ap j l b (old j b z1) (old l b z2)
          · rw [upd_ne (fun e => by rw [e, h0] at hb; cases hb)]
            exact m1.n.tr b o hb hR
          · rw [← σe] at z
            rcases ownAt_set z with ⟨rfl, _, e3⟩ | ⟨_, o1⟩
            · cases e3; exact h0
            · exact md.y j b o1
        · rw [if_neg hlt] at he
          cases he
/-! ### loops -/
theorem Nxt.fin {F0 H0 F H : Hp} {R0 R : List Addr} (n : Nxt F0 R0 H0 F R H) : Nxt F R H0 F R H :=
  ⟨Same.refl _, List.prefix_refl _, fun _ _ h => .inl h, fun a o h hR => n.tr a o h fun h0 => hR (n.r.subset h0), fun _ h => .inl h⟩
theorem Nxt.join {F0 H0 F3 H3 F4 H4 : Hp} {R0 R3 R4 : List Addr} (n : Nxt F0 R0 H0 F3 R3 H3) (m : Nxt F3 R3 H0 F4 R4 H4) : Nxt F0 R0 H0 F4 R4 H4 := by
  refine ⟨n.f.trans m.f, n.r.trans m.r, fun a o h => ?_, fun a o h hR => ?_, fun a h => ?_⟩
  · rcases m.new a o h with q | q | q
    · exact n.new a o q
    · exact .inr (.inl q)
    · rcases n.newR a q with q | q
      · exact .inr (.inr q)
      · exact .inr (.inl q)
  · by_cases h3 : a ∈ R3
    · rcases n.newR a h3 with q | q
      · exact (hR q).elim
      · rw [q] at h; cases h
    · exact m.tr a o h h3
  · rcases m.newR a h with q | q
    · exact n.newR a q
    · exact .inr q
theorem snd_while {t : Expr} {body : List Stmt} {mt : MT} {mb : List MS} {pos : Pos} (c : Cxt nm P cl gl X) (ht : PT X t (tM cl gl X.K mt)) (hb : PSs X body (tSb cl gl fuel X.K mb)) : PS X (.While t body [] pos) (tSt cl gl fuel X.K (.whil mt mb)) := by
  refine PS.imp (ps_while c.px ht hb) fun D σ H h => ?_
  obtain ⟨F0, R0, H0, F, R, fr, S, fl, S', md, he, k⟩ := h
  simp only [ex] at he
  refine ⟨fun n σ H => ∃ F R fr S, Mid X.K F0 R0 H0 F R H σ fr S ∧ whileO (fun fr S => evT cl gl fr mt S) (exs cl gl fuel mb) n fr S = .ok fl S', ⟨fuel, F, R, fr, S, md, he⟩, ?_⟩
  rintro n σ1 H1 ⟨F1, R1, fr1, S1, m1, he1⟩
  cases n with
  | zero => simp [whileO] at he1
  | succ n =>
    simp only [whileO] at he1
    obtain ⟨b, S2, e1, he1⟩ := bind_ok he1
    refine ⟨F1, R1, fr1, S1, b, S2, m1.s, m1.f, e1, fun F2 R2 H2 v n2 rs2 rv => ?_⟩
    subst rv
    cases v with
    | false =>
      rw [if_neg Bool.false_ne_true] at he1 ⊢
      cases he1
      exact k F2 R2 H2 σ1 (m1.step n2 rs2)
    | true =>
      rw [if_pos rfl] at he1 ⊢
      obtain ⟨f, S3, e2, he1⟩ := bind_ok he1
      refine ⟨fun σ' H' => ∃ F R fr S, Mid X.K F0 R0 H0 F R H' σ' fr S ∧ whileO (fun fr S => evT cl gl fr mt S) (exs cl gl fuel mb) n fr S = .ok fl S', fun σ' H' q => ⟨n, Nat.lt_succ_self n, q⟩, F0, R0, H0, F2, R2, fr1, S2, f, S3, m1.step n2 rs2, e2, ?_⟩
      cases f with
      | next fr2 => exact fun F3 R3 H3 σ3 m3 => ⟨F3, R3, fr2, S3, m3, he1⟩
      | cont fr2 => exact fun F3 R3 H3 σ3 m3 => ⟨F3, R3, fr2, S3, m3, he1⟩
      | brk fr2 => cases he1; exact k
      | ret d => cases he1; exact k
theorem snd_for {tg iter : Expr} {body : List Stmt} {g : MG} {src : MI} {mb : List MS} {pos : Pos} (c : Cxt nm P cl gl X) (hi : PI X tg iter (tW cl gl X.K src)) (hg : PG X tg (tG cl gl X.K g)) (hb : PSs X body (tSb cl gl fuel X.K mb)) (hs : noSet iter = true) : PS X (.For tg iter body [] pos) (tSt cl gl fuel X.K (.forr g src mb)) := by
  refine PS.imp (ps_for c.px c.b.calm hi hg hb (fun x => no_fold hs x)) fun D σ H h => ?_
  obtain ⟨F0, R0, H0, F, R, fr, S, fl, S', md, he, k⟩ := h
  simp only [ex] at he
  obtain ⟨xs, S1, e1, he⟩ := bind_ok he
  refine ⟨F, R, fr, S, xs, S1, md.s, md.f, e1, fun F1 R1 H1 J n1 rs1 wd => ?_⟩
  obtain ⟨G, Y, w, wG, wY⟩ := wd
  refine for_it w (fun i σ' H' => ∃ F' R' fr' Sx, Mid X.K F0 R0 H0 F' R' H' σ' fr' Sx ∧ Same F1 F' ∧ R1 <+: R' ∧ forO (asg cl gl g) (exs cl gl fuel mb) (xs.drop i) fr' Sx = .ok fl S')
    ⟨F1, R1, fr, S1, md.step n1 rs1, Same.refl _, List.prefix_refl _, he⟩ ?_ ?_ ?_
  · rintro i σ' H' _ ⟨F', R', fr', Sx, m, f1, p1, _⟩
    exact wG F' H' f1 m.s.fh
  · rintro i x σ' H' H'' hi' ⟨F', R', fr', Sx, m, f1, p1, ef⟩ y
    obtain ⟨F2, dx, hx, nw, rx⟩ := wY F' R' H' i x H'' f1 p1 m.s.fh hi' y
    have edrop : xs.drop i = dx :: xs.drop (i + 1) := by
      rw [List.drop_eq_getElem_cons hi']
      congr 1
      rw [List.getElem?_eq_getElem hi'] at hx
      exact Option.some.inj hx
    rw [edrop] at ef
    simp only [forO] at ef
    obtain ⟨fr2, S2, a1, ef⟩ := bind_ok ef
    obtain ⟨f, S3, a2, ef⟩ := bind_ok ef
    have m2 := m.step nw.1 (nw.2 _ m.s)
    refine ⟨F2, R', fr', Sx, dx, fr2, S2, m2.s, m2.f, rx, a1, fun F3 R3 σ3 H3 n3 r3 f3 _ _ w3 => ?_⟩
    have m3 : Mid X.K F0 R0 H0 F3 R3 H3 σ3 fr2 S2 := ⟨r3, f3, m2.n.trans n3, fun j a z => m2.y j a (w3 j a z)⟩
    have f3' : Same F1 F3 := (f1.trans nw.1.f).trans n3.f
    have p3 : R1 <+: R3 := (p1.trans nw.1.r).trans n3.r
    have nj : ∀ {F4 : Hp} {R4 : List Addr} {H4 : Hp}, Nxt F3 R3 H0 F4 R4 H4 → Nxt F0 R0 H0 F4 R4 H4 := fun n => m3.n.join n
    have mj : ∀ {F4 : Hp} {R4 : List Addr} {H4 : Hp} {σ4 : Stt} {fr4 : Frm} {S4 : Sto}, Mid X.K F3 R3 H0 F4 R4 H4 σ4 fr4 S4 → Mid X.K F0 R0 H0 F4 R4 H4 σ4 fr4 S4 := fun q => ⟨q.s, q.f, nj q.n, q.y⟩
    have m4 : Mid X.K F3 R3 H0 F3 R3 H3 σ3 fr2 S2 := ⟨r3, f3, m3.n.fin, m3.y⟩
    refine ⟨F3, R3, H0, F3, R3, fr2, S2, f, S3, m4, a2, ?_⟩
    cases f with
    | next fr4 => exact fun F4 R4 H4 σ4 q => ⟨F4, R4, fr4, S3, mj q, f3'.trans q.n.f, p3.trans q.n.r, ef⟩
    | cont fr4 => exact fun F4 R4 H4 σ4 q => ⟨F4, R4, fr4, S3, mj q, f3'.trans q.n.f, p3.trans q.n.r, ef⟩
    | brk fr4 => cases ef; exact fun F4 R4 H4 σ4 q => k F4 R4 H4 σ4 (mj q)
    | ret d => cases ef; exact fun F4 R4 H4 v n4 => k F4 R4 H4 v (nj n4)
  · rintro σ' H' ⟨F', R', fr', Sx, m, f1, p1, ef⟩
    rw [List.drop_length] at ef
    simp only [forO] at ef
    cases ef
    exact k F' R' H' σ' m
/-! ### several names at once -/
def OwnIn (vs : List V) (svs : List SV) (a : Addr) : Prop := ∃ (j : Nat) (sv : SV), svs[j]? = some sv ∧ sv.own = true ∧ vs[j]? = some (.ref a)
inductive NewAll (K : PySem.W.Frag) (Hb F : Hp) (R : List Addr) (H : Hp) : List V → List SV → Prop
  | nil : NewAll K Hb F R H [] []
  | cons {v : V} {sv : SV} {vs : List V} {svs : List SV} : NewSl K Hb F R H v sv → NewAll K Hb F R H vs svs → (∀ a, sv.own = true → v = .ref a → ¬ OwnIn vs svs a) → NewAll K Hb F R H (v :: vs) (sv :: svs)
theorem NewSl.base {K : PySem.W.Frag} {Hb Hc F H : Hp} {R : List Addr} {v : V} {sv : SV} (h : NewSl K Hb F R H v sv) (b : ∀ a, Hb a = none → Hc a = none) : NewSl K Hc F R H v sv := by
  cases sv with
  | val d => exact h
  | olst ds => obtain ⟨a, xs, e, h0, r⟩ := h; exact ⟨a, xs, e, b a h0, r⟩
  | odct _ => exact h
theorem NewAll.base {K : PySem.W.Frag} {Hb Hc F H : Hp} {R : List Addr} {vs : List V} {svs : List SV} (h : NewAll K Hb F R H vs svs) (b : ∀ a, Hb a = none → Hc a = none) : NewAll K Hc F R H vs svs := by
  induction h with
  | nil => exact .nil
  | cons h _ d ih => exact .cons (h.base b) ih d
theorem NewAll.isNew {K : PySem.W.Frag} {Hb F H : Hp} {R : List Addr} {vs : List V} {svs : List SV} (h : NewAll K Hb F R H vs svs) {a : Addr} (o : OwnIn vs svs a) : Hb a = none := by
  induction h with
  | nil => obtain ⟨j, sv, h1, _⟩ := o; simp at h1
  | cons h _ d ih =>
    obtain ⟨j, sv, h1, h2, h3⟩ := o
    cases j with
    | zero => cases h1; cases h3; exact h.new h2 rfl
    | succ j => exact ih ⟨j, sv, h1, h2, h3⟩
def tRs (cl : Nat → List D → Sto → Out D) (gl : Nat → Option D) (K : PySem.W.Frag) (r : List MR) : TA := fun σ H Q => ∃ F R fr S svs S', RelS K F R H S ∧ RelF K F R H σ fr ∧ evRs cl gl fr r S = .ok svs S' ∧
  ∀ F' R' H' vs, Nxt F R H F' R' H' → RelS K F' R' H' S' → NewAll K H F' R' H' vs svs → Q vs H'
theorem evRs_len {fr : Frm} : ∀ {ms : List MR} {S S' : Sto} {xs : List SV}, evRs cl gl fr ms S = .ok xs S' → xs.length = ms.length
  | [], S, S', xs, h => by simp only [evRs] at h; cases h; rfl
  | m :: ms, S, S', xs, h => by
    simp only [evRs] at h
    obtain ⟨x, S1, e1, h⟩ := bind_ok h
    obtain ⟨ys, S2, e2, h⟩ := bind_ok h
    cases h
    simp [evRs_len e2]
theorem snd_rnil : PA X [] (tRs cl gl X.K []) := by
  refine PA.imp pa_nil fun σ H Q h => ?_
  obtain ⟨F, R, fr, S, d, S', rs, rf, he, k⟩ := h
  simp only [evRs] at he
  cases he
  exact k F R H _ .refl rs .nil
theorem snd_rcons {e : Expr} {es : List Expr} {m : MR} {ms : List MR} (hs : noStar e = true) (h : PE X e (tR cl gl X.K m)) (t : PA X es (tRs cl gl X.K ms)) : PA X (e :: es) (tRs cl gl X.K (m :: ms)) := by
  refine PA.imp (pa_cons h t (star_cons hs)) fun σ H Q h => ?_
  obtain ⟨F, R, fr, S, d, S', rs, rf, he, k⟩ := h
  simp only [evRs] at he
  obtain ⟨x, S1, e1, he⟩ := bind_ok he
  obtain ⟨xs, S2, e2, he⟩ := bind_ok he
  cases he
  refine ⟨F, R, fr, S, x, S1, rs, rf, e1, fun F1 R1 H1 v n1 rs1 rv => ⟨F1, R1, fr, S1, xs, _, rs1, rf.nxt n1, e2, fun F2 R2 H2 ws n2 rs2 rw' => k F2 R2 H2 _ (n1.trans n2) rs2 (.cons (rv.nxt n2) (rw'.base fun a h => n1.back rs1 h) fun a (ho : x.own = true) (e2 : v = .ref a) hi => ?_)⟩⟩
  have h1 := rw'.isNew hi
  cases x with
  | val => cases ho
  | olst ds =>
    obtain ⟨b, us, e3, _, _, _, h3, _⟩ := rv
    rw [e2] at e3; cases e3
    rw [h1] at h3; cases h3
  | odct => exact rv.elim
theorem Mid.setG {K : PySem.W.Frag} {F0 H0 F H : Hp} {R0 R : List Addr} {σ : Stt} {fr : Frm} {S : Sto} {i : Nat} {v : V} {sv : SV} (m : Mid K F0 R0 H0 F R H σ fr S) (h : SlotAt K F R H v sv) (ha : ∀ a, sv.own = true → v = .ref a → H0 a = none ∧ ∀ j, ¬ OwnAt σ fr j a) :
    Mid K F0 R0 H0 F R H (σ.set i (some v)) (fr.set i (some sv)) S := by
  refine ⟨m.s, m.f.setN h fun a ho e j hj => (ha a ho e).2 j hj, m.n, fun j a hj => ?_⟩
  rcases ownAt_set hj with ⟨rfl, o1, e1⟩ | ⟨_, o1⟩
  · exact (ha a o1 e1).1
  · exact m.y j a o1
theorem not_own {σ : Stt} {fr : Frm} {K : PySem.W.Frag} {Hb : Hp} {Fb : Hp} {Rb : List Addr} (f : RelF K Fb Rb Hb σ fr) {a : Addr} (h : Hb a = none) (j : Nat) : ¬ OwnAt σ fr j a := fun hj => by
  obtain ⟨o, ho, _⟩ := OwnAt.in f hj
  rw [h] at ho; cases ho
theorem snd_par2 {i j : Nat} {x y : Str} {a b : Expr} {px py pt pos : Pos} {kt k2 pt2} {rs : List MR} (c : Cxt nm P cl gl X) (hi : X.N[i]? = some x) (hj : X.N[j]? = some y) (hij : i ≠ j) (hx : X.env.scope.names.lookup x = some .local) (hy : X.env.scope.names.lookup y = some .local)
    (hw : swappedStores [.Tuple [.Name x px, .Name y py] kt pt] (.Tuple [a, b] k2 pt2) X.env = pure (some [x, y])) (hr : rs.length = 2) (ha : PA X [a, b] (tRs cl gl X.K rs)) :
    PS X (.Assign [.Tuple [.Name x px, .Name y py] kt pt] (.Tuple [a, b] k2 pt2) pos) (tSt cl gl fuel X.K (.par [i, j] rs)) := by
  refine PS.imp (ps_par c.b.calm c.nd hi hj hij hx hy ha hw) fun D σ H h => ?_
  obtain ⟨F0, R0, H0, F, R, fr, S, fl, S', md, he, k⟩ := h
  simp only [ex] at he
  obtain ⟨svs, S1, e1, he⟩ := bind_ok he
  cases he
  refine ⟨F, R, fr, S, svs, _, md.s, md.f, e1, fun F1 R1 H1 vs n1 rs1 rv => ?_⟩
  have hl := (evRs_len e1).trans hr
  cases rv with
  | nil => simp at hl
  | @cons v1 s1 vs svs h1 rv d1 =>
    cases rv with
    | nil => simp at hl
    | @cons v2 s2 vs svs h2 rv d2 =>
      cases rv with
      | cons => simp at hl
      | nil =>
        refine ⟨v1, v2, rfl, ?_⟩
        have nb : ∀ a, H a = none → H0 a = none := fun a h => md.n.back md.s h
        have m1 := (md.step n1 rs1).setG (i := i) h1.slot fun a o e => ⟨nb a (h1.new o e), not_own md.f (h1.new o e)⟩
        refine k F1 R1 H1 _ (m1.setG (i := j) h2.slot fun a o e => ⟨nb a (h2.new o e), fun l hl => ?_⟩)
        rcases ownAt_set hl with ⟨rfl, o1, e1⟩ | ⟨_, o1⟩
        · exact d1 a o1 e1 ⟨0, _, rfl, o, by rw [e]; rfl⟩
        · exact not_own md.f (h2.new o e) l o1
theorem snd_par3 {i j l : Nat} {x y z : Str} {a b e : Expr} {px py pz pt pos : Pos} {kt k2 pt2} {rs : List MR} (c : Cxt nm P cl gl X) (hi : X.N[i]? = some x) (hj : X.N[j]? = some y) (hl : X.N[l]? = some z) (hij : i ≠ j) (hil : i ≠ l) (hjl : j ≠ l) (hx : X.env.scope.names.lookup x = some .local) (hy : X.env.scope.names.lookup y = some .local) (hz : X.env.scope.names.lookup z = some .local)
    (hw : swappedStores [.Tuple [.Name x px, .Name y py, .Name z pz] kt pt] (.Tuple [a, b, e] k2 pt2) X.env = pure (some [x, y, z])) (hr : rs.length = 3) (ha : PA X [a, b, e] (tRs cl gl X.K rs)) :
    PS X (.Assign [.Tuple [.Name x px, .Name y py, .Name z pz] kt pt] (.Tuple [a, b, e] k2 pt2) pos) (tSt cl gl fuel X.K (.par [i, j, l] rs)) := by
  refine PS.imp (ps_par3 c.b.calm c.nd hi hj hl hij hil hjl hx hy hz ha hw) fun D σ H h => ?_
  obtain ⟨F0, R0, H0, F, R, fr, S, fl, S', md, he, k⟩ := h
  simp only [ex] at he
  obtain ⟨svs, S1, e1, he⟩ := bind_ok he
  cases he
  refine ⟨F, R, fr, S, svs, _, md.s, md.f, e1, fun F1 R1 H1 vs n1 rs1 rv => ?_⟩
  have hl := (evRs_len e1).trans hr
  cases rv with
  | nil => simp at hl
  | @cons v1 s1 vs svs h1 rv d1 =>
    cases rv with
    | nil => simp at hl
    | @cons v2 s2 vs svs h2 rv d2 =>
      cases rv with
      | nil => simp at hl
      | @cons v3 s3 vs svs h3 rv d3 =>
        cases rv with
        | cons => simp at hl
        | nil =>
          refine ⟨v1, v2, v3, rfl, ?_⟩
          have nb : ∀ a, H a = none → H0 a = none := fun a h => md.n.back md.s h
          have m1 := (md.step n1 rs1).setG (i := i) h1.slot fun a o e => ⟨nb a (h1.new o e), not_own md.f (h1.new o e)⟩
          have o1 : ∀ {a : Addr} {u : V} {w : SV} (l : Nat), u = .ref a → H a = none → (s1.own = true → v1 = .ref a → False) → ¬ OwnAt (σ.set i (some v1)) (fr.set i (some s1)) l a := fun l _ h nd hl => by
            rcases ownAt_set hl with ⟨rfl, p1, e1⟩ | ⟨_, p1⟩
            · exact nd p1 e1
            · exact not_own md.f h l p1
          have m2 := m1.setG (i := j) h2.slot fun a o e => ⟨nb a (h2.new o e), fun l => o1 (w := s2) l e (h2.new o e) fun p q => d1 a p q ⟨0, _, rfl, o, by rw [e]; rfl⟩⟩
          refine k F1 R1 H1 _ (m2.setG (i := l) h3.slot fun a o e => ⟨nb a (h3.new o e), fun l hl => ?_⟩)
          rcases ownAt_set hl with ⟨rfl, p1, q1⟩ | ⟨_, p1⟩
          · exact d2 a p1 q1 ⟨0, _, rfl, o, by rw [e]; rfl⟩
          · exact o1 (w := s3) l e (h3.new o e) (fun p q => d1 a p q ⟨1, _, rfl, o, by rw [e]; rfl⟩) p1
end
end Mn
/-! the interpreter's text matches the program's -/
namespace Mn
open PySem PySem.Spec PyProof.Rows L2 RZ
structure Tab where
  nm : Nat → Str
  P : List (Nat × MF)
  N : List Str
def visB (sc : Scope) (x : Str) : Bool := match sc.names.lookup x with
  | some .local => true
  | some .cell => true
  | some .free => true
  | _ => false
def cfB (sc : Scope) (x : Str) : Bool := match sc.names.lookup x with
  | some .cell => true
  | some .free => true
  | _ => false
def locB (b : Bool) (sc : Scope) (x : Str) : Bool := match sc.names.lookup x with
  | some .local => true
  | some .cell => b
  | _ => false
def glB (sc : Scope) (x : Str) : Bool := match sc.names.lookup x with
  | some .globalImplicit => true
  | _ => false
def nodbg (x : Str) : Bool := !(x == ("__debug__" : Str))
def nocls (x : Str) : Bool := !(x == ("__classdict__" : Str))
def cstB (sc : Scope) : D → Expr → Bool
  | .non, .Constant .none _ _ => true
  | .bl b, .Constant (.bool c) _ _ => b == c
  | .int i, .Constant (.int j) _ _ => decide (i = j)
  | .str x, .Constant (.str y) _ _ => decide (x = y)
  | .ty T, .Name x _ => glB sc x && ((decide (T = "int") && decide (x = "int")) || (decide (T = "str") && decide (x = "str")) || (decide (T = "bool") && decide (x = "bool")) || (decide (T = "tuple") && decide (x = "tuple")) || (decide (T = "list") && decide (x = "list")) || (decide (T = "dict") && decide (x = "dict")))
  | _, _ => false
def slots (N : List Str) (own : List Nat) : List (Str × Nat) := own.map fun j => (N.getD j Str.empty, j)
section
variable (T : Tab)
mutual
def chkE (sc : Scope) : ME → Expr → Bool
  | .var i, e => match e with
    | .Name x _ => decide (T.N[i]? = some x) && visB sc x && nodbg x && nocls x
    | _ => false
  | .cst d, e => cstB sc d e
  | .glob x, e => match e with
    | .Name y _ => decide (y = T.nm x) && glB sc y && nodbg y
    | _ => false
  | .bin op a b, e => match e with
    | .BinOp x o y _ => decide (o = op) && chkE sc a x && chkE sc b y
    | _ => false
  | .neg a, e => match e with
    | .UnaryOp .USub x _ => chkE sc a x
    | _ => false
  | .cmp op a b, e => match e with
    | .Compare x [o] [y] _ => decide (o = op) && noSet y && chkE sc a x && chkE sc b y
    | _ => false
  | .chain o1 o2 a b c, e => match e with
    | .Compare x [p1, p2] [y, z] _ => decide (p1 = o1) && decide (p2 = o2) && noSet z && chkE sc a x && chkE sc b y && chkE sc c z
    | _ => false
  | .and a b, e => match e with
    | .BoolOp .And (x :: y :: r) p => chkE sc a x && (match r with
      | [] => chkE sc b y
      | z :: r => chkE sc b (.BoolOp .And (y :: z :: r) p))
    | _ => false
  | .or a b, e => match e with
    | .BoolOp .Or (x :: y :: r) p => chkE sc a x && (match r with
      | [] => chkE sc b y
      | z :: r => chkE sc b (.BoolOp .Or (y :: z :: r) p))
    | _ => false
  | .not a, e => match e with
    | .UnaryOp .Not x _ => chkE sc a x
    | _ => false
  | .ife t a b, e => match e with
    | .IfExp c x y _ => chkT sc t c && chkE sc a x && chkE sc b y
    | _ => false
  | .tup ms, e => match e with
    | .Tuple es _ _ => decide (ms.length ≤ 1000) && chkEs sc ms es
    | _ => false
  | .lst ms, e => match e with
    | .List es _ => decide (ms.length ≤ 1000) && chkEs sc ms es
    | _ => false
  | .ref ms, e => match e with
    | .List es _ => decide (ms.length ≤ 1000) && chkEs sc ms es
    | _ => false
  | .call f ms, e => match e with
    | .Call (.Name y _) es [] _ => decide (y = T.nm f) && glB sc y && nodbg y && (T.P.lookup f).isSome && chkEs sc ms es
    | _ => false
  | .callK f ms ks vs, e => match e with
    | .Call (.Name y _) es kws _ => decide (y = T.nm f) && glB sc y && nodbg y && (match T.P.lookup f with
      | some m => kwC (m.names.take m.ps) ms.length (kwNames kws) ks
      | none => false) && kws.all (·.arg.isSome) && chkEs sc ms es && chkEs sc vs (kws.map (·.value))
    | _ => false
  | .blt b ms, e => match e with
    | .Call (.Name y _) es [] _ => decide (y = nBi b) && glB sc y && !es.isEmpty && chkEs sc ms es
    | _ => false
  | .sub a i, e => match e with
    | .Subscript x y _ => noSlice y && chkE sc a x && chkE sc i y
    | _ => false
  | .sl a lo hi, e => match e with
    | .Subscript x (.Slice l h none _) _ => chkE sc a x && chkO sc lo l && chkO sc hi h
    | _ => false
  | .rev a, e => match e with
    | .Subscript x (.Slice none none (some (.UnaryOp .USub (.Constant (.int 1) _ _) _)) _) _ => chkE sc a x
    | _ => false
  | .lc own g src tt r, e => match e with
    | .ListComp elt [⟨tg, iter, ifs, 0⟩] scope _ => blkC T.N sc scope (slots T.N own) && noSet iter && (gSl g).all (fun j => decide (j ∈ own)) && chkI sc tg src iter && chkG false scope g tg && chkTs scope tt ifs && chkE scope r elt
    | _ => false
  | .meth .., _ => false
def chkEs (sc : Scope) : List ME → List Expr → Bool
  | [], es => es.isEmpty
  | m :: ms, es => match es with
    | e :: es => noStar e && chkE sc m e && chkEs sc ms es
    | [] => false
def chkO (sc : Scope) : Option ME → Option Expr → Bool
  | none, e => e.isNone
  | some m, e => match e with
    | some e => chkE sc m e
    | none => false
def chkT (sc : Scope) : MT → Expr → Bool
  | .val m, e => plainT e && chkE sc m e
  | .tru m, e => plainT e && chkE sc m e
  | .cmp op a b, e => match e with
    | .Compare x [o] [y] _ => decide (o = op) && noSet y && chkE sc a x && chkE sc b y
    | _ => false
  | .chain o1 o2 a b c, e => match e with
    | .Compare x [p1, p2] [y, z] _ => decide (p1 = o1) && decide (p2 = o2) && noSet z && chkE sc a x && chkE sc b y && chkE sc c z
    | _ => false
  | .and a b, e => match e with
    | .BoolOp .And (x :: y :: r) p => chkT sc a x && (match r with
      | [] => chkT sc b y
      | z :: r => chkT sc b (.BoolOp .And (y :: z :: r) p))
    | _ => false
  | .or a b, e => match e with
    | .BoolOp .Or (x :: y :: r) p => chkT sc a x && (match r with
      | [] => chkT sc b y
      | z :: r => chkT sc b (.BoolOp .Or (y :: z :: r) p))
    | _ => false
  | .not a, e => match e with
    | .UnaryOp .Not x _ => chkT sc a x
    | _ => false
def chkTs (sc : Scope) : List MT → List Expr → Bool
  | [], es => es.isEmpty
  | m :: ms, es => match es with
    | [e] => ms.isEmpty && chkT sc m e
    | _ => false
def chkI (sc : Scope) (tg : Expr) : MI → Expr → Bool
  | .lst m, e => chkE sc m e
  | .tup m, e => chkE sc m e
  | .rng1 a, e => match e with
    | .Call (.Name y _) [x] [] _ => decide (y = "range") && glB sc y && noStar x && chkE sc a x
    | _ => false
  | .rng2 a b, e => match e with
    | .Call (.Name y _) [x, z] [] _ => decide (y = "range") && glB sc y && noStar x && noStar z && chkE sc a x && chkE sc b z
    | _ => false
  | .zip a b, e => match e, tg with
    | .Call (.Name y _) [x, z] [] _, .Tuple _ _ _ => decide (y = "zip") && glB sc y && noStar x && noStar z && chkE sc a x && chkE sc b z
    | _, _ => false
  | .enum a, e => match e, tg with
    | .Call (.Name y _) [x] [] _, .Tuple _ _ _ => decide (y = "enumerate") && glB sc y && noStar x && chkE sc a x
    | _, _ => false
def chkG (b : Bool) (sc : Scope) : MG → Expr → Bool
  | .name i, e => match e with
    | .Name x _ => decide (T.N[i]? = some x) && locB b sc x
    | _ => false
  | .tup gs, e => match e with
    | .Tuple es _ _ => chkGs b sc gs es
    | _ => false
  | .sub o i, e => match e with
    | .Subscript x y _ => noSlice y && chkE sc o x && chkE sc i y
    | _ => false
def chkGs (b : Bool) (sc : Scope) : List MG → List Expr → Bool
  | [], es => es.isEmpty
  | g :: gs, es => match es with
    | e :: es => noStar e && chkG b sc g e && chkGs b sc gs es
    | [] => false
end
end
end Mn
/-! what the check says -/
namespace Mn
open PySem PySem.Spec PyProof.Rows L2 RZ
structure ScR (a b : Scope) : Prop where
  loc : ∀ x, a.names.lookup x = some .local → b.names.lookup x = some .local
  cf : ∀ x, a.names.lookup x = some .cell ∨ a.names.lookup x = some .free → b.names.lookup x = some .cell ∨ b.names.lookup x = some .free
  gl : ∀ x, a.names.lookup x = some .globalImplicit → b.names.lookup x = some .globalImplicit
theorem ScR.refl (a : Scope) : ScR a a := ⟨fun _ h => h, fun _ h => h, fun _ h => h⟩
theorem lookup_relabel {env : Env} : ∀ (names : List (Str × NameKind)) (x : Str),
    (names.map fun (n, k) => if (k == NameKind.free && env.scope.kind == .function && env.kindOf n == some .cell) then (n, NameKind.cell) else (n, k)).lookup x =
      (names.lookup x).map fun k => if (k == NameKind.free && env.scope.kind == .function && env.kindOf x == some .cell) then NameKind.cell else k
  | [], x => rfl
  | (n, k) :: r, x => by
    have ih := lookup_relabel (env := env) r x
    by_cases e : x = n
    · subst e
      show List.lookup x ((if (k == NameKind.free && env.scope.kind == .function && env.kindOf x == some .cell) = true then (x, NameKind.cell) else (x, k)) :: _) = _
      by_cases c : (k == NameKind.free && env.scope.kind == .function && env.kindOf x == some .cell) = true
      · rw [if_pos c, List.lookup_cons, List.lookup_cons]
        simp only [beq_self_eq_true, Option.map_some, if_pos c]
      · rw [if_neg c, List.lookup_cons, List.lookup_cons]
        simp only [beq_self_eq_true, Option.map_some, if_neg c]
    · have e' : (x == n) = false := beq_eq_false_iff_ne.mpr e
      show List.lookup x ((if (k == NameKind.free && env.scope.kind == .function && env.kindOf n == some .cell) = true then (n, NameKind.cell) else (n, k)) :: _) = _
      by_cases c : (k == NameKind.free && env.scope.kind == .function && env.kindOf n == some .cell) = true
      · rw [if_pos c, List.lookup_cons, List.lookup_cons]
        simp only [e']
        exact ih
      · rw [if_neg c, List.lookup_cons, List.lookup_cons]
        simp only [e']
        exact ih
theorem ScR.blk (scope : Scope) (env : Env) : ScR scope (relabel scope env) := by
  refine ⟨fun x h => ?_, fun x h => ?_, fun x h => ?_⟩
  · show List.lookup x (scope.names.map _) = _
    rw [lookup_relabel, h]; rfl
  · show List.lookup x (scope.names.map _) = _ ∨ List.lookup x (scope.names.map _) = _
    rw [lookup_relabel]
    rcases h with h | h <;> rw [h]
    · exact .inl rfl
    · simp only [Option.map_some]
      split
      · exact .inl rfl
      · exact .inr rfl
  · show List.lookup x (scope.names.map _) = _
    rw [lookup_relabel, h]; rfl
section
variable {T : Tab} {cl : Nat → List D → Sto → Out D} {gl : Nat → Option D}
theorem visB_ok {sc : Scope} {b : Scope} {x : Str} (s : ScR sc b) (h : visB sc x = true) : Vis b x := by
  unfold visB at h
  split at h
  · exact .inl (s.loc x (by assumption))
  · exact .inr (s.cf x (.inl (by assumption)))
  · exact .inr (s.cf x (.inr (by assumption)))
  · cases h
theorem glB_ok {sc : Scope} {X : Cx} {x : Str} (s : ScR sc X.env.scope) (h : glB sc x = true) : Gl X x := by
  unfold glB at h
  split at h
  · exact s.gl x (by assumption)
  · cases h
theorem nodbg_ok {x : Str} (h : nodbg x = true) : (x == ("__debug__" : Str)) = false := by
  unfold nodbg at h
  revert h; cases (x == ("__debug__" : Str)) <;> simp
theorem nocls_ok {x : Str} (h : nocls x = true) : (x == ("__classdict__" : Str)) = false := by
  unfold nocls at h
  revert h; cases (x == ("__classdict__" : Str)) <;> simp
theorem Cxt.blk {nm : Nat → Str} {P : List (Nat × MF)} {X : Cx} (c : Cxt nm P cl gl X) (s : Shared) (H : Hp) (scope : Scope) (env : Env) (fp : List Addr) : Cxt nm P cl gl (X.blk s H scope env fp) :=
  ⟨⟨c.b.calm, c.b.un, c.b.gd⟩, c.nd, c.bi, c.zip, c.enu, c.bty, c.fn, c.gb, PassesOwn.never⟩
theorem cst_ok {X : Cx} {sc : Scope} {d : D} {e : Expr} {nm : Nat → Str} {P : List (Nat × MF)} (c : Cxt nm P cl gl X) (s : ScR sc X.env.scope) (h : cstB sc d e = true) : PE X e (tE cl gl X.K (.cst d)) := by
  have ty : ∀ (x : String) (T : String) (pos : Pos), Gl X (Str.ofString x) → X.mg (Str.ofString x) = none → bootBuiltins (Str.ofString x) = some (.type T) → Str.ofString x ≠ "__name__" → (Str.ofString x == ("__debug__" : Str)) = false → PE X (.Name (Str.ofString x) pos) (tE cl gl X.K (.cst (.ty T))) := fun x T pos h1 h2 h3 h4 h5 =>
    snd_const (v := .ty T) (pe_bltn h1 h2 h3 rfl h4 h5) fun F R => .ty T
  unfold cstB at h
  split at h
  · exact snd_const pe_non fun F R => .non
  · rw [beq_iff_eq] at h; subst h; exact snd_const pe_bl fun F R => .bl _
  · have h := of_decide_eq_true h; subst h; exact snd_const pe_int fun F R => .int _
  · have h := of_decide_eq_true h; subst h; exact snd_const pe_str fun F R => .str _
  · simp only [Bool.and_eq_true, Bool.or_eq_true, decide_eq_true_eq] at h
    obtain ⟨hg, h⟩ := h
    rcases h with ((((⟨rfl, rfl⟩ | ⟨rfl, rfl⟩) | ⟨rfl, rfl⟩) | ⟨rfl, rfl⟩) | ⟨rfl, rfl⟩) | ⟨rfl, rfl⟩
    · exact ty "int" "int" _ (glB_ok s hg) (c.bi .int) rfl (by decide) (by decide)
    · exact ty "str" "str" _ (glB_ok s hg) (c.bi .str) rfl (by decide) (by decide)
    · exact ty "bool" "bool" _ (glB_ok s hg) (c.bty _ (by simp)) rfl (by decide) (by decide)
    · exact ty "tuple" "tuple" _ (glB_ok s hg) (c.bi .tuple) rfl (by decide) (by decide)
    · exact ty "list" "list" _ (glB_ok s hg) (c.bi .list) rfl (by decide) (by decide)
    · exact ty "dict" "dict" _ (glB_ok s hg) (c.bty _ (by simp)) rfl (by decide) (by decide)
  · cases h
theorem slots_snd (N : List Str) (own : List Nat) : (slots N own).map (·.2) = own := by
  unfold slots
  rw [List.map_map]
  exact List.map_id _
theorem chkEs_len {sc : Scope} : ∀ {ms : List ME} {es : List Expr}, chkEs T sc ms es = true → es.all noStar = true ∧ es.length = ms.length
  | [], es, h => by
    simp only [chkEs, List.isEmpty_iff] at h
    subst h; exact ⟨rfl, rfl⟩
  | m :: ms, es, h => by
    simp only [chkEs] at h
    split at h
    · simp only [Bool.and_eq_true] at h
      obtain ⟨q1, q2⟩ := chkEs_len h.2
      exact ⟨by simp only [List.all_cons, Bool.and_eq_true]; exact ⟨h.1.1, q1⟩, by simp [q2]⟩
    · cases h
theorem chkGs_len {b : Bool} {sc : Scope} : ∀ {ms : List MG} {es : List Expr}, chkGs T b sc ms es = true → es.all noStar = true ∧ es.length = ms.length
  | [], es, h => by
    simp only [chkGs, List.isEmpty_iff] at h
    subst h; exact ⟨rfl, rfl⟩
  | m :: ms, es, h => by
    simp only [chkGs] at h
    split at h
    · simp only [Bool.and_eq_true] at h
      obtain ⟨q1, q2⟩ := chkGs_len h.2
      exact ⟨by simp only [List.all_cons, Bool.and_eq_true]; exact ⟨h.1.1, q1⟩, by simp [q2]⟩
    · cases h
theorem loc_ok {X : Cx} {sc : Scope} {b : Bool} {x : Str} (s : ScR sc X.env.scope) (fc : b = true → ∀ x, sc.names.lookup x = some .cell → X.fn x = true ∧ X.env.scope.names.lookup x = some .cell) (h : locB b sc x = true) :
    Loc X.env.scope x ∧ (X.fn x = true ∨ X.env.scope.names.lookup x = some .local) := by
  unfold locB at h
  split at h
  · rename_i q
    exact ⟨.inl (s.loc x q), .inr (s.loc x q)⟩
  · rename_i q
    obtain ⟨p1, p2⟩ := fc h x q
    exact ⟨.inr p2, .inl p1⟩
  · cases h
theorem snd_kcons {X : Cx} {kw : Keyword} {kws : List Keyword} {m : ME} {ms : List ME} (h0 : PE X kw.value (tE cl gl X.K m)) (t : PK X kws (tEs cl gl X.K ms)) : PK X (kw :: kws) (tEs cl gl X.K (m :: ms)) := by
  obtain ⟨n, e, p⟩ := kw
  constructor
  intro pos pins s σ H Q I q
  refine (pk_cons h0 t).run pos pins s σ H Q I ?_
  obtain ⟨F, R, fr, S, d, S', rs, rf, he, k⟩ := q
  simp only [evs] at he
  obtain ⟨x, S1, e1, he⟩ := bind_ok he
  obtain ⟨xs, S2, e2, he⟩ := bind_ok he
  cases he
  exact ⟨F, R, fr, S, x, S1, rs, rf, e1, fun F1 R1 H1 v n1 rs1 rv => ⟨F1, R1, fr, S1, xs, _, rs1, rf.nxt n1, e2, fun F2 R2 H2 ws n2 rs2 rw' => k F2 R2 H2 _ (n1.trans n2) rs2 (.cons (rv.mono n2.f n2.r) rw')⟩⟩
def isBO : Expr → Bool
  | .BoolOp .. => true
  | _ => false
theorem plain_bo {e : Expr} (h : plainT e = true) : isBO e = false := by cases e <;> first | rfl | (simp [plainT] at h)
mutual
theorem okE {X : Cx} {sc : Scope} (c : Cxt T.nm T.P cl gl X) (hN : X.N = T.N) (s : ScR sc X.env.scope) : ∀ (m : ME) (e : Expr), chkE T sc m e = true → PE X e (tE cl gl X.K m)
  | .var i, e, h => by
    simp only [chkE] at h
    split at h
    · simp only [Bool.and_eq_true, decide_eq_true_eq] at h
      exact snd_var (hN ▸ h.1.1.1) (visB_ok s h.1.1.2) (nodbg_ok h.1.2) (nocls_ok h.2)
    · cases h
  | .cst d, e, h => by
    simp only [chkE] at h
    exact cst_ok c s h
  | .glob x, e, h => by
    simp only [chkE] at h
    split at h
    · simp only [Bool.and_eq_true, decide_eq_true_eq] at h
      obtain ⟨⟨rfl, h2⟩, h3⟩ := h
      exact snd_glob c (glB_ok s h2) (nodbg_ok h3)
    · cases h
  | .bin op a b, e, h => by
    simp only [chkE] at h
    split at h
    · simp only [Bool.and_eq_true, decide_eq_true_eq] at h
      obtain ⟨⟨rfl, h2⟩, h3⟩ := h
      exact snd_bin (okE c hN s a _ h2) (okE c hN s b _ h3)
    · cases h
  | .neg a, e, h => by
    simp only [chkE] at h
    split at h
    · exact snd_neg (okE c hN s a _ h)
    · cases h
  | .cmp op a b, e, h => by
    simp only [chkE] at h
    split at h
    · simp only [Bool.and_eq_true, decide_eq_true_eq] at h
      obtain ⟨⟨⟨rfl, h1⟩, h2⟩, h3⟩ := h
      exact snd_cmp c.b h1 (okE c hN s a _ h2) (okE c hN s b _ h3)
    · cases h
  | .chain o1 o2 a b d, e, h => by
    simp only [chkE] at h
    split at h
    · simp only [Bool.and_eq_true, decide_eq_true_eq] at h
      obtain ⟨⟨⟨⟨⟨rfl, rfl⟩, h1⟩, h2⟩, h3⟩, h4⟩ := h
      exact snd_chain c.b h1 (okE c hN s a _ h2) (okE c hN s b _ h3) (okE c hN s d _ h4)
    · cases h
  | .and a b, e, h => by
    simp only [chkE] at h
    split at h
    · rename_i x y r p
      simp only [Bool.and_eq_true] at h
      obtain ⟨h1, h2⟩ := h
      cases r with
      | nil => exact snd_and (okE c hN s a _ h1) (pe_one (okE c hN s b _ h2))
      | cons z r => exact snd_and (okE c hN s a _ h1) (okE c hN s b _ h2)
    · cases h
  | .or a b, e, h => by
    simp only [chkE] at h
    split at h
    · rename_i x y r p
      simp only [Bool.and_eq_true] at h
      obtain ⟨h1, h2⟩ := h
      cases r with
      | nil => exact snd_or (okE c hN s a _ h1) (pe_one (okE c hN s b _ h2))
      | cons z r => exact snd_or (okE c hN s a _ h1) (okE c hN s b _ h2)
    · cases h
  | .not a, e, h => by
    simp only [chkE] at h
    split at h
    · exact snd_not (okE c hN s a _ h)
    · cases h
  | .ife t a b, e, h => by
    simp only [chkE] at h
    split at h
    · simp only [Bool.and_eq_true] at h
      exact snd_ife (okT c hN s t _ h.1.1).1 (okE c hN s a _ h.1.2) (okE c hN s b _ h.2)
    · cases h
  | .tup ms, e, h => by
    simp only [chkE] at h
    split at h
    · simp only [Bool.and_eq_true, decide_eq_true_eq] at h
      exact snd_tup h.1 (okEs c hN s ms _ h.2)
    · cases h
  | .lst ms, e, h => by
    simp only [chkE] at h
    split at h
    · simp only [Bool.and_eq_true, decide_eq_true_eq] at h
      exact snd_lst h.1 (okEs c hN s ms _ h.2)
    · cases h
  | .ref ms, e, h => by
    simp only [chkE] at h
    split at h
    · simp only [Bool.and_eq_true, decide_eq_true_eq] at h
      exact snd_ref h.1 (okEs c hN s ms _ h.2)
    · cases h
  | .call f ms, e, h => by
    simp only [chkE] at h
    split at h
    · rename_i y p es pos
      simp only [Bool.and_eq_true, decide_eq_true_eq] at h
      obtain ⟨⟨⟨⟨rfl, h2⟩, h3⟩, h4⟩, h5⟩ := h
      obtain ⟨m, hm⟩ := Option.isSome_iff_exists.mp h4
      obtain ⟨q1, q2⟩ := chkEs_len h5
      cases es with
      | nil =>
        cases ms with
        | nil => exact snd_call0 c hm (glB_ok s h2) (nodbg_ok h3)
        | cons => simp at q2
      | cons e es => exact snd_call c hm (glB_ok s h2) (nodbg_ok h3) q1 (okEs c hN s ms _ h5)
    · cases h
  | .callK f ms ks vs, e, h => by
    simp only [chkE] at h
    split at h
    · rename_i y p es kws pos
      simp only [Bool.and_eq_true, decide_eq_true_eq] at h
      obtain ⟨⟨⟨⟨⟨⟨rfl, h2⟩, h3⟩, h4⟩, h5⟩, h6⟩, h7⟩ := h
      split at h4
      · rename_i m hm
        obtain ⟨q1, q2⟩ := chkEs_len h6
        obtain ⟨q3, q4⟩ := chkEs_len h7
        exact snd_callK c hm (glB_ok s h2) (nodbg_ok h3) q1 (okEs c hN s ms _ h6) q2 (okKs c hN s vs _ h7) (by simpa using q4) h5 h4
      · cases h4
    · cases h
  | .blt b ms, e, h => by
    simp only [chkE] at h
    split at h
    · rename_i y p es pos
      simp only [Bool.and_eq_true, decide_eq_true_eq] at h
      obtain ⟨⟨⟨rfl, h2⟩, h3⟩, h4⟩ := h
      cases es with
      | nil => cases h3
      | cons e es => exact snd_blt c (glB_ok s h2) (chkEs_len h4).1 (okEs c hN s ms _ h4)
    · cases h
  | .sub a i, e, h => by
    simp only [chkE] at h
    split at h
    · simp only [Bool.and_eq_true] at h
      exact snd_sub h.1.1 (okE c hN s a _ h.1.2) (okE c hN s i _ h.2)
    · cases h
  | .sl a lo hi, e, h => by
    simp only [chkE] at h
    split at h
    · simp only [Bool.and_eq_true] at h
      exact snd_sl (okE c hN s a _ h.1.1) (okO c hN s lo _ h.1.2) (okO c hN s hi _ h.2)
    · cases h
  | .rev a, e, h => by
    simp only [chkE] at h
    split at h
    · exact snd_rev (okE c hN s a _ h)
    · cases h
  | .lc own g src tt r, e, h => by
    simp only [chkE] at h
    split at h
    · rename_i elt tg iter ifs scope pos
      simp only [Bool.and_eq_true, List.all_eq_true, decide_eq_true_eq] at h
      obtain ⟨⟨⟨⟨⟨⟨h1, h2⟩, h3⟩, h4⟩, h5⟩, h6⟩, h7⟩ := h
      have b := blkOk_by h1
      have b' : BlkOk X.N X.env.scope scope (slots T.N own) := ⟨b.kind, b.uniq, by rw [hN]; exact b.ix, fun y hy e => s.cf _ (b.free y hy e), by rw [hN]; exact b.own⟩
      have q := snd_lc c (okI c hN s tg src _ h4) b' (fun s' H C cl' fp => okG (c.blk s' H scope _ fp) hN (ScR.blk scope X.env) (fun h => by cases h) g _ h5) (fun s' H C cl' fp => okTs (c.blk s' H scope _ fp) hN (ScR.blk scope X.env) tt _ h6)
        (fun s' H C cl' fp => okE (c.blk s' H scope _ fp) hN (ScR.blk scope X.env) r _ h7) h2 (by rw [slots_snd]; exact h3) (pos := pos)
      rw [slots_snd] at q
      exact q
    · cases h
  | .meth .., e, h => by simp [chkE] at h
theorem okEs {X : Cx} {sc : Scope} (c : Cxt T.nm T.P cl gl X) (hN : X.N = T.N) (s : ScR sc X.env.scope) : ∀ (m : List ME) (e : List Expr), chkEs T sc m e = true → PA X e (tEs cl gl X.K m)
  | [], es, h => by
    simp only [chkEs, List.isEmpty_iff] at h
    subst h; exact snd_nil
  | m :: ms, es, h => by
    simp only [chkEs] at h
    split at h
    · simp only [Bool.and_eq_true] at h
      exact snd_cons h.1.1 (okE c hN s m _ h.1.2) (okEs c hN s ms _ h.2)
    · cases h
theorem okKs {X : Cx} {sc : Scope} (c : Cxt T.nm T.P cl gl X) (hN : X.N = T.N) (s : ScR sc X.env.scope) : ∀ (m : List ME) (kws : List Keyword), chkEs T sc m (kws.map (·.value)) = true → PK X kws (tEs cl gl X.K m)
  | [], kws, h => by
    simp only [chkEs, List.isEmpty_iff, List.map_eq_nil_iff] at h
    subst h
    exact snd_kws (fun i q m h1 h2 => by simp at h1) rfl
  | m :: ms, kws, h => by
    cases kws with
    | nil => simp [chkEs] at h
    | cons kw kws =>
      simp only [chkEs, List.map_cons, Bool.and_eq_true] at h
      exact snd_kcons (okE c hN s m _ h.1.2) (okKs c hN s ms _ h.2)
theorem okO {X : Cx} {sc : Scope} (c : Cxt T.nm T.P cl gl X) (hN : X.N = T.N) (s : ScR sc X.env.scope) : ∀ (m : Option ME) (e : Option Expr), chkO T sc m e = true → PO X e (tEo cl gl X.K m)
  | none, e, h => by
    simp only [chkO, Option.isNone_iff_eq_none] at h
    subst h; exact snd_o0
  | some m, e, h => by
    simp only [chkO] at h
    split at h
    · exact snd_o1 (okE c hN s m _ h)
    · cases h
theorem okT {X : Cx} {sc : Scope} (c : Cxt T.nm T.P cl gl X) (hN : X.N = T.N) (s : ScR sc X.env.scope) : ∀ (m : MT) (e : Expr), chkT T sc m e = true → PT X e (tM cl gl X.K m) ∧ (isBO e = true → PW X e (tM cl gl X.K m))
  | .val m, e, h => by
    simp only [chkT, Bool.and_eq_true] at h
    exact ⟨snd_tval (okE c hN s m _ h.2) h.1, fun q => by rw [plain_bo h.1] at q; cases q⟩
  | .tru m, e, h => by
    simp only [chkT, Bool.and_eq_true] at h
    exact ⟨snd_ttru (okE c hN s m _ h.2) h.1, fun q => by rw [plain_bo h.1] at q; cases q⟩
  | .cmp op a b, e, h => by
    simp only [chkT] at h
    split at h
    · simp only [Bool.and_eq_true, decide_eq_true_eq] at h
      obtain ⟨⟨⟨rfl, h1⟩, h2⟩, h3⟩ := h
      exact ⟨snd_tcmp c.b h1 (okE c hN s a _ h2) (okE c hN s b _ h3), fun q => by cases q⟩
    · cases h
  | .chain o1 o2 a b d, e, h => by
    simp only [chkT] at h
    split at h
    · simp only [Bool.and_eq_true, decide_eq_true_eq] at h
      obtain ⟨⟨⟨⟨⟨rfl, rfl⟩, h1⟩, h2⟩, h3⟩, h4⟩ := h
      exact ⟨snd_tchain c.b h1 (okE c hN s a _ h2) (okE c hN s b _ h3) (okE c hN s d _ h4), fun q => by cases q⟩
    · cases h
  | .and a b, e, h => by
    simp only [chkT] at h
    split at h
    · rename_i x y r p
      simp only [Bool.and_eq_true] at h
      obtain ⟨h1, h2⟩ := h
      have w : PW X (.BoolOp .And (x :: y :: r) p) (tM cl gl X.K (.and a b)) := by
        cases r with
        | nil => exact snd_tand (okT c hN s a _ h1).1 (pw_and1 (okT c hN s b _ h2).1)
        | cons z r => exact snd_tand (okT c hN s a _ h1).1 ((okT c hN s b _ h2).2 rfl)
      exact ⟨w.pt, fun _ => w⟩
    · cases h
  | .or a b, e, h => by
    simp only [chkT] at h
    split at h
    · rename_i x y r p
      simp only [Bool.and_eq_true] at h
      obtain ⟨h1, h2⟩ := h
      have w : PW X (.BoolOp .Or (x :: y :: r) p) (tM cl gl X.K (.or a b)) := by
        cases r with
        | nil => exact snd_tor (okT c hN s a _ h1).1 (pw_or1 (okT c hN s b _ h2).1)
        | cons z r => exact snd_tor (okT c hN s a _ h1).1 ((okT c hN s b _ h2).2 rfl)
      exact ⟨w.pt, fun _ => w⟩
    · cases h
  | .not a, e, h => by
    simp only [chkT] at h
    split at h
    · exact ⟨snd_tnot (okT c hN s a _ h).1, fun q => by cases q⟩
    · cases h
theorem okTs {X : Cx} {sc : Scope} (c : Cxt T.nm T.P cl gl X) (hN : X.N = T.N) (s : ScR sc X.env.scope) : ∀ (m : List MT) (e : List Expr), chkTs T sc m e = true → PTs X e (tMs cl gl X.K m)
  | [], es, h => by
    simp only [chkTs, List.isEmpty_iff] at h
    subst h; exact snd_ts0
  | m :: ms, es, h => by
    simp only [chkTs] at h
    split at h
    · simp only [Bool.and_eq_true, List.isEmpty_iff] at h
      obtain ⟨rfl, h⟩ := h
      exact snd_ts1 (okT c hN s m _ h).1
    · cases h
theorem okI {X : Cx} {sc : Scope} (c : Cxt T.nm T.P cl gl X) (hN : X.N = T.N) (s : ScR sc X.env.scope) (tg : Expr) : ∀ (m : MI) (e : Expr), chkI T sc tg m e = true → PI X tg e (tW cl gl X.K m)
  | .lst m, e, h => by
    simp only [chkI] at h
    exact snd_ilst (okE c hN s m _ h)
  | .tup m, e, h => by
    simp only [chkI] at h
    exact snd_itup (okE c hN s m _ h)
  | .rng1 a, e, h => by
    simp only [chkI] at h
    split at h
    · simp only [Bool.and_eq_true, decide_eq_true_eq] at h
      obtain ⟨⟨⟨rfl, h2⟩, h3⟩, h4⟩ := h
      exact snd_irng1 c (glB_ok s h2) h3 (okE c hN s a _ h4)
    · cases h
  | .rng2 a b, e, h => by
    simp only [chkI] at h
    split at h
    · simp only [Bool.and_eq_true, decide_eq_true_eq] at h
      obtain ⟨⟨⟨⟨⟨rfl, h2⟩, h3⟩, h4⟩, h5⟩, h6⟩ := h
      exact snd_irng2 c (glB_ok s h2) h3 h4 (okE c hN s a _ h5) (okE c hN s b _ h6)
    · cases h
  | .zip a b, e, h => by
    simp only [chkI] at h
    split at h
    · simp only [Bool.and_eq_true, decide_eq_true_eq] at h
      obtain ⟨⟨⟨⟨⟨rfl, h2⟩, h3⟩, h4⟩, h5⟩, h6⟩ := h
      exact snd_izip c (glB_ok s h2) h3 h4 (okE c hN s a _ h5) (okE c hN s b _ h6)
    · cases h
  | .enum a, e, h => by
    simp only [chkI] at h
    split at h
    · simp only [Bool.and_eq_true, decide_eq_true_eq] at h
      obtain ⟨⟨⟨rfl, h2⟩, h3⟩, h4⟩ := h
      exact snd_ienum c (glB_ok s h2) h3 (okE c hN s a _ h4)
    · cases h
theorem okG {X : Cx} {sc : Scope} {b : Bool} (c : Cxt T.nm T.P cl gl X) (hN : X.N = T.N) (s : ScR sc X.env.scope) (fc : b = true → ∀ x, sc.names.lookup x = some .cell → X.fn x = true ∧ X.env.scope.names.lookup x = some .cell) : ∀ (m : MG) (e : Expr), chkG T b sc m e = true → PG X e (tG cl gl X.K m)
  | .name i, e, h => by
    simp only [chkG] at h
    split at h
    · simp only [Bool.and_eq_true, decide_eq_true_eq] at h
      obtain ⟨h1, h2⟩ := h
      obtain ⟨l1, l2⟩ := loc_ok s fc h2
      exact snd_gname c.nd (hN ▸ h1) l1 l2
    · cases h
  | .tup gs, e, h => by
    simp only [chkG] at h
    split at h
    · obtain ⟨q1, q2⟩ := chkGs_len h
      exact snd_gtup c q1 q2 (okGs c hN s fc gs _ h)
    · cases h
  | .sub o i, e, h => by
    simp only [chkG] at h
    split at h
    · simp only [Bool.and_eq_true] at h
      exact snd_gsub h.1.1 (okE c hN s o _ h.1.2) (okE c hN s i _ h.2)
    · cases h
theorem okGs {X : Cx} {sc : Scope} {b : Bool} (c : Cxt T.nm T.P cl gl X) (hN : X.N = T.N) (s : ScR sc X.env.scope) (fc : b = true → ∀ x, sc.names.lookup x = some .cell → X.fn x = true ∧ X.env.scope.names.lookup x = some .cell) : ∀ (m : List MG) (e : List Expr), chkGs T b sc m e = true → PGs X e (tGg cl gl X.K m)
  | [], es, h => by
    simp only [chkGs, List.isEmpty_iff] at h
    subst h; exact snd_gnil
  | m :: ms, es, h => by
    simp only [chkGs] at h
    split at h
    · simp only [Bool.and_eq_true] at h
      exact snd_gcons h.1.1 (okG c hN s fc m _ h.1.2) (okGs c hN s fc ms _ h.2)
    · cases h
end
end
end Mn
/-! the statements match -/
namespace Mn
open PySem PySem.Spec PyProof.Rows L2 RZ
def swC (sc : Scope) (e : Expr) (t : Str) (p : Pos) : Bool :=
  match (match e with
    | .ListComp _ _ s _ | .SetComp _ _ s _ | .DictComp _ _ _ s _ => some s
    | _ => none) with
  | some scope => sc.names.lookup t == some .local && p.line == e.pos.line && !(scope.names.any fun (n, k) => n == t && (k == .local || k == .cell))
  | none => false
theorem swC_ok {e : Expr} {t : Str} {p : Pos} {line : Nat} {env : Env} (hk : env.scope.kind = .function) : swapsWith e (some (.Name t p)) line env = pure (swC env.scope e t p) := by
  have hb : env.blockKind = .function := by unfold Env.blockKind; rw [hk]; rfl
  cases e <;> first | rfl | (unfold swapsWith swC; simp only [hb]; rfl)
def nameTg : Expr → Bool
  | .Name .. => true
  | _ => false
theorem sw_tg {e tg : Expr} {l : Nat} {env : Env} (h : nameTg tg = false) : swapsWithSole [tg] e l env = pure false := by
  show swapsWith e (some tg) l env = _
  cases tg <;> first | (simp [nameTg] at h; done) | (cases e <;> rfl)
def swT (sc : Scope) (tg e : Expr) : Bool := match tg, e with
  | .Tuple ts _ _, .Tuple vs _ _ => (swP ts vs (fun x => sc.names.lookup x) == some none)
  | .List _ _, .Tuple _ _ _ => false
  | _, _ => true
theorem swT_ok {tg e : Expr} {env : Env} (hk : env.scope.kind = .function) (h : swT env.scope tg e = true) : swappedStores [tg] e env = pure none := by
  unfold swT at h
  split at h
  · rw [beq_iff_eq] at h
    exact swP_ok hk h
  · cases h
  · rename_i h1 h2
    unfold swappedStores
    split
    · rename_i ts vs heq
      split at heq
      · next q =>
          injection q with q _
          exact (h1 _ _ _ _ _ _ q rfl).elim
      · next q =>
          injection q with q _
          exact (h2 _ _ _ _ _ q rfl).elim
      · cases heq
    · rfl
section
variable (T : Tab)
def chkR (sc : Scope) : MR → Expr → Bool
  | .val m, e => chkE T sc m e
  | .lst ms, e => match e with
    | .List es _ => decide (ms.length ≤ 1000) && chkEs T sc ms es
    | _ => false
def chkRs (sc : Scope) : List MR → List Expr → Bool
  | [], es => es.isEmpty
  | m :: ms, es => match es with
    | e :: es => noStar e && chkR T sc m e && chkRs sc ms es
    | [] => false
def nmB (sc : Scope) (b : Bool) (i : Nat) (x : Str) : Bool := decide (T.N[i]? = some x) && locB b sc x
def noFreeze : MS → Bool
  | .freeze _ => false
  | _ => true
mutual
def chkS (sc : Scope) : MS → Stmt → Bool
  | .set i r, st => match st with
    | .Assign [.Name x p] e _ => nmB T sc true i x && !swC sc e x p && chkR T sc r e
    | _ => false
  | .setLc i o m, st => match st with
    | .Assign [.Name x p] (.ListComp elt [⟨tg, iter, ifs, 0⟩] scope _) _ => nmB T sc false i x && (match m with
      | .lc own g src tt r => blkC T.N sc scope (slots T.N own) && noSet iter && (gSl g).all (fun j => decide (j ∈ own)) && chkI T sc tg src iter && chkG T false scope g tg && chkTs T scope tt ifs && chkE T scope r elt
      | _ => false)
    | _ => false
  | .par is rs, st => match st with
    | .Assign [.Tuple [.Name x _, .Name y _] _ _] (.Tuple [a, b] _ _) _ => (match is with
      | [i, j] => nmB T sc false i x && nmB T sc false j y && decide (i ≠ j) && decide (rs.length = 2) && chkRs T sc rs [a, b]
      | _ => false) && (match st with
      | .Assign [.Tuple ts _ _] (.Tuple vs _ _) _ => swP ts vs (fun x => sc.names.lookup x) == some (some [x, y])
      | _ => false)
    | .Assign [.Tuple [.Name x _, .Name y _, .Name z _] _ _] (.Tuple [a, b, c] _ _) _ => (match is with
      | [i, j, l] => nmB T sc false i x && nmB T sc false j y && nmB T sc false l z && decide (i ≠ j) && decide (i ≠ l) && decide (j ≠ l) && decide (rs.length = 3) && chkRs T sc rs [a, b, c]
      | _ => false) && (match st with
      | .Assign [.Tuple ts _ _] (.Tuple vs _ _) _ => swP ts vs (fun x => sc.names.lookup x) == some (some [x, y, z])
      | _ => false)
    | _ => false
  | .asg g m, st => match st with
    | .Assign [tg] e _ => !nameTg tg && swT sc tg e && noStar tg && chkG T true sc g tg && chkE T sc m e
    | _ => false
  | .aug i op m, st => match st with
    | .AugAssign (.Name x _) o e _ => nmB T sc true i x && decide (o = op) && (decide (op = .Add) || decide (op = .Sub)) && chkE T sc m e
    | _ => false
  | .freeze _, _ => false
  | .append i m, st => match st with
    | .Expr (.Call (.Attribute (.Name x _) f apos) [e] [] cpos) _ => decide (f = "append") && decide (T.N[i]? = some x) && visB sc x && nodbg x && nocls x && noStar e && (apos.endLine == cpos.line) && chkE T sc m e
    | _ => false
  | .expr m, st => match st with
    | .Expr e _ => noComp e && chkE T sc m e
    | _ => false
  | .ret m, st => match st with
    | .Return (some e) _ => chkE T sc m e
    | _ => false
  | .retN, st => match st with
    | .Return none _ => true
    | _ => false
  | .ife t a b, st => match st with
    | .If c x y _ => chkT T sc t c && chkSs sc a x && chkSs sc b y
    | _ => false
  | .forr g src b, st => match st with
    | .For tg iter body [] _ => noSet iter && chkI T sc tg src iter && chkG T true sc g tg && chkSs sc b body
    | _ => false
  | .whil t b, st => match st with
    | .While c body [] _ => chkT T sc t c && chkSs sc b body
    | _ => false
  | .brk, st => match st with
    | .Break _ => true
    | _ => false
  | .cont, st => match st with
    | .Continue _ => true
    | _ => false
  | .pass, st => match st with
    | .Pass _ => true
    | _ => false
  | .never, _ => true
def chkSs (sc : Scope) : List MS → List Stmt → Bool
  | [], ss => ss.isEmpty
  | m :: ms, ss => bif noFreeze m then (match ss with
      | s :: ss => chkS sc m s && chkSs sc ms ss
      | [] => false) else chkSs sc ms ss
end
end
section
variable {T : Tab} {cl : Nat → List D → Sto → Out D} {gl : Nat → Option D} {fuel : Nat}
theorem okR {X : Cx} {sc : Scope} (c : Cxt T.nm T.P cl gl X) (hN : X.N = T.N) (s : ScR sc X.env.scope) : ∀ (m : MR) (e : Expr), chkR T sc m e = true → PE X e (tR cl gl X.K m)
  | .val m, e, h => snd_rval (okE c hN s m e h)
  | .lst ms, e, h => by
    simp only [chkR] at h
    split at h
    · simp only [Bool.and_eq_true, decide_eq_true_eq] at h
      exact snd_rlst h.1 (okEs c hN s ms _ h.2)
    · cases h
theorem okRs {X : Cx} {sc : Scope} (c : Cxt T.nm T.P cl gl X) (hN : X.N = T.N) (s : ScR sc X.env.scope) : ∀ (m : List MR) (e : List Expr), chkRs T sc m e = true → PA X e (tRs cl gl X.K m)
  | [], es, h => by
    simp only [chkRs, List.isEmpty_iff] at h
    subst h; exact snd_rnil
  | m :: ms, es, h => by
    simp only [chkRs] at h
    split at h
    · simp only [Bool.and_eq_true] at h
      exact snd_rcons h.1.1 (okR c hN s m _ h.1.2) (okRs c hN s ms _ h.2)
    · cases h
theorem nmB_ok {X : Cx} {b : Bool} {i : Nat} {x : Str} (hN : X.N = T.N) (fc : b = true → ∀ x, X.env.scope.names.lookup x = some .cell → X.fn x = true) (h : nmB T X.env.scope b i x = true) : X.N[i]? = some x ∧ Loc X.env.scope x ∧ (X.fn x = true ∨ X.env.scope.names.lookup x = some .local) := by
  unfold nmB at h
  simp only [Bool.and_eq_true, decide_eq_true_eq] at h
  exact ⟨hN ▸ h.1, loc_ok (ScR.refl _) (fun q x z => ⟨fc q x z, z⟩) h.2⟩
theorem nmB_loc {X : Cx} {i : Nat} {x : Str} (hN : X.N = T.N) (h : nmB T X.env.scope false i x = true) : X.N[i]? = some x ∧ X.env.scope.names.lookup x = some .local := by
  unfold nmB at h
  simp only [Bool.and_eq_true, decide_eq_true_eq] at h
  refine ⟨hN ▸ h.1, ?_⟩
  have h2 := h.2
  unfold locB at h2
  split at h2
  · assumption
  · cases h2
  · cases h2
theorem frz_ok {b a c : Bool} (h : (bif b then a else c) = true) : (b = false ∧ c = true) ∨ (b = true ∧ a = true) := by
  cases b
  · exact .inl ⟨rfl, h⟩
  · exact .inr ⟨rfl, h⟩
theorem snd_bfrz' {X : Cx} {ss : List Stmt} {m : MS} {ms : List MS} (h : noFreeze m = false) (t : PSs X ss (tSb cl gl fuel X.K ms)) : PSs X ss (tSb cl gl fuel X.K (m :: ms)) := by
  cases m <;> first | exact snd_bfrz t | (simp [noFreeze] at h)
mutual
theorem okS {X : Cx} (c : Cxt T.nm T.P cl gl X) (hN : X.N = T.N) (hk : X.env.scope.kind = .function) (fc : ∀ x, X.env.scope.names.lookup x = some .cell → X.fn x = true) : ∀ (m : MS) (e : Stmt), chkS T X.env.scope m e = true → PS X e (tSt cl gl fuel X.K m)
  | .set i r, st, h => by
    simp only [chkS] at h
    split at h
    · simp only [Bool.and_eq_true, Bool.not_eq_true'] at h
      obtain ⟨⟨h1, h2⟩, h3⟩ := h
      obtain ⟨q1, q2, q3⟩ := nmB_ok hN (fun _ => fc) h1
      exact snd_set c q1 q2 q3 (by rw [swC_ok hk, h2]) (okR c hN (ScR.refl _) r _ h3)
    · cases h
  | .setLc i o m, st, h => by
    simp only [chkS] at h
    split at h
    · rename_i x p elt tg iter ifs scope p2 p3
      simp only [Bool.and_eq_true] at h
      obtain ⟨h1, h⟩ := h
      obtain ⟨q1, q2⟩ := nmB_loc hN h1
      split at h
      · rename_i own g src tt r
        simp only [Bool.and_eq_true, List.all_eq_true, decide_eq_true_eq] at h
        obtain ⟨⟨⟨⟨⟨⟨h1, h2⟩, h3⟩, h4⟩, h5⟩, h6⟩, h7⟩ := h
        have b := blkOk_by h1
        have b' : BlkOk X.N X.env.scope scope (slots T.N own) := by rw [hN]; exact b
        have q := snd_setLc (fuel := fuel) (o := o) (py := p) (spos := p3) c q1 q2 (swC_ok hk) (okI c hN (ScR.refl _) tg src _ h4) b' (fun s' H C cl' fp => okG (c.blk s' H scope _ fp) hN (ScR.blk scope X.env) (fun h => by cases h) g _ h5) (fun s' H C cl' fp => okTs (c.blk s' H scope _ fp) hN (ScR.blk scope X.env) tt _ h6)
          (fun s' H C cl' fp => okE (c.blk s' H scope _ fp) hN (ScR.blk scope X.env) r _ h7) h2 (by rw [slots_snd]; exact h3) (pos := p2)
        rw [slots_snd] at q
        exact q
      · cases h
    · cases h
  | .par is rs, st, h => by
    simp only [chkS] at h
    split at h
    · simp only [Bool.and_eq_true, beq_iff_eq] at h
      obtain ⟨h, h0⟩ := h
      split at h
      · simp only [Bool.and_eq_true, decide_eq_true_eq] at h
        obtain ⟨⟨⟨⟨h1, h2⟩, h3⟩, h4⟩, h5⟩ := h
        obtain ⟨q1, q2⟩ := nmB_loc hN h1
        obtain ⟨q3, q4⟩ := nmB_loc hN h2
        exact snd_par2 c q1 q3 h3 q2 q4 (swP_ok hk h0) h4 (okRs c hN (ScR.refl _) rs _ h5)
      · cases h
    · simp only [Bool.and_eq_true, beq_iff_eq] at h
      obtain ⟨h, h0⟩ := h
      split at h
      · simp only [Bool.and_eq_true, decide_eq_true_eq] at h
        obtain ⟨⟨⟨⟨⟨⟨⟨h1, h2⟩, h3⟩, h4⟩, h5⟩, h6⟩, h7⟩, h8⟩ := h
        obtain ⟨q1, q2⟩ := nmB_loc hN h1
        obtain ⟨q3, q4⟩ := nmB_loc hN h2
        obtain ⟨q5, q6⟩ := nmB_loc hN h3
        exact snd_par3 c q1 q3 q5 h4 h5 h6 q2 q4 q6 (swP_ok hk h0) h7 (okRs c hN (ScR.refl _) rs _ h8)
      · cases h
    · cases h
  | .asg g m, st, h => by
    simp only [chkS] at h
    split at h
    · simp only [Bool.and_eq_true, Bool.not_eq_true'] at h
      obtain ⟨⟨⟨⟨h1, h2⟩, h3⟩, h4⟩, h5⟩ := h
      exact snd_asg (okE c hN (ScR.refl _) m _ h5) (okG c hN (ScR.refl _) (fun _ x z => ⟨fc x z, z⟩) g _ h4) (sw_tg h1) (swT_ok hk h2) h3
    · cases h
  | .aug i op m, st, h => by
    simp only [chkS] at h
    split at h
    · simp only [Bool.and_eq_true, Bool.or_eq_true, decide_eq_true_eq] at h
      obtain ⟨⟨⟨h1, rfl⟩, h3⟩, h4⟩ := h
      obtain ⟨q1, q2, q3⟩ := nmB_ok hN (fun _ => fc) h1
      exact snd_aug c q1 q2 q3 h3 (okE c hN (ScR.refl _) m _ h4)
    · cases h
  | .freeze _, st, h => by simp [chkS] at h
  | .append i m, st, h => by
    simp only [chkS] at h
    split at h
    · simp only [Bool.and_eq_true, decide_eq_true_eq] at h
      obtain ⟨⟨⟨⟨⟨⟨⟨rfl, h1⟩, h2⟩, h3⟩, h4⟩, h5⟩, h6⟩, h7⟩ := h
      exact snd_append (hN ▸ h1) (visB_ok (ScR.refl _) h2) (nodbg_ok h3) (nocls_ok h4) h5 h6 (okE c hN (ScR.refl _) m _ h7)
    · cases h
  | .expr m, st, h => by
    simp only [chkS] at h
    split at h
    · simp only [Bool.and_eq_true] at h
      exact snd_expr h.1 (okE c hN (ScR.refl _) m _ h.2)
    · cases h
  | .ret m, st, h => by
    simp only [chkS] at h
    split at h
    · exact snd_ret (okE c hN (ScR.refl _) m _ h)
    · cases h
  | .retN, st, h => by
    simp only [chkS] at h
    split at h
    · exact snd_retN
    · cases h
  | .ife t a b, st, h => by
    simp only [chkS] at h
    split at h
    · simp only [Bool.and_eq_true] at h
      exact snd_if (okT c hN (ScR.refl _) t _ h.1.1).1 (okSs c hN hk fc a _ h.1.2) (okSs c hN hk fc b _ h.2)
    · cases h
  | .forr g src b, st, h => by
    simp only [chkS] at h
    split at h
    · simp only [Bool.and_eq_true] at h
      obtain ⟨⟨⟨h1, h2⟩, h3⟩, h4⟩ := h
      exact snd_for c (okI c hN (ScR.refl _) _ src _ h2) (okG c hN (ScR.refl _) (fun _ x z => ⟨fc x z, z⟩) g _ h3) (okSs c hN hk fc b _ h4) h1
    · cases h
  | .whil t b, st, h => by
    simp only [chkS] at h
    split at h
    · simp only [Bool.and_eq_true] at h
      exact snd_while c (okT c hN (ScR.refl _) t _ h.1).1 (okSs c hN hk fc b _ h.2)
    · cases h
  | .brk, st, h => by
    simp only [chkS] at h
    split at h
    · exact snd_brk
    · cases h
  | .cont, st, h => by
    simp only [chkS] at h
    split at h
    · exact snd_cont
    · cases h
  | .pass, st, h => by
    simp only [chkS] at h
    split at h
    · exact snd_pass
    · cases h
  | .never, st, h => snd_never
theorem okSs {X : Cx} (c : Cxt T.nm T.P cl gl X) (hN : X.N = T.N) (hk : X.env.scope.kind = .function) (fc : ∀ x, X.env.scope.names.lookup x = some .cell → X.fn x = true) : ∀ (m : List MS) (e : List Stmt), chkSs T X.env.scope m e = true → PSs X e (tSb cl gl fuel X.K m)
  | [], ss, h => by
    simp only [chkSs, List.isEmpty_iff] at h
    subst h; exact snd_bnil
  | m :: ms, ss, h => by
    simp only [chkSs] at h
    rcases frz_ok h with ⟨h1, h2⟩ | ⟨_, h2⟩
    · exact snd_bfrz' h1 (okSs c hN hk fc ms _ h2)
    · split at h2
      · simp only [Bool.and_eq_true] at h2
        exact snd_bcons (okS c hN hk fc m _ h2.1) (okSs c hN hk fc ms _ h2.2)
      · cases h2
end
end
end Mn
/-! the defs of a program keep the interpreter's promise -/
namespace Mn
open PySem PySem.Spec PyProof.Rows L2 RZ
def plainB (a : Arguments) (ps : List Str) : Bool :=
  a.posonlyargs.isEmpty && decide (a.args.map (·.arg) = ps) && a.vararg.isNone && a.kwonlyargs.isEmpty && a.kw_defaults.isEmpty && a.kwarg.isNone && a.defaults.isEmpty
theorem plainB_ok {a : Arguments} {ps : List Str} (h : plainB a ps = true) : PlainP a ps := by
  unfold plainB at h
  simp only [Bool.and_eq_true, List.isEmpty_iff, decide_eq_true_eq, Option.isNone_iff_eq_none] at h
  obtain ⟨⟨⟨⟨⟨⟨h1, h2⟩, h3⟩, h4⟩, h5⟩, h6⟩, h7⟩ := h
  exact ⟨h1, h2, h3, h4, h5, h6, h7⟩
def fnB (N P : List Str) (sc : Scope) : Bool :=
  decide (sc.kind = .function) && !sc.isCoroutine && !sc.isGenerator && decide N.Nodup && decide (N.take P.length = P) && P.all (fun x => locB true sc x) && sc.names.all (fun y => match y.2 with | .free => false | _ => true)
theorem fnB_ok {N P : List Str} {sc : Scope} (h : fnB N P sc = true) : FnScope N P sc := by
  unfold fnB at h
  simp only [Bool.and_eq_true, Bool.not_eq_true', decide_eq_true_eq, List.all_eq_true] at h
  obtain ⟨⟨⟨⟨⟨⟨h1, h2⟩, h3⟩, h4⟩, h5⟩, h6⟩, h7⟩ := h
  refine ⟨h1, h2, h3, h4, h5, fun x hx => ?_, fun y hy e => ?_⟩
  · have q := h6 x hx
    unfold locB at q
    split at q
    · exact .inl (by assumption)
    · exact .inr (by assumption)
    · cases q
  · have q := h7 y hy
    rw [e] at q
    cases q
/-- a def's text and the interpreter's -/
def chkF (nm : Nat → Str) (P : List (Nat × MF)) (m : MF) (params : Arguments) (body : List Stmt) (scope : Scope) : Bool :=
  plainB params (m.names.take m.ps) && fnB m.names (m.names.take m.ps) scope && decide (m.ps ≤ m.names.length) && chkSs ⟨nm, P, m.names⟩ scope m.body body
/-- what stands behind the head -/
structure Mod (nm : Nat → Str) (P : List (Nat × MF)) (gl : Nat → Option D) (K : PySem.W.Frag) (mg : Str → Option Value) : Prop where
  bi : ∀ c, mg (nBi c) = none
  zip : mg "zip" = none
  enu : mg "enumerate" = none
  bty : ∀ T ∈ (["bool", "dict"] : List String), mg (Str.ofString T) = none
  df : ∀ f m, P.lookup f = some m → ∃ qual params body scope fa fd, mg (nm f) = some (.ref fa) ∧ FunD K (nm f) qual params body scope [] [] fa fd ∧ chkF nm P m params body scope = true
  gb : ∀ x d, gl x = some d → ∃ v u, mg (nm x) = some u ∧ RelV v u ∧ ∀ F R, Rep K F R v d
theorem rep_start {K : PySem.W.Frag} {F H : Hp} {R : List Addr} {vs : List V} {ds : List D} (r : RepAll K F R vs ds) (n : Nat) :
    RelF K F R H (vs.map some ++ List.replicate n none) (ds.map (fun d => some (.val d)) ++ List.replicate n none) := by
  have no : ∀ (i : Nat) (sv : SV), (ds.map (fun d => some (SV.val d)) ++ List.replicate n none)[i]? = some (some sv) → ∃ d, sv = .val d ∧ ds[i]? = some d := by
    intro i sv h
    by_cases hi : i < ds.length
    · rw [List.getElem?_append_left (by simpa using hi)] at h
      rw [List.getElem?_map] at h
      cases e : ds[i]? with
      | none => rw [e] at h; cases h
      | some d => rw [e] at h; cases h; exact ⟨d, rfl, rfl⟩
    · rw [List.getElem?_append_right (by simp; omega), List.getElem?_replicate] at h
      split at h <;> cases h
  refine ⟨by simp [r.length], fun i sv h => ?_, fun i j a h _ => ?_⟩
  · obtain ⟨d, rfl, hd⟩ := no i sv h
    obtain ⟨v, h1, h2⟩ := r.get hd
    refine ⟨v, ?_, h2⟩
    have hi : i < vs.length := (List.getElem?_eq_some_iff.mp h1).1
    rw [List.getElem?_append_left (by simpa using hi), List.getElem?_map, h1]; rfl
  · obtain ⟨sv, h1, h2, _⟩ := h
    obtain ⟨d, rfl, _⟩ := no i sv h1
    cases h2
theorem no_own {vs : List V} {ds : List D} {n : Nat} {i : Nat} {a : Addr} (h : OwnAt (vs.map some ++ List.replicate n none) (ds.map (fun d => some (.val d)) ++ List.replicate n none) i a) : False := by
  obtain ⟨sv, h1, h2, _⟩ := h
  by_cases hi : i < ds.length
  · rw [List.getElem?_append_left (by simpa using hi), List.getElem?_map] at h1
    cases e : ds[i]? with
    | none => rw [e] at h1; cases h1
    | some d => rw [e] at h1; cases h1; cases h2
  · rw [List.getElem?_append_right (by simp; omega), List.getElem?_replicate] at h1
    split at h1 <;> cases h1
section
variable {nm : Nat → Str} {P : List (Nat × MF)} {gl : Nat → Option D} {K : PySem.W.Frag} {mg : Str → Option Value} {pr : Program} {w : World} {base : Heap}
theorem fn_fx {m : MF} {f : Nat} {qual : Str} {params : Arguments} {body : List Stmt} {scope : Scope} {fa : Addr} {fd : FuncData} (h2 : FunD K (nm f) qual params body scope [] [] fa fd) (h3 : chkF nm P m params body scope = true) :
    PlainP fd.params (m.names.take m.ps) ∧ fd.defaults = .none ∧ (m.names.take m.ps).Nodup := by
  unfold chkF at h3
  simp only [Bool.and_eq_true, decide_eq_true_eq] at h3
  obtain ⟨⟨⟨c1, c2⟩, c3⟩, c4⟩ := h3
  have S := fnB_ok c2
  have nd : (m.names.take m.ps).Nodup := S.nd.sublist (List.take_sublist _ _)
  obtain ⟨oc, od, dV, kV, doc, pm, an, cdv, ct, osl, e, _, _, dv, _⟩ := h2.ex
  subst e
  refine ⟨plainB_ok c1, ?_, nd⟩
  rcases dv with ⟨_, q⟩ | ⟨q, _⟩
  · exact q
  · exact (q rfl).elim
def FnsAt (nm : Nat → Str) (P : List (Nat × MF)) (gl : Nat → Option D) (K : PySem.W.Frag) (mg : Str → Option Value) (pr : Program) (w : World) (base : Heap) (fuel k : Nat) : Prop :=
  ∀ (f : Nat) (m : MF), P.lookup f = some m → ∃ fa fd, mg (nm f) = some (.ref fa) ∧ PySem.W.keepIn K (.ref fa) = true ∧ PlainP fd.params (m.names.take m.ps) ∧ fd.defaults = .none ∧ (m.names.take m.ps).Nodup ∧
    FnG pr w K mg base k fa fd (m.names.take m.ps) (spF K (callN P gl fuel k) f)
theorem fn_zero {fuel : Nat} {f : Nat} {m : MF} {fa : Addr} {fd : FuncData} : FnG pr w K mg base 0 fa fd (m.names.take m.ps) (spF K (callN P gl fuel 0) f) := by
  refine ⟨fun vs H Q h => ?_, fun A outer s H args us vs Q hr e0 hb r h => ?_⟩ <;>
  · obtain ⟨F, R, S, ds, d, S', _, _, h, _⟩ := h
    cases h
theorem fn_step {fuel k : Nat} (M : Mod nm P gl K mg) (ih : FnsAt nm P gl K mg pr w base fuel k) {f : Nat} {m : MF} (hf : P.lookup f = some m) {qual : Str} {params : Arguments} {body : List Stmt} {scope : Scope} {fa : Addr} {fd : FuncData} (h2 : FunD K (nm f) qual params body scope [] [] fa fd)
    (h3 : chkF nm P m params body scope = true) : FnG pr w K mg base (k + 1) fa fd (m.names.take m.ps) (spF K (callN P gl fuel (k + 1)) f) := by
  unfold chkF at h3
  simp only [Bool.and_eq_true, decide_eq_true_eq] at h3
  obtain ⟨⟨⟨c1, c2⟩, c3⟩, c4⟩ := h3
  have S := fnB_ok c2
  have len : ∀ vs H Q, spF K (callN P gl fuel (k + 1)) f vs H Q → vs.length = (m.names.take m.ps).length := fun vs H Q h => by
    obtain ⟨F, R, S, ds, d, S', rs, ra, h, _⟩ := h
    simp only [callN, hf] at h
    split at h
    · rename_i hl
      rw [ra.length, hl, List.length_take]; omega
    · cases h
  refine FnG.of h2 S len fun cdv A outer s H vs Q hr h => ?_
  refine ⟨tSb (callN P gl fuel k) gl fuel K m.body, ?_, ?_⟩
  · refine okSs (T := ⟨nm, P, m.names⟩) (X := (cxOf CX0 pr w K mg base m.names qual scope fa cdv A outer s H E0).nox) ⟨⟨rfl, ?_, hr.gd⟩, S.nd, M.bi, M.zip, M.enu, M.bty, ?_, M.gb, PassesOwn.never⟩ rfl S.kind (fun _ _ => rfl) m.body body c4
    · have := hr.rm.un
      show (A.deeper _).units + 65 < cLine
      omega
    · intro f' m' hf'
      obtain ⟨fa', fd', g1, g2, g3, g4, g5, g6⟩ := ih f' m' hf'
      exact ⟨k, fa', fd', g1, g2, g3, g4, g5, hr, g6⟩
  · obtain ⟨F, R, S, ds, d, S', rs, ra, h, kk⟩ := h
    simp only [callN, hf] at h
    split at h
    · rename_i hl
      obtain ⟨fl, S1, e1, h⟩ := bind_ok h
      have hv : vs.length = m.ps := by rw [ra.length, hl]
      refine ⟨F, R, H, F, R, ds.map (fun d => some (.val d)) ++ List.replicate (m.names.length - m.ps) none, S, fl, S1, ⟨rs, ?_, .refl, ?_⟩, e1, ?_⟩
      · unfold L2.start
        rw [hv]
        exact rep_start ra _
      · intro i a q
        unfold L2.start at q
        rw [hv] at q
        exact (no_own q).elim
      · cases fl with
        | next fr => cases h; exact fun F' R' H' σ' md => kk F' R' H' .non md.n md.s .non
        | ret d' => cases h; exact fun F' R' H' v n r q => kk F' R' H' v n r q
        | brk _ => cases h
        | cont _ => cases h
    · cases h
theorem all_fns (fuel : Nat) (M : Mod nm P gl K mg) : ∀ k : Nat, FnsAt nm P gl K mg pr w base fuel k
  | 0, f, m, hf => by
    obtain ⟨qual, params, body, scope, fa, fd, h1, h2, h3⟩ := M.df f m hf
    obtain ⟨q1, q2, q3⟩ := fn_fx h2 h3
    exact ⟨fa, fd, h1, h2.kp, q1, q2, q3, fn_zero⟩
  | k + 1, f, m, hf => by
    obtain ⟨qual, params, body, scope, fa, fd, h1, h2, h3⟩ := M.df f m hf
    obtain ⟨q1, q2, q3⟩ := fn_fx h2 h3
    exact ⟨fa, fd, h1, h2.kp, q1, q2, q3, fn_step M (all_fns fuel M k) hf h2 h3⟩
end
end Mn
/-! from the interpreter to the law -/
namespace Mn
open PySem PySem.Spec PyProof.Rows L2 RZ
/-- the heap ahead of the call: at most the script is watched -/
theorem call_core {P : Program} {w : World} {K : PySem.W.Frag} {mg mb : Str → Option Value} {k : Nat} {fa a : Addr} {fd : FuncData} {x : Str} {sp : Sq} {t : Shared} {us : List Value} {H : Hp}
    (kin : K.In t.heap) (gns : t.heap.Ns mainGlobals mg) (bns : t.heap.Ns builtinsNs mb) (boot : ∀ y : Str, y ≠ "__name__" → mb y = bootBuiltins y) (lim : t.heap.NoLimit) (gen : t.gens = #[])
    (at_ : t.heap.get? a = some { cls := .type "list", data := .seq us.toArray }) (room : Room k callerA)
    (keeps : ∀ base : Heap, K.In base → base.Ns mainGlobals mg → FnG P w K mg base k fa fd [x] sp) (bind : ∀ (s : Shared) (u : Value), BindsTo s fd ⟨[u], []⟩ [(x, u)])
    (only : Only H) (hsp : sp [.ref a] H (fun v _ => v = .bl true)) (hok : HOk P w H t.heap) (one : ∀ b, H b ≠ none → b = a) (out : H a ≠ none → K.lookup a = none) :
    codeAny (model P w) callerA (.call (.ref fa) ⟨[.ref a], []⟩) (fun r t' => r = .ok (.ret (.bool true)) ∧ OldK t.heap t'.heap ∧ t'.os = t.os ∧ AllBare t'.gens) t := by
  have other : ∀ {b : Addr} {o : Obj}, t.heap.get? b = some o → b ≠ a → (hidT t.heap H).get? b = some o := fun {b o} e ne => by
    refine hidT_get e ?_
    cases q : H b with
    | none => rfl
    | some u => exact (ne (one b (by rw [q]; exact fun z => by cases z))).elim
  have space : ∀ {b : Addr} {m : Str → Option Value}, t.heap.Ns b m → (hidT t.heap H).Ns b m := fun {b m} h => by
    obtain ⟨o, es, ep, e, d, r⟩ := h
    refine ⟨o, es, ep, other e fun z => ?_, d, r⟩
    subst z
    have z := at_.symm.trans e
    cases z
    cases d
  have kbase : K.In (hidT t.heap H) := fun b o e => by
    by_cases z : b = a
    · subst z
      cases q : H b with
      | none => exact hidT_get (kin b o e) q
      | some u =>
        have := out (by rw [q]; exact fun z => by cases z)
        rw [this] at e; cases e
    · exact other (kin b o e) z
  have md : L2.Mod K mg (hidT t.heap H) := ⟨kbase, space gns, ⟨mb, space bns, boot⟩, by obtain ⟨mc, l1, l2⟩ := lim; exact ⟨mc, space l1, l2⟩⟩
  have en : Env0 P w K mg (hidT t.heap H) callerA [] t H := ⟨rfl, md, fun b o e => of_hidT e, Nat.le_of_eq (hidT_size _ _), trivial, (fun b hb => by cases hb), hok, AllBare.of_eq gen⟩
  refine codeAny_mono ((keeps _ kbase (space gns)).run callerA [] t H ⟨[.ref a], []⟩ [.ref a] [.ref a] _ ⟨room, rfl⟩ en (bind t (.ref a)) (.cons rfl .nil) hsp) fun r t' h => ?_
  match r, h with
  | .ok (.ret u), h =>
    obtain ⟨v, H', os, bare, un, hok', rv, (rfl : v = .bl true)⟩ := h
    obtain rfl : u = Value.bool true := rv
    refine ⟨rfl, OldK.of_keep fun b o e => ?_, os, bare⟩
    rcases only b with z | ⟨ob, zs, z⟩
    · exact un.keep b o e z (fun m => by cases m) (fun m => by cases m)
    · have e1 := (hok b _ z).1
      have e2 := (hok' b _ (un.frzs b ob _ z)).1
      exact e2.trans (e1.symm.trans e)
  | .ok .next, h => exact h.elim
  | .ok .brk, h => exact h.elim
  | .ok .cont, h => exact h.elim
  | .error e, h => exact absurd h fun z => z
theorem call_law {P : Program} {w : World} {K : PySem.W.Frag} {mg mb : Str → Option Value} {k : Nat} {fa a : Addr} {fd : FuncData} {x : Str} {sp : Sq} {t : Shared} {us : List Value} {js : List Int}
    (kin : K.In t.heap) (gns : t.heap.Ns mainGlobals mg) (bns : t.heap.Ns builtinsNs mb) (boot : ∀ y : Str, y ≠ "__name__" → mb y = bootBuiltins y) (lim : t.heap.NoLimit) (gen : t.gens = #[])
    (at_ : t.heap.get? a = some { cls := .type "list", data := .seq us.toArray }) (nums : IntsAre us js) (len : js.length ≤ sizeLine) (room : Room k callerA)
    (keeps : ∀ base : Heap, K.In base → base.Ns mainGlobals mg → FnG P w K mg base k fa fd [x] sp) (bind : ∀ (s : Shared) (u : Value), BindsTo s fd ⟨[u], []⟩ [(x, u)])
    (hsp : ∀ H : Hp, SqL K H a (js.map V.int) → sp [.ref a] H (fun v _ => v = .bl true)) :
    codeAny (model P w) callerA (.call (.ref fa) ⟨[.ref a], []⟩) (fun r t' => r = .ok (.ret (.bool true)) ∧ OldK t.heap t'.heap ∧ t'.os = t.os ∧ AllBare t'.gens) t := by
  have vs := vals_ints nums
  have ln : js.length = us.length := nums.length.symm
  by_cases own : K.lookup a = none
  · let H : Hp := fun b => if b = a then some (.frz { cls := .type "list", data := .seq us.toArray } (.lst (js.map V.int))) else none
    have hA : H a = some (.frz { cls := .type "list", data := .seq us.toArray } (.lst (js.map V.int))) := if_pos rfl
    have hN : ∀ b, b ≠ a → H b = none := fun b z => if_neg z
    refine call_core (H := H) kin gns bns boot lim gen at_ room keeps bind (fun b => ?_) (hsp H (.inl (.inr ⟨_, hA⟩))) (fun b u z => ?_) (fun b z => ?_) fun _ => own
    · by_cases e : b = a
      · subst e; exact .inr ⟨_, _, hA⟩
      · exact .inl (hN b e)
    · by_cases e : b = a
      · subst e
        rw [hA] at z
        cases z
        exact ⟨at_, by rw [List.length_map]; exact len, us, _, vs, at_⟩
      · rw [hN b e] at z; cases z
    · by_cases e : b = a
      · exact e
      · exact (z (hN b e)).elim
  · obtain ⟨o, ho⟩ := Option.ne_none_iff_exists'.mp own
    have e := kin a o ho
    rw [at_] at e
    cases e
    refine call_core (H := fun _ => none) kin gns bns boot lim gen at_ room keeps bind (fun _ => .inl rfl) (hsp _ (.inr ⟨_, us.toArray, _, ho, rfl, rfl, rfl, ?_, ?_⟩)) (fun b u z => by cases z) (fun b z => (z rfl).elim) fun z => (z rfl).elim
    · simpa [← ln] using len
    · simpa using vs
/-- the law's end: what the interpreter says of the law is what the law wants -/
theorem walk_law {l : PySem.W.OpenLaw} {n k : Nat} {q : Program} {loose : List Str} {XP : (Str → Option Value) → Heap → Prop} {YP : World → Heap → Prop} {d : DefRec} {x : Str}
    (hn : l.most = some n) (hn2 : n ≤ sizeLine) (hdf : d.params.defaults = []) (hr : Room k callerA)
    (F : ∀ (w : World) (mg : Str → Option Value) (fa : Addr) (h : Heap), YP w h → h.Ns mainGlobals mg → mg d.name = some (.ref fa) →
      ∃ (K : PySem.W.Frag) (fd : FuncData) (sp : Sq), K.In h ∧ (∀ (s : Shared) (u : Value), BindsTo s fd ⟨[u], []⟩ [(x, u)]) ∧
        (∀ (H : Hp) (a : Addr) (js : List Int), js.length ≤ n → SqL K H a (js.map V.int) → sp [.ref a] H (fun v _ => v = .bl true)) ∧
        ∀ base : Heap, K.In base → base.Ns mainGlobals mg → FnG l.prog w K mg base k fa fd [x] sp) :
    PySem.W.WalkO q loose XP YP l.row.toRowW d [] (fun f vs => PySem.call f vs) := by
  refine Att.attach_call hn hdf fun w t₀ t mg mb fa o pm cd doc a us js G Y ho hd hcd hmg hobj nums len gen => ?_
  obtain ⟨K, fd, sp, kin, bind, hsp, keeps⟩ := F w mg fa _ Y G.T.g hmg
  exact call_law kin G.T.g G.T.b G.T.builtins G.T.nolimit gen hobj nums (Nat.le_trans len hn2) hr keeps bind fun H hS => hsp H a js len hS
/-! ### the module behind the top, as data -/
def allBi : List Bi := [.len, .abs, .int, .str, .repr, .all, .any, .sum, .max, .min, .tuple, .list, .divmod, .sorted, .isinst, .range]
def freeL : List Str := allBi.map nBi ++ [Str.ofString "zip", Str.ofString "enumerate", Str.ofString "bool", Str.ofString "dict"]
def faC (x : Str) : D → He.Fa
  | .int i => .int x i
  | .str z => .str x z
  | _ => .glo x
def cstOk : D → Bool
  | .int _ => true
  | .str _ => true
  | _ => false
section
variable (nm : Nat → Str) (P : List (Nat × MF)) (src : Nat → Stmt) (cs : List (Nat × D))
def fas : List He.Fa := P.map (fun p => .glo (nm p.1)) ++ (freeL.map .free ++ cs.map fun c => faC (nm c.1) c.2)
def fns : List He.DefD := P.map fun p => ⟨(nm p.1, none), nm p.1, nm p.1, defArgs (src p.1), defBody (src p.1), defScope (src p.1), [], []⟩
def glC (x : Nat) : Option D := cs.lookup x
def chkAll : Bool := P.all (fun p => chkF nm P p.2 (defArgs (src p.1)) (defBody (src p.1)) (defScope (src p.1))) && cs.all fun c => cstOk c.2
end
theorem lookup_at {α : Type} : ∀ {l : List (Nat × α)} {f : Nat} {m : α}, l.lookup f = some m → ∃ j : Nat, l[j]? = some (f, m)
  | [], _, _, h => by cases h
  | (k, v) :: l, f, m, h => by
    rw [List.lookup_cons] at h
    by_cases e : f = k
    · subst e
      rw [beq_self_eq_true] at h
      cases h
      exact ⟨0, rfl⟩
    · have e' : (f == k) = false := beq_eq_false_iff_ne.mpr e
      rw [e'] at h
      obtain ⟨j, hj⟩ := lookup_at h
      exact ⟨j + 1, hj⟩
theorem mod_of {nm : Nat → Str} {P : List (Nat × MF)} {src : Nat → Stmt} {cs : List (Nat × D)} {K : PySem.W.Frag} {h : Heap} {mg : Str → Option Value} (X : K.In h) (G : h.Ns mainGlobals mg) (c : He.SaysD (fas nm P cs) (fns nm P src) K) (ck : chkAll nm P src cs = true) : Mod nm P (glC cs) K mg := by
  have fr : ∀ x ∈ freeL, mg x = none := fun x hx => by
    obtain ⟨j, hj⟩ := List.getElem?_of_mem hx
    have hl : j < freeL.length := (List.getElem?_eq_some_iff.mp hj).1
    refine He.free_ok X G (c.fact (P.length + j) (f := .free x) ?_)
    unfold fas
    rw [List.getElem?_append_right (by simp), List.getElem?_append_left (by simpa using by omega)]
    simp [hj]
  unfold chkAll at ck
  rw [Bool.and_eq_true, List.all_eq_true, List.all_eq_true] at ck
  refine ⟨fun b => fr _ ?_, fr _ ?_, fr _ ?_, fun T hT => fr _ ?_, fun f m hf => ?_, fun x d hx => ?_⟩
  · unfold freeL
    refine List.mem_append_left _ (List.mem_map_of_mem ?_)
    cases b <;> decide
  · unfold freeL; exact List.mem_append_right _ (by simp)
  · unfold freeL; exact List.mem_append_right _ (by simp)
  · unfold freeL
    refine List.mem_append_right _ ?_
    rcases List.mem_cons.mp hT with e | hT
    · subst e; simp
    · rcases List.mem_cons.mp hT with e | hT
      · subst e; simp
      · cases hT
  · obtain ⟨j, hj⟩ := lookup_at hf
    have hl : j < P.length := (List.getElem?_eq_some_iff.mp hj).1
    obtain ⟨fd, F⟩ := c.def_ j (d := ⟨(nm f, none), nm f, nm f, defArgs (src f), defBody (src f), defScope (src f), [], []⟩) (by unfold fns; rw [List.getElem?_map, hj]; rfl)
    have g := He.glo_ok X G (c.fact j (f := .glo (nm f)) (by unfold fas; rw [List.getElem?_append_left (by simpa using hl), List.getElem?_map, hj]; rfl))
    exact ⟨nm f, defArgs (src f), defBody (src f), defScope (src f), _, fd, g, F, ck.1 _ (List.mem_of_getElem? hj)⟩
  · unfold glC at hx
    obtain ⟨j, hj⟩ := lookup_at hx
    have ok := ck.2 _ (List.mem_of_getElem? hj)
    have fact := c.fact (P.length + (freeL.length + j)) (f := faC (nm x) d) (by
      unfold fas
      rw [List.getElem?_append_right (by simp), List.getElem?_append_right (by simp)]
      simp [hj])
    cases d with
    | int i =>
      obtain ⟨t, e⟩ := He.int_ok X G fact
      exact ⟨.int i, _, e, ⟨t, rfl⟩, fun F R => .int i⟩
    | str z =>
      obtain ⟨t, e⟩ := He.str_ok X G fact
      exact ⟨.str z, _, e, ⟨t, rfl⟩, fun F R => .str z⟩
    | _ => simp [cstOk] at ok
/-- the law's end, over the interpreter's texts -/
theorem law_by {l : PySem.W.OpenLaw} {n : Nat} {q : Program} {loose : List Str} {XP : (Str → Option Value) → Heap → Prop} {d : DefRec} {nm : Nat → Str} {P : List (Nat × MF)} {src : Nat → Stmt} {cs : List (Nat × D)} (hp : Nat) (fuel k f : Nat) (m : MF) (x : Str)
    (hn : l.most = some n) (hn2 : n ≤ sizeLine) (hdf : d.params.defaults = []) (hr : Room (k + 1) callerA) (hd : d.name = nm f) (hf : P.lookup f = some m) (hm : m.names.take m.ps = [x])
    (ck : chkAll nm P src cs = true) (run : ∀ js : List Int, js.length ≤ n → ∃ S, callN P (glC cs) fuel (k + 1) f [.scr js] [] = .ok (.bl true) S) :
    PySem.W.WalkO q loose XP (He.hookD hp (fas nm P cs) (fns nm P src)).says l.row.toRowW d [] (fun f vs => PySem.call f vs) := by
  refine walk_law (x := x) hn hn2 hdf hr fun w mg fa h Y G hmg => ?_
  obtain ⟨K, KX, c⟩ := Y
  have M := mod_of KX G c ck
  obtain ⟨j, hj⟩ := lookup_at hf
  obtain ⟨qual, params, body, scope, fa', fd, h1, h2, h3⟩ := M.df f m hf
  obtain ⟨q1, q2, q3⟩ := fn_fx h2 h3
  rw [hd, h1] at hmg
  cases hmg
  have key : ∀ base : Heap, FnG l.prog w K mg base (k + 1) fa fd [x] (spF K (callN P (glC cs) fuel (k + 1)) f) := fun base => by
    have z := fn_step (pr := l.prog) (w := w) (base := base) M (all_fns fuel M k) hf h2 h3
    rw [hm] at z
    exact z
  rw [hm] at q1 q3
  refine ⟨K, fd, spF K (callN P (glC cs) fuel (k + 1)) f, KX, fun s u => .of_eq (bind_plain q1 q2 q3 [u] rfl), fun H a js len hS => ?_, fun base _ _ => key base⟩
  obtain ⟨S', e⟩ := run js len
  refine ⟨H, [], [], [.scr js], .bl true, S', ⟨Same.refl _, rfl, List.nodup_nil, (fun a h => nomatch h), fun n a o h => nomatch h⟩, .cons (.scr hS) .nil, e, fun F' R' H' v _ _ r => ?_⟩
  cases r
  rfl
end Mn
namespace Mn
open PySem PySem.Spec PyProof.Rows L2 RZ
def m_count : MF := ⟨["data", "low", "high"], 3, [.expr (.call 8 [.var 0]), .expr (.call 9 [.var 1, .var 2]), .ret (.call 19 [.var 0, .var 1, .var 2])]⟩
def m_total : MF := ⟨["data", "low", "high", "triple", "top", "bottom"], 3, [.expr (.call 8 [.var 0]), .expr (.call 9 [.var 1, .var 2]), .asg (.tup [.name 4, .name 5]) (.tup [.cst (.int 0), .cst (.int 1)]), .forr (.name 3) (.tup (.var 0)) [.ife (.tru (.call 10 [.var 3, .var 1, .var 2])) [.asg (.tup [.name 4, .name 5]) (.call 11 [.bin .Add (.bin .Mult (.var 4) (.sub (.var 3) (.cst (.int 1)))) (.bin .Mult (.bin .Mult (.sub (.var 3) (.cst (.int 0))) (.sub (.var 3) (.cst (.int 2)))) (.var 5)), .bin .Mult (.var 5) (.sub (.var 3) (.cst (.int 1)))])] []], .ret (.tup [.var 4, .var 5])]⟩
def m__law_right : MF := ⟨["_law_source_here", "_law_facts", "_law_lap", "_law_some", "_law_asked", "_law_inner", "_law_due", "_law_lower", "_law_upper", "_law_one"], 1, [.par [3, 4] [.val (.call 4 [.var 0]), .lst []], .set 1 (.val (.blt .tuple [.var 3])), .forr (.name 2) (.rng1 (.cst (.int 6))) [.asg (.tup [.name 7, .name 8]) (.call 5 [.var 0, .var 3]), .setLc 5 false (.lc [9] (.name 9) (.lst (.var 3)) [.tru (.call 6 [.var 9, .var 7, .var 8])] (.var 9)), .set 6 (.val (.lst [.blt .sum [.lc [9] (.name 9) (.lst (.var 5)) [] (.sub (.var 9) (.cst (.int 2)))], .call 7 [.var 5]])), .ife (.cmp .NotEq (.blt .repr [.lst [.call 0 [.var 1, .var 7, .var 8], .call 1 [.var 1, .var 7, .var 8]]]) (.blt .repr [.var 6])) [.ret (.cst (.bl false))] [], .ife (.cmp .NotEq (.blt .repr [.lst [.callK 0 [] [1, 2, 0] [.var 8, .var 1, .var 7], .callK 1 [] [2, 0, 1] [.var 7, .var 8, .var 1]]]) (.blt .repr [.var 6])) [.ret (.cst (.bl false))] [], .append 4 (.lst [.var 7, .var 8, .var 6])], .freeze 4, .forr (.tup [.name 7, .name 8, .name 6]) (.lst (.rev (.var 4))) [.ife (.cmp .NotEq (.blt .repr [.lst [.call 0 [.var 1, .var 7, .var 8], .call 1 [.var 1, .var 7, .var 8]]]) (.blt .repr [.var 6])) [.ret (.cst (.bl false))] []], .ret (.cmp .Eq (.blt .list [.var 1]) (.var 3))]⟩
def m__law_source : MF := ⟨["_law_script", "_law_turn", "_law_state", "_law_cell", "_law_own"], 2, [.set 2 (.val (.bin .Add (.bin .Mult (.cst (.int 30011)) (.var 1)) (.cst (.int 7)))), .forr (.name 3) (.lst (.sl (.var 0) none (some (.cst (.int 7))))) [.set 2 (.val (.bin .Mod (.blt .int [.bin .Add (.bin .Mult (.var 2) (.cst (.int 69061))) (.var 3)]) (.cst (.int 2147483563))))], .set 4 (.val (.ife (.cmp .Lt (.var 1) (.blt .len [.var 0])) (.sub (.var 0) (.var 1)) (.cst (.int 0)))), .set 2 (.val (.bin .Mod (.blt .int [.bin .Add (.bin .Add (.bin .Mult (.var 2) (.cst (.int 40009))) (.bin .Mult (.var 4) (.cst (.int 31)))) (.var 1)]) (.cst (.int 2147483563)))), .ret (.ref [.var 2, .ife (.cmp .GtE (.blt .abs [.var 4]) (.bin .Pow (.cst (.int 10)) (.cst (.int 18)))) (.blt .abs [.var 4]) (.cst (.int 0)), .cst (.int 0)])]⟩
def m__law_things : MF := ⟨["_law_source_here", "_law_turn", "_law_found", "_law_base", "_law_bottom", "_law_top", "_law_part", "_law_many"], 1, [.par [2, 3] [.lst [], .val (.cst (.int 0))], .forr (.name 1) (.rng1 (.call 21 [.var 0, .cst (.int 9)])) [.set 3 (.val (.bin .Add (.bin .Add (.var 3) (.call 21 [.var 0, .cst (.int 3)])) (.bin .Mult (.call 22 [.var 0, .lst [.cst (.int 1), .cst (.int 1), .cst (.int 5), .bin .Pow (.cst (.int 10)) (.cst (.int 6)), .bin .Pow (.cst (.int 10)) (.cst (.int 29))]]) (.blt .int [.cmp .Gt (.var 1) (.cst (.int 0))])))), .set 4 (.val (.call 22 [.var 0, .lst [.cst (.int 1), .cst (.int 1), .cst (.int 2), .cst (.int 3), .cst (.int 4), .cst (.int 7), .cst (.int 12), .cst (.int 60)]])), .set 5 (.val (.bin .Add (.bin .Mult (.var 3) (.var 4)) (.call 21 [.var 0, .var 4]))), .set 6 (.val (.call 20 [.var 5, .var 4])), .set 7 (.val (.call 22 [.var 0, .lst [.cst (.int 1), .cst (.int 2), .bin .Add (.cst (.int 1)) (.call 21 [.var 0, .cst (.int 9)]), .bin .Add (.cst (.int 1)) (.call 21 [.var 0, .bin .Pow (.cst (.int 10)) (.cst (.int 6))]), .bin .Pow (.cst (.int 10)) (.cst (.int 30))]])), .append 2 (.tup [.bin .FloorDiv (.var 5) (.var 6), .bin .FloorDiv (.var 4) (.var 6), .var 7])], .freeze 2, .ret (.var 2)]⟩
def m__law_edges : MF := ⟨["_law_source_here", "_law_some", "_law_marks", "_law_one", "_law_lower", "_law_highs", "_law_mark"], 2, [.set 2 (.val (.lst [.cst (.int 0), .cst (.int 1), .bin .Pow (.cst (.int 10)) (.cst (.int 38)), .call 21 [.var 0, .bin .Pow (.cst (.int 10)) (.cst (.int 6))]])), .forr (.name 3) (.lst (.var 1)) [.set 2 (.val (.bin .Add (.var 2) (.lst [.bin .FloorDiv (.sub (.var 3) (.cst (.int 0))) (.sub (.var 3) (.cst (.int 1))), .bin .Add (.bin .FloorDiv (.sub (.var 3) (.cst (.int 0))) (.sub (.var 3) (.cst (.int 1)))) (.cst (.int 1))])))], .set 4 (.val (.call 22 [.var 0, .var 2])), .set 5 (.val (.bin .Add (.lc [6] (.name 6) (.lst (.var 2)) [.cmp .Gt (.var 6) (.var 4)] (.var 6)) (.lst [.bin .Add (.bin .Add (.var 4) (.cst (.int 1))) (.call 21 [.var 0, .cst (.int 9)]), .cst (.str "open")]))), .ret (.tup [.var 4, .call 22 [.var 0, .var 5]])]⟩
def m__law_lies : MF := ⟨["_law_one", "_law_lower", "_law_upper"], 3, [.ret (.and (.cmp .GtE (.sub (.var 0) (.cst (.int 0))) (.bin .Mult (.var 1) (.sub (.var 0) (.cst (.int 1))))) (.or (.cmp .Eq (.var 2) (.cst (.str "open"))) (.cmp .Lt (.sub (.var 0) (.cst (.int 0))) (.bin .Mult (.var 2) (.sub (.var 0) (.cst (.int 1)))))))]⟩
def m__law_sum : MF := ⟨["_law_some", "_law_one", "_law_part", "_law_whole", "_law_top"], 1, [.asg (.tup [.name 3, .name 4]) (.tup [.cst (.int 1), .cst (.int 0)]), .forr (.name 1) (.lst (.var 0)) [.set 3 (.val (.bin .FloorDiv (.bin .Mult (.var 3) (.sub (.var 1) (.cst (.int 1)))) (.call 20 [.var 3, .sub (.var 1) (.cst (.int 1))])))], .forr (.name 1) (.lst (.var 0)) [.set 4 (.val (.bin .Add (.var 4) (.bin .Mult (.bin .Mult (.sub (.var 1) (.cst (.int 0))) (.sub (.var 1) (.cst (.int 2)))) (.bin .FloorDiv (.var 3) (.sub (.var 1) (.cst (.int 1)))))))], .set 2 (.val (.call 20 [.var 4, .var 3])), .ret (.tup [.bin .FloorDiv (.var 4) (.var 2), .bin .FloorDiv (.var 3) (.var 2)])]⟩
def m_check_data : MF := ⟨["value"], 1, [.ife (.or (.not (.tru (.call 16 [.var 0]))) (.cmp .Gt (.blt .len [.var 0]) (.glob 17))) [.never] []]⟩
def m_check_stretch : MF := ⟨["low", "high"], 2, [.ife (.not (.tru (.call 13 [.var 0]))) [.never] [], .ife (.not (.tru (.call 14 [.var 1, .var 0]))) [.never] []]⟩
def m_lies_in : MF := ⟨["triple", "low", "high"], 3, [.ife (.cmp .Lt (.sub (.var 0) (.cst (.int 0))) (.bin .Mult (.var 1) (.sub (.var 0) (.cst (.int 1))))) [.ret (.cst (.bl false))] [], .ret (.or (.cmp .Eq (.var 2) (.glob 12)) (.cmp .Lt (.sub (.var 0) (.cst (.int 0))) (.bin .Mult (.var 2) (.sub (.var 0) (.cst (.int 1))))))]⟩
def m_lowest_terms : MF := ⟨["top", "bottom", "one", "other"], 2, [.par [2, 3] [.val (.blt .abs [.var 0]), .val (.var 1)], .whil (.cmp .Gt (.var 3) (.cst (.int 0))) [.par [2, 3] [.val (.var 3), .val (.bin .Mod (.var 2) (.var 3))]], .ret (.tup [.bin .FloorDiv (.var 0) (.var 2), .bin .FloorDiv (.var 1) (.var 2)])]⟩
def m_is_count : MF := ⟨["value"], 1, [.ret (.and (.call 15 [.var 0]) (.cmp .GtE (.var 0) (.cst (.int 0))))]⟩
def m_is_high : MF := ⟨["value", "low"], 2, [.ife (.tru (.blt .isinst [.var 0, .cst (.ty "str")])) [.ret (.cmp .Eq (.var 0) (.glob 12))] [], .ret (.and (.call 15 [.var 0]) (.cmp .Gt (.var 0) (.var 1)))]⟩
def m_is_integer : MF := ⟨["value"], 1, [.ret (.and (.blt .isinst [.var 0, .cst (.ty "int")]) (.not (.blt .isinst [.var 0, .cst (.ty "bool")])))]⟩
def m_is_data : MF := ⟨["value", "one", "other", "part"], 1, [.ife (.or (.not (.tru (.blt .isinst [.var 0, .cst (.ty "tuple")]))) (.not (.tru (.blt .all [.lc [3] (.name 3) (.tup (.var 0)) [] (.call 18 [.var 3])])))) [.ret (.cst (.bl false))] [], .ret (.blt .all [.lc [1, 2] (.tup [.name 1, .name 2]) (.zip (.var 0) (.sl (.var 0) (some (.cst (.int 1))) none)) [] (.cmp .Lt (.bin .Mult (.sub (.var 1) (.cst (.int 0))) (.sub (.var 2) (.cst (.int 1)))) (.bin .Mult (.sub (.var 2) (.cst (.int 0))) (.sub (.var 1) (.cst (.int 1)))))])]⟩
def m_is_triple : MF := ⟨["value", "part"], 1, [.ife (.or (.not (.tru (.blt .isinst [.var 0, .cst (.ty "tuple")]))) (.or (.cmp .NotEq (.blt .len [.var 0]) (.cst (.int 3))) (.not (.tru (.blt .all [.lc [1] (.name 1) (.tup (.var 0)) [] (.call 15 [.var 1])]))))) [.ret (.cst (.bl false))] [], .ife (.or (.cmp .Lt (.sub (.var 0) (.cst (.int 0))) (.cst (.int 0))) (.or (.cmp .Lt (.sub (.var 0) (.cst (.int 1))) (.cst (.int 1))) (.cmp .Lt (.sub (.var 0) (.cst (.int 2))) (.cst (.int 1))))) [.ret (.cst (.bl false))] [], .ret (.cmp .Eq (.call 11 [.sub (.var 0) (.cst (.int 0)), .sub (.var 0) (.cst (.int 1))]) (.sl (.var 0) none (some (.cst (.int 2)))))]⟩
def m_count_in : MF := ⟨["data", "low", "high", "triple"], 3, [.ret (.blt .sum [.lc [3] (.name 3) (.tup (.var 0)) [.tru (.call 10 [.var 3, .var 1, .var 2])] (.sub (.var 3) (.cst (.int 2)))])]⟩
def m__law_gcd : MF := ⟨["_law_one", "_law_two", "_law_turn"], 2, [.forr (.name 2) (.rng1 (.cst (.int 2000))) [.ife (.cmp .Eq (.var 1) (.cst (.int 0))) [.brk] [], .par [0, 1] [.val (.var 1), .val (.bin .Mod (.blt .int [.var 0]) (.var 1))]], .ret (.var 0)]⟩
def m__law_below : MF := ⟨["_law_source_here", "_law_many", "_law_state", "_law_figure"], 2, [.ife (.cmp .Gt (.sub (.var 0) (.cst (.int 1))) (.cst (.int 0))) [.asg (.tup [.sub (.var 0) (.cst (.int 1)), .name 3]) (.blt .divmod [.sub (.var 0) (.cst (.int 1)), .var 1]), .ret (.var 3)] [], .asg (.sub (.var 0) (.cst (.int 2))) (.bin .Add (.sub (.var 0) (.cst (.int 2))) (.cst (.int 1))), .set 2 (.val (.bin .Mod (.blt .int [.bin .Add (.bin .Add (.bin .Mult (.sub (.var 0) (.cst (.int 0))) (.cst (.int 48611))) (.bin .Mult (.sub (.var 0) (.cst (.int 2))) (.cst (.int 30253)))) (.cst (.int 11))]) (.cst (.int 2147483587)))), .asg (.sub (.var 0) (.cst (.int 0))) (.bin .Mod (.blt .int [.bin .Add (.bin .Mult (.var 2) (.bin .Add (.cst (.int 20011)) (.bin .Mod (.blt .int [.var 2]) (.cst (.int 5021))))) (.sub (.var 0) (.cst (.int 2)))]) (.cst (.int 2147483549))), .ret (.bin .Mod (.blt .int [.bin .FloorDiv (.sub (.var 0) (.cst (.int 0))) (.cst (.int 512))]) (.var 1))]⟩
def m__law_choice : MF := ⟨["_law_source_here", "_law_things_here"], 2, [.ret (.sub (.var 1) (.call 21 [.var 0, .blt .len [.var 1]]))]⟩
def m_law : MF := ⟨["_law_script", "_law_turn"], 1, [.ife (.cmp .NotEq (.blt .repr [.lst [.call 0 [.tup [], .cst (.int 0), .cst (.str "open")], .call 1 [.tup [], .cst (.int 0), .cst (.str "open")], .call 1 [.tup [.tup [.cst (.int 1), .cst (.int 2), .cst (.int 3)]], .cst (.int 1), .cst (.int 2)]]]) (.cst (.str "[0, (0, 1), (0, 1)]"))) [.ret (.cst (.bl false))] [], .ret (.blt .all [.lc [1] (.name 1) (.rng1 (.blt .max [.cst (.int 2), .blt .min [.blt .len [.var 0], .cst (.int 5)]])) [] (.call 2 [.call 3 [.var 0, .var 1]])])]⟩
def nmL : List (Nat × Str) := [(0, "count"), (1, "total"), (2, "_law_right"), (3, "_law_source"), (4, "_law_things"), (5, "_law_edges"), (6, "_law_lies"), (7, "_law_sum"), (8, "check_data"), (9, "check_stretch"), (10, "lies_in"), (11, "lowest_terms"), (13, "is_count"), (14, "is_high"), (15, "is_integer"), (16, "is_data"), (18, "is_triple"), (19, "count_in"), (20, "_law_gcd"), (21, "_law_below"), (22, "_law_choice"), (23, "law"), (17, "MOST_TRIPLES"), (12, "OPEN")]
def nm (x : Nat) : Str := (nmL.lookup x).getD Str.empty
def P : List (Nat × MF) := [(0, m_count), (1, m_total), (2, m__law_right), (3, m__law_source), (4, m__law_things), (5, m__law_edges), (6, m__law_lies), (7, m__law_sum), (8, m_check_data), (9, m_check_stretch), (10, m_lies_in), (11, m_lowest_terms), (13, m_is_count), (14, m_is_high), (15, m_is_integer), (16, m_is_data), (18, m_is_triple), (19, m_count_in), (20, m__law_gcd), (21, m__law_below), (22, m__law_choice), (23, m_law)]
def ixL : List (Nat × Nat) := [(0, 19), (1, 20), (2, 30), (3, 22), (4, 26), (5, 28), (6, 27), (7, 29), (8, 16), (9, 11), (10, 17), (11, 9), (13, 7), (14, 8), (15, 6), (16, 15), (18, 14), (19, 18), (20, 25), (21, 23), (22, 24), (23, 31)]
def cs : List (Nat × D) := [(17, .int 1000), (12, .str "open")]
def src (f : Nat) : Stmt := PySem.Challenge.pw_unlikebins_k12_whole_counts_and_totals_b.main.body.getD ((ixL.lookup f).getD 0) (.Pass ⟨0, 0, 0, 0⟩)
theorem lk_count : P.lookup 0 = some m_count := rfl
theorem lk_total : P.lookup 1 = some m_total := rfl
theorem lk__law_right : P.lookup 2 = some m__law_right := rfl
theorem lk__law_source : P.lookup 3 = some m__law_source := rfl
theorem lk__law_things : P.lookup 4 = some m__law_things := rfl
theorem lk__law_edges : P.lookup 5 = some m__law_edges := rfl
theorem lk__law_lies : P.lookup 6 = some m__law_lies := rfl
theorem lk__law_sum : P.lookup 7 = some m__law_sum := rfl
theorem lk_check_data : P.lookup 8 = some m_check_data := rfl
theorem lk_check_stretch : P.lookup 9 = some m_check_stretch := rfl
theorem lk_lies_in : P.lookup 10 = some m_lies_in := rfl
theorem lk_lowest_terms : P.lookup 11 = some m_lowest_terms := rfl
theorem lk_is_count : P.lookup 13 = some m_is_count := rfl
theorem lk_is_high : P.lookup 14 = some m_is_high := rfl
theorem lk_is_integer : P.lookup 15 = some m_is_integer := rfl
theorem lk_is_data : P.lookup 16 = some m_is_data := rfl
theorem lk_is_triple : P.lookup 18 = some m_is_triple := rfl
theorem lk_count_in : P.lookup 19 = some m_count_in := rfl
theorem lk__law_gcd : P.lookup 20 = some m__law_gcd := rfl
theorem lk__law_below : P.lookup 21 = some m__law_below := rfl
theorem lk__law_choice : P.lookup 22 = some m__law_choice := rfl
theorem lk_law : P.lookup 23 = some m_law := rfl
theorem gk_OPEN : glC cs 12 = some (.str "open") := rfl
theorem gk_MOST_TRIPLES : glC cs 17 = some (.int 1000) := rfl
theorem ck : chkAll nm P src cs = true := by decide +kernel
end Mn
/-! reckoning with the interpreter: rules for simp, data that can be shown -/
namespace Mn
open PySem L2
def fin : Out Fl → Out D
  | .ok (.ret d) S => .ok d S
  | .ok (.next _) S => .ok .non S
  | .ok (.brk _) S => .bad
  | .ok (.cont _) S => .bad
  | .exc e S => .exc e S
  | .bad => .bad
theorem callN_eq {P : List (Nat × MF)} {gl : Nat → Option D} {fuel : Nat} {f : Nat} {m : MF} (h : P.lookup f = some m) (k : Nat) (ds : List D) (S : Sto) (hl : ds.length = m.ps) :
    callN P gl fuel (k + 1) f ds S = fin (exs (callN P gl fuel k) gl fuel m.body (ds.map (fun d => some (.val d)) ++ List.replicate (m.names.length - m.ps) none) S) := by
  rw [callN]
  simp only [h, if_pos hl]
  cases exs (callN P gl fuel k) gl fuel m.body (ds.map (fun d => some (.val d)) ++ List.replicate (m.names.length - m.ps) none) S with
  | ok a S => cases a <;> rfl
  | exc e S => rfl
  | bad => rfl
section
variable {α β : Type} {cl : Nat → List D → Sto → Out D} {gl : Nat → Option D} {fuel : Nat} {fr : Frm} {S : Sto}
@[simp] theorem b_ok (a : α) (S : Sto) (f : α → Sto → Out β) : (Out.ok a S).bind f = f a S := id rfl
@[simp] theorem o_some (a : α) (S : Sto) : opt (some a) S = .ok a S := id rfl
@[simp] theorem fin_ret (d : D) (S : Sto) : fin (.ok (.ret d) S) = .ok d S := id rfl
@[simp] theorem fin_next (fr : Frm) (S : Sto) : fin (.ok (.next fr) S) = .ok .non S := id rfl
@[simp] theorem exs_nil : exs cl gl fuel [] fr S = .ok (.next fr) S := by rw [exs]
/-- what comes behind a statement -/
def aft (cl : Nat → List D → Sto → Out D) (gl : Nat → Option D) (fuel : Nat) (r : List MS) (f : Fl) (S : Sto) : Out Fl := match f with
  | .next fr => exs cl gl fuel r fr S
  | f => .ok f S
@[simp] theorem exs_cons (s : MS) (r : List MS) : exs cl gl fuel (s :: r) fr S = (ex cl gl fuel s fr S).bind (aft cl gl fuel r) := by rw [exs]; rfl
@[simp] theorem aft_next (r : List MS) (fr : Frm) : aft cl gl fuel r (.next fr) S = exs cl gl fuel r fr S := id rfl
@[simp] theorem aft_ret (r : List MS) (d : D) : aft cl gl fuel r (.ret d) S = .ok (.ret d) S := id rfl
@[simp] theorem aft_brk (r : List MS) (fr : Frm) : aft cl gl fuel r (.brk fr) S = .ok (.brk fr) S := id rfl
@[simp] theorem aft_cont (r : List MS) (fr : Frm) : aft cl gl fuel r (.cont fr) S = .ok (.cont fr) S := id rfl
@[simp] theorem ty_ii (i : Int) : isTy (.int i) "int" = some true := by show kitB "int" "int" = _; decide +kernel
@[simp] theorem ty_ib (i : Int) : isTy (.int i) "bool" = some false := by show kitB "int" "bool" = _; decide +kernel
@[simp] theorem ty_is (i : Int) : isTy (.int i) "str" = some false := by show kitB "int" "str" = _; decide +kernel
@[simp] theorem ty_it (i : Int) : isTy (.int i) "tuple" = some false := by show kitB "int" "tuple" = _; decide +kernel
@[simp] theorem ty_si (i : Str) : isTy (.str i) "int" = some false := by show kitB "str" "int" = _; decide +kernel
@[simp] theorem ty_sb (i : Str) : isTy (.str i) "bool" = some false := by show kitB "str" "bool" = _; decide +kernel
@[simp] theorem ty_ss (i : Str) : isTy (.str i) "str" = some true := by show kitB "str" "str" = _; decide +kernel
@[simp] theorem ty_st (i : Str) : isTy (.str i) "tuple" = some false := by show kitB "str" "tuple" = _; decide +kernel
@[simp] theorem ty_tt (i : List D) : isTy (.tup i) "tuple" = some true := by show kitB "tuple" "tuple" = _; decide +kernel
@[simp] theorem ty_ti (i : List D) : isTy (.tup i) "int" = some false := by show kitB "tuple" "int" = _; decide +kernel
@[simp] theorem ty_ts (i : List D) : isTy (.tup i) "str" = some false := by show kitB "tuple" "str" = _; decide +kernel
end
/-! ### the values' rules, for simp -/
section
variable (i j : Int) (x y : Str) (b c : Bool) (S : Sto) (n : Nat) (xs ys : List D) (d e : D) (ns : List Int)
@[simp] theorem cmp_lt : cmpD .Lt (.int i) (.int j) = some (decide (i < j)) := id rfl
@[simp] theorem cmp_le : cmpD .LtE (.int i) (.int j) = some (decide (i ≤ j)) := id rfl
@[simp] theorem cmp_gt : cmpD .Gt (.int i) (.int j) = some (decide (j < i)) := id rfl
@[simp] theorem cmp_ge : cmpD .GtE (.int i) (.int j) = some (decide (j ≤ i)) := id rfl
@[simp] theorem cmp_eq : cmpD .Eq d e = eqA d e := by cases d <;> cases e <;> rfl
@[simp] theorem cmp_ne : cmpD .NotEq d e = (eqA d e).map (!·) := by cases d <;> cases e <;> rfl
@[simp] theorem cmp_isn : cmpD .Is d .non = some (isN d) := by cases d <;> rfl
@[simp] theorem cmp_notn : cmpD .IsNot d .non = some (!isN d) := by cases d <;> rfl
@[simp] theorem cmp_inl : cmpD .In d (.lst xs) = inD d xs := by cases d <;> rfl
@[simp] theorem cmp_nil : cmpD .NotIn d (.lst xs) = (inD d xs).map (!·) := by cases d <;> rfl
@[simp] theorem cmp_int : cmpD .In d (.tup xs) = inF d xs := by cases d <;> rfl
@[simp] theorem cmp_nit : cmpD .NotIn d (.tup xs) = (inF d xs).map (!·) := by cases d <;> rfl
@[simp] theorem eqA_ii : eqA (.int i) (.int j) = some (decide (i = j)) := id rfl
@[simp] theorem eqA_ss : eqA (.str x) (.str y) = some (decide (x = y)) := id rfl
@[simp] theorem eqA_bb : eqA (.bl b) (.bl c) = some (decide (b = c)) := id rfl
@[simp] theorem eqA_is : eqA (.int i) (.str y) = some false := id rfl
@[simp] theorem eqA_si : eqA (.str y) (.int i) = some false := id rfl
@[simp] theorem eqA_ni : eqA .non (.int i) = some false := id rfl
@[simp] theorem eqA_in : eqA (.int i) .non = some false := id rfl
@[simp] theorem eqA_ns : eqA .non (.str x) = some false := id rfl
@[simp] theorem eqA_sn : eqA (.str x) .non = some false := id rfl
@[simp] theorem eqA_nn : eqA .non .non = some true := id rfl
@[simp] theorem isN_non : isN .non = true := id rfl
@[simp] theorem isN_int : isN (.int i) = false := id rfl
@[simp] theorem isN_str : isN (.str x) = false := id rfl
@[simp] theorem isN_tup : isN (.tup xs) = false := id rfl
@[simp] theorem isN_lst : isN (.lst xs) = false := id rfl
@[simp] theorem bin_add : binD .Add (.int i) (.int j) = some (.int (i + j)) := id rfl
@[simp] theorem bin_sub : binD .Sub (.int i) (.int j) = some (.int (i - j)) := id rfl
@[simp] theorem bin_mul : binD .Mult (.int i) (.int j) = if mulOk i j then some (.int (i * j)) else none := id rfl
@[simp] theorem bin_div : binD .FloorDiv (.int i) (.int j) = if divOk j then some (.int (i / j)) else none := id rfl
@[simp] theorem bin_mod : binD .Mod (.int i) (.int j) = if 0 < j then some (.int (i % j)) else none := id rfl
@[simp] theorem bin_pow : binD .Pow (.int i) (.int j) = if powOk i j then some (.int (i ^ j.toNat)) else none := id rfl
@[simp] theorem bin_lst : binD .Add (.lst xs) (.lst ys) = if xs.length + ys.length ≤ sizeLine then some (.lst (xs ++ ys)) else none := id rfl
@[simp] theorem bin_tup : binD .Add (.tup xs) (.tup ys) = if xs.length + ys.length ≤ sizeLine then some (.tup (xs ++ ys)) else none := id rfl
@[simp] theorem bin_str : binD .Add (.str x) (.str y) = if x.length + y.length ≤ sizeLine then some (.str (x ++ y)) else none := id rfl
@[simp] theorem int_int : intO (.int i) = some i := id rfl
@[simp] theorem bool_bl : boolO (.bl b) = some b := id rfl
@[simp] theorem tru_bl : truD S (.bl b) = some b := id rfl
@[simp] theorem tru_non : truD S .non = some false := id rfl
@[simp] theorem tru_int : truD S (.int i) = some (i != 0) := id rfl
@[simp] theorem tru_tup : truD S (.tup xs) = some (!xs.isEmpty) := id rfl
@[simp] theorem tru_lst : truD S (.lst xs) = some (!xs.isEmpty) := id rfl
@[simp] theorem rdL_lst : rdL S (.lst xs) = some xs := id rfl
@[simp] theorem rdL_scr : rdL S (.scr ns) = some (ns.map D.int) := id rfl
@[simp] theorem rdF_lst : rdF (.lst xs) = some xs := id rfl
@[simp] theorem rdF_scr : rdF (.scr ns) = some (ns.map D.int) := id rfl
theorem rdL_obj {S : Sto} {n : Nat} {xs : List D} (h : S[n]? = some (.lst xs)) : rdL S (.obj n) = some xs := by simp [rdL, h]
theorem setD_obj {S : Sto} {n : Nat} {xs : List D} {i : Int} {d : D} (h : S[n]? = some (.lst xs)) : setD S n i d = (ixN xs.length i).map fun j => S.set n (.lst (xs.set j d)) := by
  simp [setD, h]
  cases ixN xs.length i <;> rfl
theorem rdL_set {S : Sto} {n : Nat} {xs : List D} (h : n < S.length) : rdL (S.set n (.lst xs)) (.obj n) = some xs := by simp [rdL, h]
theorem setD_set {S : Sto} {n : Nat} {xs : List D} {i : Int} {d : D} (h : n < S.length) : setD (S.set n (.lst xs)) n i d = (ixN xs.length i).map fun j => S.set n (.lst (xs.set j d)) := by
  simp [setD, h]
  cases ixN xs.length i <;> rfl
@[simp] theorem ix3_0 : ixN 3 0 = some 0 := id rfl
@[simp] theorem ix3_1 : ixN 3 1 = some 1 := id rfl
@[simp] theorem ix3_2 : ixN 3 2 = some 2 := id rfl
@[simp] theorem sub_tup : subD S (.tup xs) (.int i) = atI xs i := id rfl
@[simp] theorem sub_lst : subD S (.lst xs) (.int i) = atI xs i := id rfl
@[simp] theorem sub_scr : subD S (.scr ns) (.int i) = atI (ns.map D.int) i := id rfl
@[simp] theorem sub_obj : subD S (.obj n) (.int i) = (rdL S (.obj n)).bind fun xs => atI xs i := id rfl
@[simp] theorem at_0 : atI (d :: xs) 0 = some d := by simp [atI, ixN]
@[simp] theorem at_1 : atI (d :: e :: xs) 1 = some e := by
  unfold atI ixN
  rw [if_pos (by decide), if_pos (by simp only [List.length_cons]; omega)]; rfl
@[simp] theorem at_2 {f : D} : atI (d :: e :: f :: xs) 2 = some f := by
  unfold atI ixN
  rw [if_pos (by decide), if_pos (by simp only [List.length_cons]; omega)]; rfl
theorem at_n {xs : List D} {n : Nat} {d : D} (h : xs[n]? = some d) : atI xs (n : Int) = some d := by
  have hn : n < xs.length := (List.getElem?_eq_some_iff.mp h).1
  simp [atI, ixN, hn, h]
  exact (List.getElem?_eq_some_iff.mp h).2
@[simp] theorem vb_lent : blD S .len [.tup xs] = some (.int xs.length) := id rfl
@[simp] theorem vb_lenl : blD S .len [.lst xs] = some (.int xs.length) := id rfl
@[simp] theorem vb_lens : blD S .len [.scr ns] = some (.int ns.length) := by simp [blD]
@[simp] theorem vb_lenx : blD S .len [.str x] = if x.length ≤ sizeLine then some (.int x.length) else none := id rfl
@[simp] theorem vb_abs : blD S .abs [.int i] = some (.int (if i < 0 then -i else i)) := id rfl
@[simp] theorem vb_int : blD S .int [.int i] = some (.int i) := id rfl
@[simp] theorem vb_intb : blD S .int [.bl b] = some (.int (if b then 1 else 0)) := id rfl
@[simp] theorem vb_strs : blD S .str [.str x] = some (.str x) := id rfl
@[simp] theorem vb_stri : blD S .str [.int i] = if i.natAbs.log2 < 1920 then some (.str (toString i)) else none := id rfl
@[simp] theorem vb_repr : blD S .repr [d] = (showD d).map .str := id rfl
@[simp] theorem vb_all : blD S .all [.lst xs] = (blsD xs).map fun bs => .bl (bs.all id) := id rfl
@[simp] theorem vb_any : blD S .any [.lst xs] = (blsD xs).map fun bs => .bl (bs.any id) := id rfl
@[simp] theorem vb_sum : blD S .sum [.lst xs] = (intsD xs).map fun ns => .int ns.sum := id rfl
@[simp] theorem vb_max : blD S .max [.int i, .int j] = some (.int (if j > i then j else i)) := id rfl
@[simp] theorem vb_min : blD S .min [.int i, .int j] = some (.int (if j < i then j else i)) := id rfl
@[simp] theorem vb_tupt : blD S .tuple [.tup xs] = some (.tup xs) := id rfl
@[simp] theorem vb_tupl : blD S .tuple [.lst xs] = some (.tup xs) := id rfl
@[simp] theorem vb_lstt : blD S .list [.tup xs] = some (.lst xs) := id rfl
@[simp] theorem vb_lstl : blD S .list [.lst xs] = some (.lst xs) := id rfl
@[simp] theorem vb_divmod : blD S .divmod [.int i, .int j] = if divOk j then some (.tup [.int (i / j), .int (i % j)]) else none := id rfl
@[simp] theorem vb_isinst (T : String) : blD S .isinst [d, .ty T] = (isTy d T).map .bl := id rfl
@[simp] theorem sl_tup (lo hi : Option Int) : slD S lo hi (.tup xs) = some (.tup (cutL xs lo hi)) := id rfl
@[simp] theorem sl_lst (lo hi : Option Int) : slD S lo hi (.lst xs) = some (.lst (cutL xs lo hi)) := id rfl
@[simp] theorem sl_scr (lo hi : Option Int) : slD S lo hi (.scr ns) = some (.lst (cutL (ns.map D.int) lo hi)) := id rfl
@[simp] theorem rdS_tup : rdS (.tup xs) = some (false, xs) := id rfl
@[simp] theorem rdS_lst : rdS (.lst xs) = some (true, xs) := id rfl
@[simp] theorem zip_tt : zipO (.tup xs) (.tup ys) = some (zipD xs ys) := id rfl
@[simp] theorem zip_ll : zipO (.lst xs) (.lst ys) = some (zipD xs ys) := id rfl
end
/-! ### the texts' rules, for simp (no comprehension, no loop) -/
section
variable (cl : Nat → List D → Sto → Out D) (gl : Nat → Option D) (fr : Frm) (S : Sto) (fuel : Nat)
@[simp] theorem ev_var (i : Nat) : ev cl gl fr (.var i) S = (match fr[i]? with | some (some (.val d)) => .ok d S | _ => .bad) := by (rw [ev]) <;> rfl
@[simp] theorem ev_cst (d : D) : ev cl gl fr (.cst d) S = (.ok d S) := by rw [ev]
@[simp] theorem ev_glob (x : Nat) : ev cl gl fr (.glob x) S = (opt (gl x) S) := by rw [ev]
@[simp] theorem ev_bin (op : Operator) (a : ME) (b : ME) : ev cl gl fr (.bin op a b) S = ((ev cl gl fr a S).bind fun x S => (ev cl gl fr b S).bind fun y S => opt (binD op x y) S) := by rw [ev]
@[simp] theorem ev_neg (a : ME) : ev cl gl fr (.neg a) S = ((ev cl gl fr a S).bind fun x S => opt ((intO x).map fun i => .int (-i)) S) := by rw [ev]
@[simp] theorem ev_cmp (op : CmpOp) (a : ME) (b : ME) : ev cl gl fr (.cmp op a b) S = ((ev cl gl fr a S).bind fun x S => (ev cl gl fr b S).bind fun y S => opt ((cmpD op x y).map .bl) S) := by rw [ev]
@[simp] theorem ev_and (a : ME) (b : ME) : ev cl gl fr (.and a b) S = ((ev cl gl fr a S).bind fun x S => (opt (boolO x) S).bind fun k S => if k then ev cl gl fr b S else .ok (.bl false) S) := by rw [ev]
@[simp] theorem ev_or (a : ME) (b : ME) : ev cl gl fr (.or a b) S = ((ev cl gl fr a S).bind fun x S => (opt (boolO x) S).bind fun k S => if k then .ok (.bl true) S else ev cl gl fr b S) := by rw [ev]
@[simp] theorem ev_not (a : ME) : ev cl gl fr (.not a) S = ((ev cl gl fr a S).bind fun x S => (opt (boolO x) S).bind fun k S => .ok (.bl (!k)) S) := by rw [ev]
@[simp] theorem ev_ife (t : MT) (a : ME) (b : ME) : ev cl gl fr (.ife t a b) S = ((evT cl gl fr t S).bind fun k S => if k then ev cl gl fr a S else ev cl gl fr b S) := by rw [ev]
@[simp] theorem ev_tup (es : List ME) : ev cl gl fr (.tup es) S = ((evs cl gl fr es S).bind fun xs S => .ok (.tup xs) S) := by rw [ev]
@[simp] theorem ev_lst (es : List ME) : ev cl gl fr (.lst es) S = ((evs cl gl fr es S).bind fun xs S => .ok (.lst xs) S) := by rw [ev]
@[simp] theorem ev_ref (es : List ME) : ev cl gl fr (.ref es) S = ((evs cl gl fr es S).bind fun xs S => .ok (.obj S.length) (S ++ [.lst xs])) := by rw [ev]
@[simp] theorem ev_call (f : Nat) (es : List ME) : ev cl gl fr (.call f es) S = ((evs cl gl fr es S).bind fun xs S => cl f xs S) := by rw [ev]
@[simp] theorem ev_callK (f : Nat) (es : List ME) (ks : List Nat) (vs : List ME) : ev cl gl fr (.callK f es ks vs) S = ((evs cl gl fr es S).bind fun xs S => (evs cl gl fr vs S).bind fun ys S => cl f (xs ++ ks.map fun k => ys.getD k .non) S) := by rw [ev]
@[simp] theorem ev_blt (b : Bi) (es : List ME) : ev cl gl fr (.blt b es) S = ((evs cl gl fr es S).bind fun xs S => opt (blD S b xs) S) := by rw [ev]
@[simp] theorem ev_sub (a : ME) (i : ME) : ev cl gl fr (.sub a i) S = ((ev cl gl fr a S).bind fun x S => (ev cl gl fr i S).bind fun y S => opt (subD S x y) S) := by rw [ev]
@[simp] theorem ev_sl (a : ME) (lo : Option ME) (hi : Option ME) : ev cl gl fr (.sl a lo hi) S = ((ev cl gl fr a S).bind fun x S => (evO cl gl fr lo S).bind fun l S => (evO cl gl fr hi S).bind fun h S => opt (slD S l h x) S) := by rw [ev]
@[simp] theorem ev_rev (a : ME) : ev cl gl fr (.rev a) S = ((ev cl gl fr a S).bind fun x S => opt ((rdL S x).map fun xs => .lst xs.reverse) S) := by rw [ev]
@[simp] theorem evs_nil : evs cl gl fr [] S = .ok [] S := by rw [evs]
@[simp] theorem evs_cons (e : ME) (es : List ME) : evs cl gl fr (e :: es) S = (ev cl gl fr e S).bind fun x S => (evs cl gl fr es S).bind fun xs S => .ok (x :: xs) S := by rw [evs]
@[simp] theorem evO_none : evO cl gl fr none S = .ok none S := by rw [evO]
@[simp] theorem evO_some (e : ME) : evO cl gl fr (some e) S = (ev cl gl fr e S).bind fun x S => (opt (intO x) S).bind fun i S => .ok (some i) S := by rw [evO]
@[simp] theorem evT_cmp (op : CmpOp) (a b : ME) : evT cl gl fr (.cmp op a b) S = (ev cl gl fr a S).bind fun x S => (ev cl gl fr b S).bind fun y S => opt (cmpD op x y) S := by rw [evT]
@[simp] theorem evT_chain (o1 o2 : CmpOp) (a b c : ME) : evT cl gl fr (.chain o1 o2 a b c) S = (ev cl gl fr a S).bind fun x S => (ev cl gl fr b S).bind fun y S => (opt (cmpD o1 x y) S).bind fun k S =>
    if k then (ev cl gl fr c S).bind fun z S => opt (cmpD o2 y z) S else .ok false S := by rw [evT]
@[simp] theorem ev_chain (o1 o2 : CmpOp) (a b c : ME) : ev cl gl fr (.chain o1 o2 a b c) S = (ev cl gl fr a S).bind fun x S => (ev cl gl fr b S).bind fun y S => (opt (cmpD o1 x y) S).bind fun k S =>
    if k then (ev cl gl fr c S).bind fun z S => opt ((cmpD o2 y z).map .bl) S else .ok (.bl false) S := by rw [ev]
@[simp] theorem evT_and (a b : MT) : evT cl gl fr (.and a b) S = (evT cl gl fr a S).bind fun k S => if k then evT cl gl fr b S else .ok false S := by rw [evT]
@[simp] theorem evT_or (a b : MT) : evT cl gl fr (.or a b) S = (evT cl gl fr a S).bind fun k S => if k then .ok true S else evT cl gl fr b S := by rw [evT]
@[simp] theorem evT_not (a : MT) : evT cl gl fr (.not a) S = (evT cl gl fr a S).bind fun k S => .ok (!k) S := by rw [evT]
@[simp] theorem evT_tru (a : ME) : evT cl gl fr (.tru a) S = (ev cl gl fr a S).bind fun x S => opt (truD S x) S := by rw [evT]
@[simp] theorem evTs_nil : evTs cl gl fr [] S = .ok true S := by rw [evTs]
@[simp] theorem evTs_cons (t : MT) (r : List MT) : evTs cl gl fr (t :: r) S = evT cl gl fr t S := by rw [evTs]
@[simp] theorem evI_lst (e : ME) : evI cl gl fr (.lst e) S = (ev cl gl fr e S).bind fun x S => opt (rdF x) S := by rw [evI]
@[simp] theorem evI_tup (e : ME) : evI cl gl fr (.tup e) S = (ev cl gl fr e S).bind fun x S => match x with | .tup xs => .ok xs S | _ => .bad := by (rw [evI]) <;> rfl
def rng1O (x : D) : Option (List D) := (intO x).bind fun i => rngD 0 i
@[simp] theorem evI_rng1 (a : ME) : evI cl gl fr (.rng1 a) S = (ev cl gl fr a S).bind fun x S => opt (rng1O x) S := by (rw [evI]) <;> rfl
@[simp] theorem evI_rng2 (a b : ME) : evI cl gl fr (.rng2 a b) S = (ev cl gl fr a S).bind fun x S => (ev cl gl fr b S).bind fun y S => opt ((intO x).bind fun i => (intO y).bind fun j => rngD i j) S := by rw [evI]
@[simp] theorem evI_zip (a b : ME) : evI cl gl fr (.zip a b) S = (ev cl gl fr a S).bind fun x S => (ev cl gl fr b S).bind fun y S => opt (zipO x y) S := by rw [evI]
@[simp] theorem evI_enum (a : ME) : evI cl gl fr (.enum a) S = (ev cl gl fr a S).bind fun x S => opt ((rdF x).map enumD) S := by rw [evI]
@[simp] theorem asg_name (i : Nat) (d : D) : asg cl gl (.name i) fr d S = .ok (fr.set i (some (.val d))) S := by rw [asg]
@[simp] theorem asg_tup (gs : List MG) (xs : List D) : asg cl gl (.tup gs) fr (.tup xs) S = asgs cl gl gs fr xs S := by rw [asg]
@[simp] theorem asg_lst (gs : List MG) (xs : List D) : asg cl gl (.tup gs) fr (.lst xs) S = asgs cl gl gs fr xs S := by rw [asg]
@[simp] theorem asgs_nil : asgs cl gl [] fr [] S = .ok fr S := by rw [asgs]
@[simp] theorem asgs_cons (g : MG) (gs : List MG) (x : D) (xs : List D) : asgs cl gl (g :: gs) fr (x :: xs) S = (asg cl gl g fr x S).bind fun fr S => asgs cl gl gs fr xs S := by rw [asgs]
/-- an item is put into a list of the store -/
def putO (fr : Frm) (x y d : D) (S : Sto) : Out Frm := match x, y with
  | .obj n, .int j => (opt (setD S n j d) S).bind fun S' _ => .ok fr S'
  | _, _ => .bad
@[simp] theorem putO_obj (n : Nat) (j : Int) (d : D) : putO fr (.obj n) (.int j) d S = (opt (setD S n j d) S).bind fun S' _ => .ok fr S' := id rfl
@[simp] theorem asg_sub (o i : ME) (d : D) : asg cl gl (.sub o i) fr d S = (ev cl gl fr o S).bind fun x S => (ev cl gl fr i S).bind fun y S => putO fr x y d S := by (rw [asg]) <;> rfl
@[simp] theorem evR_val (e : ME) : evR cl gl fr (.val e) S = (ev cl gl fr e S).bind fun d S => .ok (.val d) S := id rfl
@[simp] theorem evR_lst (es : List ME) : evR cl gl fr (.lst es) S = (evs cl gl fr es S).bind fun xs S => .ok (.olst xs) S := id rfl
@[simp] theorem evRs_nil : evRs cl gl fr [] S = .ok [] S := id rfl
@[simp] theorem evRs_cons (r : MR) (rs : List MR) : evRs cl gl fr (r :: rs) S = (evR cl gl fr r S).bind fun x S => (evRs cl gl fr rs S).bind fun xs S => .ok (x :: xs) S := id rfl
@[simp] theorem setAll_nil (ds : List SV) : setAll fr [] ds = fr := by cases ds <;> rfl
@[simp] theorem setAll_cons (i : Nat) (is : List Nat) (d : SV) (ds : List SV) : setAll fr (i :: is) (d :: ds) = setAll (fr.set i (some d)) is ds := id rfl
@[simp] theorem ex_set (i : Nat) (r : MR) : ex cl gl fuel (.set i r) fr S = (evR cl gl fr r S).bind fun d S => .ok (.next (fr.set i (some d))) S := by rw [ex]
/-- what a comprehension is kept as -/
def keepO (fr : Frm) (i : Nat) (o : Bool) (d : D) (S : Sto) : Out Fl := match o, d with
  | true, .lst xs => .ok (.next (fr.set i (some (.olst xs)))) S
  | true, _ => .bad
  | false, d => .ok (.next (fr.set i (some (.val d)))) S
@[simp] theorem keepO_f (i : Nat) (d : D) : keepO fr i false d S = .ok (.next (fr.set i (some (.val d)))) S := by cases d <;> rfl
@[simp] theorem keepO_t (i : Nat) (xs : List D) : keepO fr i true (.lst xs) S = .ok (.next (fr.set i (some (.olst xs)))) S := id rfl
@[simp] theorem ex_setLc (i : Nat) (o : Bool) (e : ME) : ex cl gl fuel (.setLc i o e) fr S = (ev cl gl fr e S).bind (keepO fr i o) := by (rw [ex]) <;> rfl
@[simp] theorem ex_par (is : List Nat) (rs : List MR) : ex cl gl fuel (.par is rs) fr S = (evRs cl gl fr rs S).bind fun ds S => .ok (.next (setAll fr is ds)) S := by rw [ex]
@[simp] theorem ex_asg (g : MG) (e : ME) : ex cl gl fuel (.asg g e) fr S = (ev cl gl fr e S).bind fun d S => (asg cl gl g fr d S).bind fun fr S => .ok (.next fr) S := by rw [ex]
@[simp] theorem ex_aug (i : Nat) (op : Operator) (e : ME) : ex cl gl fuel (.aug i op e) fr S = match fr[i]? with
  | some (some (.val x)) => (ev cl gl fr e S).bind fun y S => (opt (augD op x y) S).bind fun d S => .ok (.next (fr.set i (some (.val d)))) S
  | _ => .bad := by (rw [ex]) <;> rfl
@[simp] theorem ex_freeze (i : Nat) : ex cl gl fuel (.freeze i) fr S = match fr[i]? with
  | some (some (.olst xs)) => .ok (.next (fr.set i (some (.val (.lst xs))))) S
  | some (some (.odct xs)) => .ok (.next (fr.set i (some (.val (.dic xs))))) S
  | _ => .ok (.next fr) S := by (rw [ex]) <;> rfl
@[simp] theorem ex_append (i : Nat) (e : ME) : ex cl gl fuel (.append i e) fr S = (ev cl gl fr e S).bind fun d S => match fr[i]? with
  | some (some (.olst xs)) => if xs.length < sizeLine then .ok (.next (fr.set i (some (.olst (xs ++ [d]))))) S else .bad
  | _ => .bad := by (rw [ex]) <;> rfl
@[simp] theorem ex_expr (e : ME) : ex cl gl fuel (.expr e) fr S = (ev cl gl fr e S).bind fun _ S => .ok (.next fr) S := by rw [ex]
@[simp] theorem ex_ret (e : ME) : ex cl gl fuel (.ret e) fr S = (ev cl gl fr e S).bind fun d S => .ok (.ret d) S := by rw [ex]
@[simp] theorem ex_retN : ex cl gl fuel .retN fr S = .ok (.ret .non) S := by rw [ex]
@[simp] theorem ex_ife (t : MT) (a b : List MS) : ex cl gl fuel (.ife t a b) fr S = (evT cl gl fr t S).bind fun k S => if k then exs cl gl fuel a fr S else exs cl gl fuel b fr S := by rw [ex]
@[simp] theorem ex_forr (g : MG) (src : MI) (b : List MS) : ex cl gl fuel (.forr g src b) fr S = (evI cl gl fr src S).bind fun xs S => forO (asg cl gl g) (exs cl gl fuel b) xs fr S := by rw [ex]
/-- a while loop -/
def wh (cl : Nat → List D → Sto → Out D) (gl : Nat → Option D) (fuel : Nat) (t : MT) (b : List MS) (n : Nat) (fr : Frm) (S : Sto) : Out Fl := whileO (fun fr S => evT cl gl fr t S) (exs cl gl fuel b) n fr S
@[simp] theorem ex_whil (t : MT) (b : List MS) : ex cl gl fuel (.whil t b) fr S = wh cl gl fuel t b fuel fr S := by (rw [ex]) <;> rfl
@[simp] theorem ex_brk : ex cl gl fuel .brk fr S = .ok (.brk fr) S := by rw [ex]
@[simp] theorem ex_cont : ex cl gl fuel .cont fr S = .ok (.cont fr) S := by rw [ex]
@[simp] theorem ex_pass : ex cl gl fuel .pass fr S = .ok (.next fr) S := by rw [ex]
end
/-! ### comprehensions, loops -/
section
variable {cl : Nat → List D → Sto → Out D} {gl : Nat → Option D} {fr : Frm} {S : Sto} {fuel : Nat}
/-- one turn of a comprehension -/
def turn (cl : Nat → List D → Sto → Out D) (gl : Nat → Option D) (fr : Frm) (own : List Nat) (g : MG) (tt : List MT) (e : ME) (x : D) (S : Sto) : Out (Option D) :=
  (asg cl gl g (wipeF fr own) x S).bind fun fr2 S => (evTs cl gl fr2 tt S).bind fun k S => if k then (ev cl gl fr2 e S).bind fun d S => .ok (some d) S else .ok none S
theorem fold_turn {α : Type} {own : List Nat} {g : MG} {tt : List MT} {e : ME} (u : α → D) (f : α → Option D) : ∀ (xs : List α) (acc : List D), acc.length + xs.length ≤ sizeLine → (∀ x ∈ xs, turn cl gl fr own g tt e (u x) S = .ok (f x) S) →
    foldO (fun (acc : List D) x S => (asg cl gl g (wipeF fr own) x S).bind fun fr2 S => (evTs cl gl fr2 tt S).bind fun k S =>
      if k then (ev cl gl fr2 e S).bind fun d S => if acc.length < sizeLine then .ok (acc ++ [d]) S else .bad else .ok acc S) acc (xs.map u) S = .ok (acc ++ xs.filterMap f) S
  | [], acc, _, _ => by simp [foldO]
  | x :: xs, acc, hl, h => by
    have h1 := h x List.mem_cons_self
    simp only [List.length_cons] at hl
    have hlt : acc.length < sizeLine := by omega
    unfold turn at h1
    have key : ((asg cl gl g (wipeF fr own) (u x) S).bind fun fr2 S => (evTs cl gl fr2 tt S).bind fun k S =>
      if k then (ev cl gl fr2 e S).bind fun d S => if acc.length < sizeLine then .ok (acc ++ [d]) S else .bad else .ok acc S) = .ok (acc ++ (f x).toList) S := by
      obtain ⟨fr2, S1, a1, h1⟩ := bind_ok h1
      obtain ⟨k, S2, a2, h1⟩ := bind_ok h1
      rw [a1, b_ok, a2, b_ok]
      cases k with
      | false =>
        rw [if_neg Bool.false_ne_true] at h1 ⊢
        injection h1 with h1 h2
        rw [← h1, h2]
        simp
      | true =>
        rw [if_pos rfl] at h1 ⊢
        obtain ⟨d, S3, a3, h1⟩ := bind_ok h1
        rw [a3, b_ok, if_pos hlt]
        injection h1 with h1 h2
        rw [← h1, h2]
        simp
    rw [List.map_cons, foldO, key, b_ok]
    rw [fold_turn u f xs _ (by cases f x <;> simp <;> omega) fun y hy => h y (List.mem_cons_of_mem _ hy), List.filterMap_cons]
    cases f x <;> simp
theorem ev_lc {α : Type} {own : List Nat} {g : MG} {src : MI} {tt : List MT} {e : ME} (xs : List α) (u : α → D) (f : α → Option D) (hs : evI cl gl fr src S = .ok (xs.map u) S) (hl : xs.length ≤ sizeLine) (h : ∀ x ∈ xs, turn cl gl fr own g tt e (u x) S = .ok (f x) S) :
    ev cl gl fr (.lc own g src tt e) S = .ok (.lst (xs.filterMap f)) S := by
  rw [ev, hs, b_ok, fold_turn u f xs [] (by simpa using hl) h]
  simp
theorem ev_lcm {α : Type} {own : List Nat} {g : MG} {src : MI} {e : ME} (xs : List α) (u : α → D) (f : α → D) (hs : evI cl gl fr src S = .ok (xs.map u) S) (hl : xs.length ≤ sizeLine) (h : ∀ x ∈ xs, turn cl gl fr own g [] e (u x) S = .ok (some (f x)) S) :
    ev cl gl fr (.lc own g src [] e) S = .ok (.lst (xs.map f)) S := by
  rw [ev_lc xs u (fun x => some (f x)) hs hl h, List.filterMap_eq_map']
theorem ev_lcf {α : Type} {own : List Nat} {g : MG} {src : MI} {tt : List MT} {e : ME} (xs : List α) (u : α → D) (p : α → Bool) (f : α → D) (hs : evI cl gl fr src S = .ok (xs.map u) S) (hl : xs.length ≤ sizeLine) (h : ∀ x ∈ xs, turn cl gl fr own g tt e (u x) S = .ok (if p x then some (f x) else none) S) :
    ev cl gl fr (.lc own g src tt e) S = .ok (.lst ((xs.filter p).map f)) S := by
  rw [ev_lc xs u _ hs hl h]
  congr 2
  clear hs hl h
  induction xs with
  | nil => rfl
  | cons x xs ih =>
    rw [List.filterMap_cons, List.filter_cons]
    cases p x <;> simp [ih]
/-- a comprehension whose turns change the store: each gives d -/
theorem fold_turns {own : List Nat} {g : MG} {tt : List MT} {e : ME} (d : D) : ∀ (xs acc : List D) (S : Sto), acc.length + xs.length ≤ sizeLine → (∀ x ∈ xs, ∀ S, ∃ S', turn cl gl fr own g tt e x S = .ok (some d) S') →
    ∃ S', foldO (fun (acc : List D) x S => (asg cl gl g (wipeF fr own) x S).bind fun fr2 S => (evTs cl gl fr2 tt S).bind fun k S =>
      if k then (ev cl gl fr2 e S).bind fun d S => if acc.length < sizeLine then .ok (acc ++ [d]) S else .bad else .ok acc S) acc xs S = .ok (acc ++ xs.map fun _ => d) S'
  | [], acc, S, _, _ => ⟨S, by simp [foldO]⟩
  | x :: xs, acc, S, hl, h => by
    obtain ⟨S1, h1⟩ := h x List.mem_cons_self S
    simp only [List.length_cons] at hl
    have hlt : acc.length < sizeLine := by omega
    unfold turn at h1
    obtain ⟨fr2, S2, a1, h1⟩ := bind_ok h1
    obtain ⟨k, S3, a2, h1⟩ := bind_ok h1
    cases k with
    | false =>
      rw [if_neg Bool.false_ne_true] at h1
      cases h1
    | true =>
      rw [if_pos rfl] at h1
      obtain ⟨d', S4, a3, h1⟩ := bind_ok h1
      injection h1 with h1 h2
      injection h1 with h1
      subst h1
      obtain ⟨S', e⟩ := fold_turns d' xs (acc ++ [d']) S4 (by simp; omega) fun y hy => h y (List.mem_cons_of_mem _ hy)
      refine ⟨S', ?_⟩
      rw [foldO, a1, b_ok, a2, b_ok, if_pos rfl, a3, b_ok, if_pos hlt, b_ok, e]
      simp
theorem ev_lcs {own : List Nat} {g : MG} {src : MI} {tt : List MT} {e : ME} {xs : List D} {S1 : Sto} (d : D) (hs : evI cl gl fr src S = .ok xs S1) (hl : xs.length ≤ sizeLine) (h : ∀ x ∈ xs, ∀ S, ∃ S', turn cl gl fr own g tt e x S = .ok (some d) S') :
    ∃ S', ev cl gl fr (.lc own g src tt e) S = .ok (.lst (xs.map fun _ => d)) S' := by
  obtain ⟨S', q⟩ := fold_turns d xs [] S1 (by simpa using hl) h
  refine ⟨S', ?_⟩
  rw [ev, hs, b_ok, q]
  simp
theorem cut_map {α : Type} (u : α → D) (xs : List α) (lo hi : Option Int) : ∃ ys : List α, cutL (xs.map u) lo hi = ys.map u := by
  unfold cutL
  rw [List.length_map, ← List.map_drop, ← List.map_take]
  exact ⟨_, rfl⟩
theorem bls_all {α : Type} (f : α → Bool) : ∀ xs : List α, blsD (xs.map fun x => .bl (f x)) = some (xs.map f)
  | [] => rfl
  | x :: xs => by simp [blsD, bls_all f xs]
theorem ints_all {α : Type} (f : α → Int) : ∀ xs : List α, intsD (xs.map fun x => .int (f x)) = some (xs.map f)
  | [] => rfl
  | x :: xs => by simp [intsD, ints_all f xs]
/-- a loop that goes on to its end: what holds is told by the items that are left -/
theorem for_all {g : Frm → D → Sto → Out Frm} {b : Frm → Sto → Out Fl} (J : List D → Frm → Sto → Prop) (step : ∀ x xs fr S, J (x :: xs) fr S → ∃ fr1 S1 fr2 S2, g fr x S = .ok fr1 S1 ∧ (b fr1 S1 = .ok (.next fr2) S2 ∨ b fr1 S1 = .ok (.cont fr2) S2) ∧ J xs fr2 S2) :
    ∀ (xs : List D) (fr : Frm) (S : Sto), J xs fr S → ∃ fr2 S2, forO g b xs fr S = .ok (.next fr2) S2 ∧ J [] fr2 S2
  | [], fr, S, h => ⟨fr, S, rfl, h⟩
  | x :: xs, fr, S, h => by
    obtain ⟨fr1, S1, fr2, S2, h1, h2, h3⟩ := step x xs fr S h
    obtain ⟨fr3, S3, h4, h5⟩ := for_all J step xs fr2 S2 h3
    refine ⟨fr3, S3, ?_, h5⟩
    rw [forO, h1, b_ok]
    rcases h2 with h2 | h2 <;> rw [h2, b_ok] <;> exact h4
end
/-- a loop over a range -/
theorem for_rng_at {g : Frm → D → Sto → Out Frm} {b : Frm → Sto → Out Fl} (J : Nat → Frm → Sto → Prop) (r : Nat) (step : ∀ i fr S, i < r → J i fr S → ∃ fr1 S1 fr2 S2, g fr (.int (i : Int)) S = .ok fr1 S1 ∧ b fr1 S1 = .ok (.next fr2) S2 ∧ J (i + 1) fr2 S2) :
    ∀ (m i : Nat) (fr : Frm) (S : Sto), i + m = r → J i fr S → ∃ fr2 S2, forO g b ((List.range' i m).map fun i => .int ((i : Nat) : Int)) fr S = .ok (.next fr2) S2 ∧ J r fr2 S2
  | 0, i, fr, S, hi, h => ⟨fr, S, rfl, by rw [← hi]; exact h⟩
  | m + 1, i, fr, S, hi, h => by
    obtain ⟨fr1, S1, fr2, S2, h1, h2, h3⟩ := step i fr S (by omega) h
    obtain ⟨fr3, S3, h4, h5⟩ := for_rng_at J r step m (i + 1) fr2 S2 (by omega) h3
    refine ⟨fr3, S3, ?_, h5⟩
    rw [List.range'_succ, List.map_cons, forO, h1, b_ok, h2, b_ok]
    exact h4
theorem for_rng {g : Frm → D → Sto → Out Frm} {b : Frm → Sto → Out Fl} (J : Nat → Frm → Sto → Prop) (r : Nat) (step : ∀ i fr S, i < r → J i fr S → ∃ fr1 S1 fr2 S2, g fr (.int (i : Int)) S = .ok fr1 S1 ∧ b fr1 S1 = .ok (.next fr2) S2 ∧ J (i + 1) fr2 S2)
    (fr : Frm) (S : Sto) (h : J 0 fr S) : ∃ fr2 S2, forO g b ((List.range r).map fun i => .int ((i : Nat) : Int)) fr S = .ok (.next fr2) S2 ∧ J r fr2 S2 := by
  rw [List.range_eq_range']
  exact for_rng_at J r step r 0 fr S (by omega) h
theorem rng_nat {r : Nat} (h : r < 4611686018427387904) : rng1O (.int (r : Int)) = some ((List.range r).map fun i => .int ((i : Nat) : Int)) := by
  unfold rng1O
  rw [int_int, Option.bind_some]
  unfold rngD
  rw [if_pos ⟨by decide, by decide, by omega, by omega⟩]
  simp
/-- a loop as a fold: the state after each turn, the store as it was -/
theorem for_fold {α β : Type} {g : Frm → D → Sto → Out Frm} {b : Frm → Sto → Out Fl} {S : Sto} (u : α → D) (F : β → Option SV → Frm) (f : β → α → β) (Inv : List α → β → Prop)
    (step : ∀ x r s o, Inv (x :: r) s → Inv r (f s x) ∧ ∃ fr1, g (F s o) (u x) S = .ok fr1 S ∧ b fr1 S = .ok (.next (F (f s x) (some (.val (u x))))) S) :
    ∀ (xs : List α) (s : β) (o : Option SV), Inv xs s → ∃ o', forO g b (xs.map u) (F s o) S = .ok (.next (F (xs.foldl f s) o')) S ∧ Inv [] (xs.foldl f s)
  | [], s, o, h => ⟨o, rfl, h⟩
  | x :: xs, s, o, h => by
    obtain ⟨h1, fr1, h2, h3⟩ := step x xs s o h
    obtain ⟨o', h4, h5⟩ := for_fold u F f Inv step xs (f s x) (some (.val (u x))) h1
    refine ⟨o', ?_, h5⟩
    rw [List.map_cons, forO, h2, b_ok, h3, b_ok]
    exact h4
theorem mul_r {i j : Int} (h1 : -(2 ^ 64) < j) (h2 : j < 2 ^ 64) : mulOk i j = true := by
  unfold mulOk
  rw [decide_eq_true (p := -(2 ^ 64) < j ∧ j < 2 ^ 64) ⟨h1, h2⟩]
  simp
theorem mul_l {i j : Int} (h1 : -(2 ^ 64) < i) (h2 : i < 2 ^ 64) : mulOk i j = true := by
  unfold mulOk
  rw [decide_eq_true (p := -(2 ^ 64) < i ∧ i < 2 ^ 64) ⟨h1, h2⟩]
  simp
theorem mul_mod {i j k : Int} (h1 : 0 < k) (h2 : k < 2 ^ 64) : mulOk (i % k) j = true := by
  have a := Int.emod_nonneg i (Int.ne_of_gt h1)
  have b := Int.emod_lt_of_pos i h1
  exact mul_l (by omega) (by omega)
theorem log_lt {n k : Nat} (h : n < 2 ^ k) (hk : 0 < k) : n.log2 < k := by
  by_cases h0 : n = 0
  · subst h0; simpa using hk
  · exact (Nat.log2_lt h0).mpr h
/-- factors of moderate size -/
theorem mul_b {i j : Int} (h1 : i.natAbs < 2 ^ 400000) (h2 : j.natAbs < 2 ^ 400000) : mulOk i j = true := by
  have a := log_lt h1 (by omega)
  have b := log_lt h2 (by omega)
  unfold mulOk
  rw [decide_eq_true (p := i.natAbs.log2 + j.natAbs.log2 < 1000000) (by omega)]
  simp
theorem div_ok {j : Int} (h0 : 0 < j) (h1 : j < 2 ^ 8000) : divOk j = true := by
  have : j.natAbs < 2 ^ 8000 := by omega
  have := log_lt this (by omega)
  unfold divOk
  simp [h0]
  omega
theorem div_s {j : Int} (h0 : 0 < j) (h1 : j < 2 ^ 200) : divOk j = true := by
  refine div_ok h0 (Int.lt_of_lt_of_le h1 ?_)
  have : (2 : Int) ^ 200 ≤ 2 ^ 8000 := by decide +kernel
  exact this
/-! ### data that can be shown and compared -/
inductive Rd : Nat → Nat → D → Prop
  | non {n w : Nat} : Rd n w .non
  | bl {n w : Nat} (b : Bool) : Rd n w (.bl b)
  | int {n w : Nat} {i : Int} (h : i.natAbs.log2 < 1920) : Rd n w (.int i)
  | str {n w : Nat} {x : Str} (h : PyData.strOk x = true) (l : x.length ≤ w) : Rd n w (.str x)
  | tup {n w w' : Nat} {xs : List D} (h : ∀ x ∈ xs, Rd n w' x) (l : xs.length * (w' + 1) ≤ w) : Rd (n + 1) w (.tup xs)
  | lst {n w w' : Nat} {xs : List D} (h : ∀ x ∈ xs, Rd n w' x) (l : xs.length * (w' + 1) ≤ w) : Rd (n + 1) w (.lst xs)
structure PyOk (n w : Nat) (p : PyData) : Prop where
  sh : p.showable = true
  dp : p.depth ≤ n + 1
  cl : p.canLay0 = true
  hd : p.hasDict = false
  ls : p.leavesShort 1921 = true
  bk : p.bulk ≤ w
theorem all_py {n w : Nat} : ∀ {xs : List D}, (∀ x ∈ xs, ∃ p, x.py = some p ∧ PyOk n w p) → ∃ ps, pyAll xs = some ps ∧ PyData.showableAll ps = true ∧ PyData.depthAll ps ≤ n + 1 ∧ PyData.canLayAll0 ps = true ∧ PyData.hasDictAll ps = false ∧ PyData.leavesShortAll 1921 ps = true ∧ PyData.bulkAll ps ≤ xs.length * (w + 1)
  | [], _ => ⟨[], rfl, by simp [PyData.showableAll], by simp [PyData.depthAll], by simp [PyData.canLayAll0], by simp [PyData.hasDictAll], by simp [PyData.leavesShortAll], by simp [PyData.bulkAll]⟩
  | x :: xs, h => by
    obtain ⟨p, h1, q⟩ := h x List.mem_cons_self
    obtain ⟨ps, h2, g1, g2, g3, g4, g5, g6⟩ := all_py (xs := xs) fun y hy => h y (List.mem_cons_of_mem _ hy)
    refine ⟨p :: ps, by simp [pyAll, h1, h2], by simp [PyData.showableAll, q.sh, g1], ?_, by simp [PyData.canLayAll0, q.cl, g3], by simp [PyData.hasDictAll, q.hd, g4], by simp [PyData.leavesShortAll, q.ls, g5], ?_⟩
    · simp only [PyData.depthAll]
      have := q.dp
      omega
    · simp only [PyData.bulkAll, List.length_cons, Nat.succ_mul]
      have := q.bk
      omega
theorem Rd.py {n w : Nat} {d : D} (h : Rd n w d) : ∃ p, d.py = some p ∧ PyOk n w p := by
  induction h with
  | non => exact ⟨.none, rfl, by simp [PyData.showable], by simp [PyData.depth], by simp [PyData.canLay0], by simp [PyData.hasDict], by simp [PyData.leavesShort], by simp [PyData.bulk]⟩
  | bl b => exact ⟨.bool b, rfl, by simp [PyData.showable], by simp [PyData.depth], by simp [PyData.canLay0], by simp [PyData.hasDict], by simp [PyData.leavesShort], by simp [PyData.bulk]⟩
  | @int n w i h =>
    refine ⟨.int i, rfl, by simp [PyData.showable, h], by simp [PyData.depth], by simp [PyData.canLay0], by simp [PyData.hasDict], ?_, by simp [PyData.bulk]⟩
    have q := int_text_length_le (a := i) (k := 1920) (by omega) h
    have e : (Str.ofString (toString i)).length = (toString i).length := by
      rw [Str.ofString_eq_toList]
      show ((toString i).toList.map Char.toNat).toArray.size = _
      rw [List.size_toArray, List.length_map]
      exact String.length_toList
    have e2 : (PyData.int i).shown.length ≤ 1921 := Nat.le_trans (Nat.le_of_eq e) q
    simp only [PyData.leavesShort, decide_eq_true_eq]
    exact e2
  | @str n w x h l =>
    refine ⟨.str x, rfl, by simp [PyData.showable], by simp [PyData.depth], by simp [PyData.canLay0, h], by simp [PyData.hasDict], ?_, by simp only [PyData.bulk]; exact l⟩
    simp only [PyData.leavesShort, List.all_eq_true, decide_eq_true_eq]
    intro c hc
    have q : x.cps.all (· < 0x110000) = true := h
    rw [Array.all_eq_true'] at q
    have := q c (by simpa using hc)
    simp only [decide_eq_true_eq] at this
    omega
  | @tup n w w' xs h l ih =>
    obtain ⟨ps, h2, g1, g2, g3, g4, g5, g6⟩ := all_py ih
    exact ⟨.tuple ps, by simp [D.py, h2], by simp [PyData.showable, g1], by simp only [PyData.depth]; omega, by simp [PyData.canLay0, g3], by simp [PyData.hasDict, g4], by simp [PyData.leavesShort, g5], by simp only [PyData.bulk]; omega⟩
  | @lst n w w' xs h l ih =>
    obtain ⟨ps, h2, g1, g2, g3, g4, g5, g6⟩ := all_py ih
    exact ⟨.list ps, by simp [D.py, h2], by simp [PyData.showable, g1], by simp only [PyData.depth]; omega, by simp [PyData.canLay0, g3], by simp [PyData.hasDict, g4], by simp [PyData.leavesShort, g5], by simp only [PyData.bulk]; omega⟩
theorem Rd.show {n w : Nat} {d : D} (h : Rd n w d) (hn : n ≤ 59) (hw : w ≤ 8000) : ∃ z, showD d = some z := by
  obtain ⟨p, e, q⟩ := h.py
  refine ⟨p.shown, ?_⟩
  unfold showD
  rw [e]
  have h1 := PyData.shown_le_bulk 1921 (by omega) p q.ls
  have h2 := q.bk
  have h3 := q.dp
  have h4 : p.depth ≤ 60 := by omega
  have h5 : p.shown.length ≤ sizeLine := by
    rw [sizeLine_eq]
    have : (1921 + 2) * p.bulk ≤ 1923 * 8000 := Nat.mul_le_mul_left _ (by omega)
    omega
  simp [q.sh, q.hd, h4, h5]
theorem Rd.eqA {n w : Nat} {d : D} (h : Rd n w d) (hn : n ≤ 60) : eqA d d = some true := by
  have e : eqD d d = some true := by
    obtain ⟨p, e, q⟩ := h.py
    unfold eqD
    have h3 := q.dp
    have : SeqAt.shaped p = true := by
      unfold SeqAt.shaped
      rw [q.cl]
      simp only [Bool.true_and, decide_eq_true_eq]
      omega
    simp [e, this, SeqAt.eqv_refl p q.cl]
  unfold Mn.eqA
  cases d <;> simp [sclD, e]
end Mn
namespace Mn
open PySem L2
abbrev FU : Nat := 10000
abbrev C (k f : Nat) (ds : List D) (S : Sto) : Out D := callN P (glC cs) FU k f ds S
theorem C_eq {f : Nat} {m : MF} (h : P.lookup f = some m) (k : Nat) (ds : List D) (S : Sto) (hl : ds.length = m.ps) :
    C (k + 1) f ds S = fin (exs (C k) (glC cs) FU m.body (ds.map (fun d => some (.val d)) ++ List.replicate (m.names.length - m.ps) none) S) := callN_eq h k ds S hl
/-! ### is_integer, is_count, is_high -/
theorem c_is_integer (k : Nat) (i : Int) (S : Sto) : C (k + 1) 15 [.int i] S = .ok (.bl true) S := by
  rw [C_eq lk_is_integer k _ S rfl]
  simp [m_is_integer]
theorem c_is_count (k : Nat) (i : Int) (S : Sto) (h : 0 ≤ i) : C (k + 2) 13 [.int i] S = .ok (.bl true) S := by
  rw [C_eq lk_is_count _ _ S rfl]
  simp [m_is_count, c_is_integer, h]
/-- the upper end of a stretch -/
def IsHigh (low : Int) (h : D) : Prop := h = .str "open" ∨ ∃ j, h = .int j ∧ low < j
theorem c_is_high (k : Nat) (low : Int) (h : D) (S : Sto) (hh : IsHigh low h) : C (k + 2) 14 [h, .int low] S = .ok (.bl true) S := by
  rw [C_eq lk_is_high _ _ S rfl]
  rcases hh with rfl | ⟨j, rfl, hj⟩
  · simp [m_is_high, gk_OPEN]
  · simp [m_is_high, c_is_integer, hj]
theorem c_check_stretch (k : Nat) (low : Int) (h : D) (S : Sto) (h0 : 0 ≤ low) (hh : IsHigh low h) : C (k + 3) 9 [.int low, h] S = .ok .non S := by
  rw [C_eq lk_check_stretch _ _ S rfl]
  simp [m_check_stretch, c_is_count, c_is_high, h0, hh]
/-! ### the law's draws -/
def Src (S : Sto) (n : Nat) : Prop := ∃ a b c : Int, S[n]? = some (.lst [.int a, .int b, .int c]) ∧ 0 ≤ b
/-- all but the one place stays -/
structure Ly (n : Nat) (S S' : Sto) : Prop where
  len : S'.length = S.length
  src : Src S' n
  oth : ∀ j, j ≠ n → S'[j]? = S[j]?
theorem Ly.trans {n : Nat} {S S1 S2 : Sto} (a : Ly n S S1) (b : Ly n S1 S2) : Ly n S S2 := ⟨b.len.trans a.len, b.src, fun j h => (b.oth j h).trans (a.oth j h)⟩
def SmallM (m : Int) : Prop := 0 < m ∧ m < 2 ^ 200
theorem c_below (k n : Nat) (m : Int) (S : Sto) (h : Src S n) (hm : SmallM m) : ∃ r S', C (k + 1) 21 [.obj n, .int m] S = .ok (.int r) S' ∧ 0 ≤ r ∧ r < m ∧ Ly n S S' := by
  obtain ⟨a, b, c, hS, hb⟩ := h
  obtain ⟨m0, m1⟩ := hm
  have hn : n < S.length := (List.getElem?_eq_some_iff.mp hS).1
  have hd := div_s m0 m1
  by_cases hb0 : 0 < b
  · refine ⟨b % m, S.set n (.lst [.int a, .int (b / m), .int c]), ?_, Int.emod_nonneg _ (by omega), Int.emod_lt_of_pos _ m0, by simp, ⟨a, b / m, c, by simp [hn], Int.ediv_nonneg hb (by omega)⟩, fun j hj => by simp [Ne.symm hj]⟩
    rw [C_eq lk__law_below _ _ S rfl]
    simp [m__law_below, rdL_obj hS, setD_obj hS, hb0, hd]
  · have hb1 : b = 0 := by omega
    subst hb1
    have e := C_eq lk__law_below k [.obj n, .int m] S rfl
    simp [m__law_below, rdL_obj hS, setD_obj hS, rdL_set hn, setD_set hn, mul_r, mul_mod, div_s, m0] at e
    refine ⟨_, _, e, Int.emod_nonneg _ (by omega), Int.emod_lt_of_pos _ m0, by simp, ⟨_, 0, c + 1, by simp [hn]; rfl, Int.le_refl 0⟩, fun j hj => by simp [Ne.symm hj]⟩
/-- a draw from a list -/
theorem c_choice (k n : Nat) (xs : List D) (S : Sto) (h : Src S n) (h0 : 0 < xs.length) (h1 : xs.length ≤ 1000000) : ∃ x S', x ∈ xs ∧ C (k + 2) 22 [.obj n, .lst xs] S = .ok x S' ∧ Ly n S S' := by
  obtain ⟨r, S', e1, r0, r1, ly⟩ := c_below k n xs.length S h ⟨by omega, by omega⟩
  obtain ⟨j, rfl⟩ : ∃ j : Nat, r = j := ⟨r.toNat, by omega⟩
  have hj : j < xs.length := by omega
  refine ⟨xs[j], S', List.getElem_mem _, ?_, ly⟩
  rw [C_eq lk__law_choice _ _ S rfl]
  simp [m__law_choice, e1, atI, ixN, hj]
/-! ### the greatest common divisor -/
theorem two_steps {a b m : Nat} (h : b < 2 ^ (m + 1)) (h0 : b ≠ 0) (h1 : a % b ≠ 0) : b % (a % b) < 2 ^ m := by
  have r1 : a % b < b := Nat.mod_lt _ (by omega)
  have r2 : b % (a % b) < a % b := Nat.mod_lt _ (by omega)
  have e := Nat.mod_add_div b (a % b)
  have q : 1 ≤ b / (a % b) := (Nat.one_le_div_iff (by omega)).mpr (by omega)
  have q2 : a % b ≤ (a % b) * (b / (a % b)) := Nat.le_mul_of_pos_right _ q
  rw [Nat.pow_succ] at h
  omega
def gcdBody : List MS := [.ife (.cmp .Eq (.var 1) (.cst (.int 0))) [.brk] [], .par [0, 1] [.val (.var 1), .val (.bin .Mod (.blt .int [.var 0]) (.var 1))]]
theorem gcd_stop (k : Nat) (a : Nat) (t x : Option SV) (d : D) (xs : List D) (S : Sto) : forO (asg (C k) (glC cs) (.name 2)) (exs (C k) (glC cs) FU gcdBody) (d :: xs) [some (.val (.int a)), some (.val (.int (0 : Nat))), t] S = .ok (.next [some (.val (.int a)), some (.val (.int (0 : Nat))), some (.val d)]) S := by
  simp [forO, asg, gcdBody, ex, evT, ev]
theorem gcd_turn (k : Nat) (a b : Nat) (t x : Option SV) (d : D) (xs : List D) (S : Sto) (h : b ≠ 0) : forO (asg (C k) (glC cs) (.name 2)) (exs (C k) (glC cs) FU gcdBody) (d :: xs) [some (.val (.int a)), some (.val (.int b)), t] S =
    forO (asg (C k) (glC cs) (.name 2)) (exs (C k) (glC cs) FU gcdBody) xs [some (.val (.int b)), some (.val (.int ((a % b : Nat) : Int))), some (.val d)] S := by
  have h' : ¬ (b : Int) = 0 := by omega
  have h2 : (0 : Int) < (b : Int) := by omega
  simp [forO, asg, gcdBody, ex, evT, ev, evs, evR, evRs, setAll, h, h', h2, Nat.pos_of_ne_zero h]
theorem gcd_loop (k : Nat) (S : Sto) : ∀ (m a b : Nat) (t : Option SV) (xs : List D), b < 2 ^ m → 2 * m + 1 ≤ xs.length → ∃ t', forO (asg (C k) (glC cs) (.name 2)) (exs (C k) (glC cs) FU gcdBody) xs [some (.val (.int a)), some (.val (.int b)), t] S = .ok (.next [some (.val (.int ((Nat.gcd a b : Nat) : Int))), some (.val (.int (0 : Nat))), t']) S
  | 0, a, b, t, [], _, h => by simp at h
  | 0, a, b, t, d :: xs, hb, h => by
    obtain rfl : b = 0 := by simpa using hb
    exact ⟨some (.val d), by rw [gcd_stop k a t t, Nat.gcd_zero_right]⟩
  | m + 1, a, b, t, d :: xs, hb, h => by
    by_cases h0 : b = 0
    · subst h0
      exact ⟨some (.val d), by rw [gcd_stop k a t t, Nat.gcd_zero_right]⟩
    · match xs, h with
      | [], h => simp at h
      | d2 :: xs, h =>
        rw [gcd_turn k a b t t d _ S h0]
        by_cases h1 : a % b = 0
        · rw [h1, gcd_stop k b _ t]
          refine ⟨some (.val d2), ?_⟩
          rw [Nat.gcd_comm a b, Nat.gcd_rec b a, h1, Nat.gcd_zero_left]
        · rw [gcd_turn k b (a % b) _ t d2 _ S h1]
          obtain ⟨t', e⟩ := gcd_loop k S m (a % b) (b % (a % b)) (some (.val d2)) xs (two_steps hb h0 h1) (by simp at h; omega)
          refine ⟨t', ?_⟩
          rw [e]
          have : Nat.gcd (a % b) (b % (a % b)) = Nat.gcd a b := by
            rw [Nat.gcd_comm, ← Nat.gcd_rec, Nat.gcd_comm, Nat.gcd_comm a b, Nat.gcd_rec b a, Nat.gcd_comm]
          rw [this]
  | m + 1, a, b, t, [], hb, h => by simp at h
theorem c_gcd (k a b : Nat) (S : Sto) (h : b < 2 ^ 900) : C (k + 1) 20 [.int a, .int b] S = .ok (.int ((Nat.gcd a b : Nat) : Int)) S := by
  obtain ⟨t', e⟩ := gcd_loop k S 900 a b none ((List.range 2000).map fun i => .int ((i : Nat) : Int)) h (by simp)
  have r : rng1O (.int 2000) = some ((List.range 2000).map fun i => .int ((i : Nat) : Int)) := rng_nat (r := 2000) (by omega)
  rw [C_eq lk__law_gcd _ _ S rfl]
  simp only [m__law_gcd]
  simp [r]
  rw [show ([MS.ife (MT.cmp CmpOp.Eq (ME.var 1) (ME.cst (D.int 0))) [MS.brk] [], MS.par [0, 1] [MR.val (ME.var 1), MR.val (ME.bin Operator.Mod (ME.blt Bi.int [ME.var 0]) (ME.var 1))]] : List MS) = gcdBody from rfl]
  simp at e
  rw [e]
  simp []
/-! ### lowest terms -/
def ltBody : List MS := [.par [2, 3] [.val (.var 3), .val (.bin .Mod (.var 2) (.var 3))]]
def ltTest : MT := .cmp .Gt (.var 3) (.cst (.int 0))
abbrev ltLoop (k n : Nat) (x y : Option SV) (a b : Int) (S : Sto) : Out Fl := whileO (fun fr S => evT (C k) (glC cs) fr ltTest S) (exs (C k) (glC cs) FU ltBody) n [x, y, some (.val (.int a)), some (.val (.int b))] S
theorem lt_stop (k n : Nat) (x y : Option SV) (a : Int) (S : Sto) : ltLoop k (n + 1) x y a 0 S = .ok (.next [x, y, some (.val (.int a)), some (.val (.int 0))]) S := by
  simp [ltLoop, whileO, ltTest, evT, ev]
theorem lt_turn (k n : Nat) (x y : Option SV) (a b : Nat) (S : Sto) (h : b ≠ 0) : ltLoop k (n + 1) x y a b S = ltLoop k n x y b ((a % b : Nat) : Int) S := by
  have h2 : (0 : Int) < (b : Int) := by omega
  simp [ltLoop, whileO, ltTest, ltBody, evT, ev, ex, evR, evRs, setAll, h2, Nat.pos_of_ne_zero h]
theorem lt_loop (k : Nat) (x y : Option SV) (S : Sto) : ∀ (m a b n : Nat), b < 2 ^ m → 2 * m + 1 ≤ n → ltLoop k n x y a b S = .ok (.next [x, y, some (.val (.int ((Nat.gcd a b : Nat) : Int))), some (.val (.int 0))]) S
  | m, a, b, 0, _, h => by omega
  | 0, a, b, n + 1, hb, h => by
    obtain rfl : b = 0 := by simpa using hb
    rw [Nat.gcd_zero_right]
    exact lt_stop k n x y a S
  | m + 1, a, b, n + 1, hb, h => by
    by_cases h0 : b = 0
    · subst h0
      rw [Nat.gcd_zero_right]
      exact lt_stop k n x y a S
    · match n, h with
      | 0, h => omega
      | n + 1, h =>
        rw [lt_turn k _ x y a b S h0]
        by_cases h1 : a % b = 0
        · rw [h1]
          refine (lt_stop k n x y b S).trans ?_
          rw [Nat.gcd_comm a b, Nat.gcd_rec b a, h1, Nat.gcd_zero_left]
        · rw [lt_turn k _ x y b (a % b) S h1, lt_loop k x y S m (a % b) (b % (a % b)) n (two_steps hb h0 h1) (by omega)]
          have : Nat.gcd (a % b) (b % (a % b)) = Nat.gcd a b := by
            rw [Nat.gcd_comm, ← Nat.gcd_rec, Nat.gcd_comm, Nat.gcd_comm a b, Nat.gcd_rec b a, Nat.gcd_comm]
          rw [this]
theorem c_lowest (k a b : Nat) (S : Sto) (h0 : 0 < b) (h : b < 2 ^ 4000) : C (k + 1) 11 [.int a, .int b] S = .ok (.tup [.int ((a / Nat.gcd a b : Nat) : Int), .int ((b / Nat.gcd a b : Nat) : Int)]) S := by
  have e : wh (C k) (glC cs) FU ltTest ltBody FU _ S = _ := lt_loop k (some (.val (.int a))) (some (.val (.int b))) S 4000 a b FU h (by decide)
  simp only [ltTest, ltBody] at e
  have g0 : 0 < Nat.gcd a b := Nat.gcd_pos_of_pos_right _ h0
  have g1 : Nat.gcd a b ≤ b := Nat.gcd_le_right _ h0
  have hd : divOk ((Nat.gcd a b : Nat) : Int) = true := by
    refine div_ok (by omega) ?_
    have q : Nat.gcd a b < 2 ^ 8000 := Nat.lt_of_le_of_lt g1 (Nat.lt_trans h (Nat.pow_lt_pow_right (by omega) (by omega)))
    exact_mod_cast q
  rw [C_eq lk_lowest_terms _ _ S rfl]
  simp only [m_lowest_terms]
  have ha : ¬ (a : Int) < 0 := by omega
  simp [ha]
  rw [e]
  simp [hd]
end Mn
namespace Mn
open PySem L2
/-! ### triples -/
structure Tr where
  a : Nat
  b : Nat
  m : Nat
def Tr.d (t : Tr) : D := .tup [.int t.a, .int t.b, .int t.m]
structure Tr.ok (t : Tr) : Prop where
  b0 : 0 < t.b
  b1 : t.b ≤ 60
  m0 : 0 < t.m
  cp : Nat.gcd t.a t.b = 1
  a1 : t.a < 2 ^ 300
  m1 : t.m < 2 ^ 200
def liesB (low : Int) (hi : D) (t : Tr) : Bool := decide (low * (t.b : Int) ≤ (t.a : Int)) && (match hi with
  | .int j => decide ((t.a : Int) < j * (t.b : Int))
  | _ => true)
theorem c_lies_in (k : Nat) (t : Tr) (low : Int) (hi : D) (S : Sto) (h : t.ok) (hh : IsHigh low hi) : C (k + 1) 10 [t.d, .int low, hi] S = .ok (.bl (liesB low hi t)) S := by
  have hb : ((t.b : Nat) : Int) < 2 ^ 64 := by have := h.b1; omega
  have hb2 : -(2 ^ 64) < ((t.b : Nat) : Int) := by omega
  have mo : ∀ i, mulOk i (t.b : Int) = true := fun i => mul_r hb2 hb
  rw [C_eq lk_lies_in _ _ S rfl]
  rcases hh with rfl | ⟨j, rfl, hj⟩
  · by_cases h1 : (t.a : Int) < low * (t.b : Int)
    · simp [m_lies_in, Tr.d, gk_OPEN, mo, liesB, h1]
    · simp [m_lies_in, Tr.d, gk_OPEN, mo, liesB, h1]
      omega
  · by_cases h1 : (t.a : Int) < low * (t.b : Int)
    · have h2 : ¬ low * (t.b : Int) ≤ (t.a : Int) := by omega
      simp [m_lies_in, Tr.d, gk_OPEN, mo, liesB, h1, h2]
    · have h2 : low * (t.b : Int) ≤ (t.a : Int) := by omega
      simp [m_lies_in, Tr.d, gk_OPEN, mo, liesB, h1, h2]
theorem c_lies (k : Nat) (t : Tr) (low : Int) (hi : D) (S : Sto) (h : t.ok) (hh : IsHigh low hi) : C (k + 1) 6 [t.d, .int low, hi] S = .ok (.bl (liesB low hi t)) S := by
  have hb : ((t.b : Nat) : Int) < 2 ^ 64 := by have := h.b1; omega
  have hb2 : -(2 ^ 64) < ((t.b : Nat) : Int) := by omega
  have mo : ∀ i, mulOk i (t.b : Int) = true := fun i => mul_r hb2 hb
  rw [C_eq lk__law_lies _ _ S rfl]
  rcases hh with rfl | ⟨j, rfl, hj⟩
  · by_cases h1 : low * (t.b : Int) ≤ (t.a : Int)
    · simp [m__law_lies, Tr.d, mo, liesB, h1]
    · simp [m__law_lies, Tr.d, mo, liesB, h1]
  · by_cases h1 : low * (t.b : Int) ≤ (t.a : Int)
    · simp [m__law_lies, Tr.d, mo, liesB, h1]
    · simp [m__law_lies, Tr.d, mo, liesB, h1]
theorem sl_1 (xs : List D) : cutL xs (some 1) none = xs.tail := by
  cases xs with
  | nil => rfl
  | cons x xs =>
    unfold cutL
    have e : HT.sIx (x :: xs).length 0 (some 1) = 1 := by
      show min 1 (x :: xs).length = 1
      simp only [List.length_cons]; omega
    rw [e, HT.sIx_none]
    simp
theorem sl_02 (x y : D) (xs : List D) : cutL (x :: y :: xs) none (some 2) = [x, y] := by
  unfold cutL
  have e : HT.sIx (x :: y :: xs).length (x :: y :: xs).length (some 2) = 2 := by
    show min 2 (x :: y :: xs).length = 2
    simp only [List.length_cons]; omega
  rw [e, HT.sIx_none]
  rfl
theorem c_is_triple (k : Nat) (t : Tr) (S : Sto) (h : t.ok) : C (k + 2) 18 [t.d] S = .ok (.bl true) S := by
  have q : t.b < 2 ^ 4000 := Nat.lt_of_le_of_lt h.b1 (by decide +kernel)
  have lo := c_lowest k t.a t.b S h.b0 q
  rw [h.cp, Nat.div_one, Nat.div_one] at lo
  have e1 : ev (C (k + 1)) (glC cs) [some (.val t.d), none] (.lc [1] (.name 1) (.tup (.var 0)) [] (.call 15 [.var 1])) S = .ok (.lst ([D.int t.a, .int t.b, .int t.m].map fun _ => .bl true)) S := by
    refine ev_lcm _ id (fun _ => .bl true) (by simp [Tr.d]) (by rw [sizeLine_eq]; simp) fun x hx => ?_
    show turn _ _ _ _ _ _ _ x S = _
    have : ∃ i, x = .int i := by
      simp at hx
      rcases hx with rfl | rfl | rfl <;> exact ⟨_, rfl⟩
    obtain ⟨i, rfl⟩ := this
    simp [turn, wipeF, c_is_integer]
  have a1 : ¬ (t.a : Int) < 0 := by omega
  have a2 : ¬ (t.b : Int) < 1 := by have := h.b0; omega
  have a3 : ¬ (t.m : Int) < 1 := by have := h.m0; omega
  have e2 : eqA (.tup [.int t.a, .int t.b]) (.tup [.int t.a, .int t.b]) = some true := by
    refine Rd.eqA (n := 1) (w := 2) (.tup (w' := 0) (fun x hx => ?_) (by simp)) (by omega)
    simp at hx
    rcases hx with rfl | rfl
    · exact .int (Nat.lt_of_lt_of_le (log_lt (k := 300) (by simpa using h.a1) (by omega)) (by omega))
    · exact .int (Nat.lt_of_lt_of_le (log_lt (k := 300) (Nat.lt_of_le_of_lt (m := 60) (by simpa using h.b1) (by decide +kernel)) (by omega)) (by omega))
  rw [C_eq lk_is_triple _ _ S rfl]
  simp only [m_is_triple]
  simp [Tr.d] at e1 ⊢
  simp [e1, blsD, a1, a2, a3, lo, sl_02, e2]
/-! ### data -/
def Asc (ts : List Tr) : Prop := ∀ p ∈ ts.zip (ts.tail), p.1.a * p.2.b < p.2.a * p.1.b
structure DataOk (ts : List Tr) : Prop where
  all : ∀ t ∈ ts, t.ok
  asc : Asc ts
  len : ts.length ≤ 1000
theorem zip_d (ts : List Tr) : zipD (ts.map Tr.d) ((ts.map Tr.d).tail) = (ts.zip (ts.tail)).map fun p => .tup [p.1.d, p.2.d] := by
  unfold zipD
  rw [← List.map_tail, List.zip_map, List.map_map]
  rfl
theorem all_true {α : Type} (xs : List α) : (xs.map fun _ => true).all id = true := by
  induction xs with
  | nil => rfl
  | cons x xs ih => simp
theorem c_is_data (k : Nat) (ts : List Tr) (S : Sto) (h : DataOk ts) : C (k + 3) 16 [.tup (ts.map Tr.d)] S = .ok (.bl true) S := by
  have hl : ts.length ≤ sizeLine := Nat.le_trans h.len (by decide)
  have e1 : ev (C (k + 2)) (glC cs) [some (.val (.tup (ts.map Tr.d))), none, none, none] (.lc [3] (.name 3) (.tup (.var 0)) [] (.call 18 [.var 3])) S = .ok (.lst (ts.map fun _ => .bl true)) S := by
    refine ev_lcm ts Tr.d (fun _ => .bl true) (by simp) hl fun t ht => ?_
    simp [turn, wipeF, c_is_triple k t S (h.all t ht)]
  have e2 : ev (C (k + 2)) (glC cs) [some (.val (.tup (ts.map Tr.d))), none, none, none] (.lc [1, 2] (.tup [.name 1, .name 2]) (.zip (.var 0) (.sl (.var 0) (some (.cst (.int 1))) none)) []
      (.cmp .Lt (.bin .Mult (.sub (.var 1) (.cst (.int 0))) (.sub (.var 2) (.cst (.int 1)))) (.bin .Mult (.sub (.var 2) (.cst (.int 0))) (.sub (.var 1) (.cst (.int 1)))))) S = .ok (.lst ((ts.zip (ts.tail)).map fun _ => .bl true)) S := by
    refine ev_lcm (ts.zip (ts.tail)) (fun p => .tup [p.1.d, p.2.d]) (fun _ => .bl true) (by simp [sl_1, zip_d]) (Nat.le_trans (by rw [List.length_zip]; exact Nat.min_le_left _ _) hl) fun p hp => ?_
    have hz := List.of_mem_zip hp
    have o1 := h.all _ hz.1
    have o2 := h.all _ (List.mem_of_mem_tail hz.2)
    have b1 : mulOk (p.1.a : Int) (p.2.b : Int) = true := mul_r (by omega) (by have := o2.b1; omega)
    have b2 : mulOk (p.2.a : Int) (p.1.b : Int) = true := mul_r (by omega) (by have := o1.b1; omega)
    have lt : (p.1.a : Int) * (p.2.b : Int) < (p.2.a : Int) * (p.1.b : Int) := by exact_mod_cast h.asc p hp
    simp [turn, wipeF, Tr.d, b1, b2, lt]
  rw [C_eq lk_is_data _ _ S rfl]
  simp only [m_is_data]
  simp at e1 e2 ⊢
  simp [e1, e2, bls_all]
theorem c_check_data (k : Nat) (ts : List Tr) (S : Sto) (h : DataOk ts) : C (k + 4) 8 [.tup (ts.map Tr.d)] S = .ok .non S := by
  have := h.len
  have h1 : ¬ (1000 : Int) < (ts.length : Int) := by omega
  rw [C_eq lk_check_data _ _ S rfl]
  simp [m_check_data, c_is_data k ts S h, gk_MOST_TRIPLES, h1]
end Mn
namespace Mn
open PySem L2
/-! ### counts and totals -/
def cntF (ts : List Tr) : Int := (ts.map fun t => (t.m : Int)).sum
theorem c_count_in (k : Nat) (ts : List Tr) (low : Int) (hi : D) (S : Sto) (h : DataOk ts) (hh : IsHigh low hi) : C (k + 2) 19 [.tup (ts.map Tr.d), .int low, hi] S = .ok (.int (cntF (ts.filter (liesB low hi)))) S := by
  have hl : ts.length ≤ sizeLine := Nat.le_trans h.len (by decide)
  have e1 : ev (C (k + 1)) (glC cs) [some (.val (.tup (ts.map Tr.d))), some (.val (.int low)), some (.val hi), none] (.lc [3] (.name 3) (.tup (.var 0)) [.tru (.call 10 [.var 3, .var 1, .var 2])] (.sub (.var 3) (.cst (.int 2)))) S = .ok (.lst ((ts.filter (liesB low hi)).map fun t => .int t.m)) S := by
    refine ev_lcf ts Tr.d (liesB low hi) (fun t => .int t.m) (by simp) hl fun t ht => ?_
    cases e : liesB low hi t with
    | true =>
      have l := c_lies_in k t low hi S (h.all t ht) hh
      simp [Tr.d, e] at l
      simp [turn, wipeF, l, Tr.d]
    | false => simp [turn, wipeF, c_lies_in k t low hi S (h.all t ht) hh, e]
  rw [C_eq lk_count_in _ _ S rfl]
  simp only [m_count_in]
  simp at e1 ⊢
  simp [e1, ints_all, cntF]
theorem c_count (k : Nat) (ts : List Tr) (low : Int) (hi : D) (S : Sto) (h : DataOk ts) (h0 : 0 ≤ low) (hh : IsHigh low hi) : C (k + 5) 0 [.tup (ts.map Tr.d), .int low, hi] S = .ok (.int (cntF (ts.filter (liesB low hi)))) S := by
  rw [C_eq lk_count _ _ S rfl]
  simp [m_count, c_check_data k ts S h, c_check_stretch (k + 1) low hi S h0 hh, c_count_in (k + 2) ts low hi S h hh]
/-- a fraction and a triple more -/
def addF (s : Nat × Nat) (t : Tr) : Nat × Nat := ((s.1 * t.b + t.a * t.m * s.2) / Nat.gcd (s.1 * t.b + t.a * t.m * s.2) (s.2 * t.b), s.2 * t.b / Nat.gcd (s.1 * t.b + t.a * t.m * s.2) (s.2 * t.b))
def totF (ts : List Tr) : Nat × Nat := ts.foldl addF (0, 1)
theorem am_ok {t : Tr} (h : t.ok) : mulOk (t.a : Int) (t.m : Int) = true := by
  refine mul_b ?_ ?_
  · show t.a < _
    exact Nat.lt_trans h.a1 (Nat.pow_lt_pow_right (by omega) (by omega))
  · show t.m < _
    exact Nat.lt_trans h.m1 (Nat.pow_lt_pow_right (by omega) (by omega))
theorem addF_pos {s : Nat × Nat} {t : Tr} (h : t.ok) (h2 : 0 < s.2) : 0 < (addF s t).2 := by
  have p : 0 < s.2 * t.b := Nat.mul_pos h2 h.b0
  exact Nat.div_pos (Nat.gcd_le_right _ p) (Nat.gcd_pos_of_pos_right _ p)
theorem addF_le {s : Nat × Nat} {t : Tr} (h : t.ok) : (addF s t).2 ≤ s.2 * 60 := Nat.le_trans (Nat.div_le_self _ _) (Nat.mul_le_mul_left _ h.b1)
theorem c_total (k : Nat) (ts : List Tr) (low : Int) (hi : D) (S : Sto) (h : DataOk ts) (h8 : ts.length ≤ 8) (h0 : 0 ≤ low) (hh : IsHigh low hi) :
    C (k + 5) 1 [.tup (ts.map Tr.d), .int low, hi] S = .ok (.tup [.int ((totF (ts.filter (liesB low hi))).1 : Nat), .int ((totF (ts.filter (liesB low hi))).2 : Nat)]) S := by
  let F : Nat × Nat → Option SV → Frm := fun s o => [some (.val (.tup (ts.map Tr.d))), some (.val (.int low)), some (.val hi), o, some (.val (.int s.1)), some (.val (.int s.2))]
  let f : Nat × Nat → Tr → Nat × Nat := fun s t => if liesB low hi t then addF s t else s
  have key := for_fold (S := S) (g := asg (C (k + 4)) (glC cs) (.name 3)) (b := exs (C (k + 4)) (glC cs) FU [.ife (.tru (.call 10 [.var 3, .var 1, .var 2])) [.asg (.tup [.name 4, .name 5]) (.call 11 [.bin .Add (.bin .Mult (.var 4) (.sub (.var 3) (.cst (.int 1)))) (.bin .Mult (.bin .Mult (.sub (.var 3) (.cst (.int 0))) (.sub (.var 3) (.cst (.int 2)))) (.var 5)), .bin .Mult (.var 5) (.sub (.var 3) (.cst (.int 1)))])] []])
    Tr.d F f (fun r s => (∀ t ∈ r, t.ok) ∧ 0 < s.2 ∧ s.2 * 60 ^ r.length ≤ 167961600000000) (fun t r s o hI => by
      obtain ⟨i1, i2, i3⟩ := hI
      have tk := i1 t List.mem_cons_self
      have i3' : s.2 * 60 * 60 ^ r.length ≤ 167961600000000 := by rw [List.length_cons, Nat.pow_succ] at i3; rw [Nat.mul_assoc, Nat.mul_comm 60]; exact i3
      have p60 : 1 ≤ 60 ^ r.length := Nat.pow_pos (by omega)
      have s2 : s.2 * 60 ≤ 167961600000000 := Nat.le_trans (Nat.le_mul_of_pos_right _ p60) i3'
      have l1 := c_lies_in (k + 3) t low hi S tk hh
      cases e : liesB low hi t with
      | false =>
        rw [e] at l1
        refine ⟨⟨fun t ht => i1 t (List.mem_cons_of_mem _ ht), by simp [f, e, i2], ?_⟩, _, asg_name _ _ _ _ _ _, ?_⟩
        · simp only [f, e, Bool.false_eq_true, if_false]
          exact Nat.le_trans (Nat.mul_le_mul_right _ (by omega)) i3'
        · simp [F, f, e, l1]
      | true =>
        rw [e] at l1
        have b1 := tk.b1
        have b0 := tk.b0
        have n1 : mulOk (s.1 : Int) (t.b : Int) = true := mul_r (by omega) (by omega)
        have n2 : mulOk (s.2 : Int) (t.b : Int) = true := mul_r (by omega) (by omega)
        have n3 : mulOk ((t.a : Int) * (t.m : Int)) (s.2 : Int) = true := mul_r (by omega) (by omega)
        have lo := c_lowest (k + 3) (s.1 * t.b + t.a * t.m * s.2) (s.2 * t.b) S (Nat.mul_pos i2 b0) (by
          refine Nat.lt_of_le_of_lt (Nat.mul_le_mul_left _ b1) (Nat.lt_of_le_of_lt s2 ?_)
          exact Nat.lt_trans (show 167961600000000 < 2 ^ 50 by decide +kernel) (Nat.pow_lt_pow_right (by omega) (by omega)))
        refine ⟨⟨fun t ht => i1 t (List.mem_cons_of_mem _ ht), by simp only [f, e, if_true]; exact addF_pos tk i2, ?_⟩, _, asg_name _ _ _ _ _ _, ?_⟩
        · simp only [f, e, if_true]
          exact Nat.le_trans (Nat.mul_le_mul_right _ (addF_le tk)) i3'
        · simp at lo
          simp [F, f, e, l1, Tr.d, n1, n2, n3, am_ok tk] at *
          simp [lo, addF]) ts (0, 1) none ⟨h.all, by decide, by
      have : 60 ^ ts.length ≤ 60 ^ 8 := Nat.pow_le_pow_right (by omega) h8
      simpa using this⟩
  obtain ⟨o', key, _⟩ := key
  have ft : ts.foldl f (0, 1) = totF (ts.filter (liesB low hi)) := by
    unfold totF
    rw [List.foldl_filter]
  rw [ft] at key
  rw [C_eq lk_total _ _ S rfl]
  simp only [m_total]
  simp [c_check_data k ts S h, c_check_stretch (k + 1) low hi S h0 hh]
  simp [F] at key
  rw [key]
  simp
end Mn
namespace Mn
open PySem L2
/-! ### fractions, in plain numbers -/
theorem frac_one {p q x y : Nat} (h : p * y = x * q) (hq : 0 < q) (hy : 0 < y) (g1 : Nat.gcd p q = 1) (g2 : Nat.gcd x y = 1) : p = x ∧ q = y := by
  have d1 : q ∣ y := by
    have : q ∣ p * y := ⟨x, by rw [h, Nat.mul_comm]⟩
    exact (Nat.Coprime.symm g1).dvd_of_dvd_mul_left this
  have d2 : y ∣ q := by
    have : y ∣ x * q := ⟨p, by rw [← h, Nat.mul_comm]⟩
    exact (Nat.Coprime.symm g2).dvd_of_dvd_mul_left this
  have e : q = y := Nat.dvd_antisymm d1 d2
  subst e
  exact ⟨Nat.eq_of_mul_eq_mul_right hq h, rfl⟩
/-- the sum over a common bottom -/
def numF (W : Nat) (ts : List Tr) : Nat := (ts.map fun t => t.a * t.m * (W / t.b)).sum
structure RedF (W : Nat) (s : Nat × Nat) (n : Nat) : Prop where
  pos : 0 < s.2
  red : Nat.gcd s.1 s.2 = 1
  val : s.1 * W = n * s.2
theorem add_red {W n : Nat} {s : Nat × Nat} {t : Tr} (h : RedF W s n) (hb : 0 < t.b) (hd : t.b ∣ W) : RedF W (addF s t) (n + t.a * t.m * (W / t.b)) := by
  obtain ⟨h1, h2, h3⟩ := h
  have p : 0 < s.2 * t.b := Nat.mul_pos h1 hb
  have g0 : 0 < Nat.gcd (s.1 * t.b + t.a * t.m * s.2) (s.2 * t.b) := Nat.gcd_pos_of_pos_right _ p
  have e1 := Nat.div_mul_cancel (Nat.gcd_dvd_left (s.1 * t.b + t.a * t.m * s.2) (s.2 * t.b))
  have e2 := Nat.div_mul_cancel (Nat.gcd_dvd_right (s.1 * t.b + t.a * t.m * s.2) (s.2 * t.b))
  refine ⟨Nat.div_pos (Nat.gcd_le_right _ p) g0, ?_, ?_⟩
  · exact Nat.coprime_div_gcd_div_gcd g0
  · apply Nat.eq_of_mul_eq_mul_right g0
    show (s.1 * t.b + t.a * t.m * s.2) / Nat.gcd (s.1 * t.b + t.a * t.m * s.2) (s.2 * t.b) * W * Nat.gcd (s.1 * t.b + t.a * t.m * s.2) (s.2 * t.b) = (n + t.a * t.m * (W / t.b)) * (s.2 * t.b / Nat.gcd (s.1 * t.b + t.a * t.m * s.2) (s.2 * t.b)) * Nat.gcd (s.1 * t.b + t.a * t.m * s.2) (s.2 * t.b)
    generalize Nat.gcd (s.1 * t.b + t.a * t.m * s.2) (s.2 * t.b) = g at *
    rw [Nat.mul_right_comm, e1, Nat.mul_assoc (n + _), e2]
    obtain ⟨c, rfl⟩ := hd
    rw [Nat.mul_div_cancel_left c hb]
    rw [Nat.add_mul, Nat.add_mul]
    congr 1
    · rw [Nat.mul_right_comm, h3, Nat.mul_assoc]
    · simp only [Nat.mul_assoc, Nat.mul_comm, Nat.mul_left_comm]
theorem tot_red {W : Nat} : ∀ (ts : List Tr) (s : Nat × Nat) (n : Nat), RedF W s n → (∀ t ∈ ts, 0 < t.b ∧ t.b ∣ W) → RedF W (ts.foldl addF s) (n + numF W ts)
  | [], s, n, h, _ => by simpa [numF] using h
  | t :: ts, s, n, h, hb => by
    have q := hb t List.mem_cons_self
    have r := tot_red ts (addF s t) _ (add_red h q.1 q.2) fun t ht => hb t (List.mem_cons_of_mem _ ht)
    have e : n + numF W (t :: ts) = n + t.a * t.m * (W / t.b) + numF W ts := by
      unfold numF
      rw [List.map_cons, List.sum_cons]; omega
    rw [e]
    exact r
def lcmF (ts : List Tr) : Nat := ts.foldl (fun w t => Nat.lcm w t.b) 1
theorem lcm_dvd : ∀ (ts : List Tr) (w : Nat), (w ∣ ts.foldl (fun w t => Nat.lcm w t.b) w) ∧ ∀ t ∈ ts, t.b ∣ ts.foldl (fun w t => Nat.lcm w t.b) w
  | [], w => ⟨Nat.dvd_refl _, fun _ h => by cases h⟩
  | t :: ts, w => by
    obtain ⟨h1, h2⟩ := lcm_dvd ts (Nat.lcm w t.b)
    refine ⟨Nat.dvd_trans (Nat.dvd_lcm_left _ _) h1, fun u hu => ?_⟩
    rcases List.mem_cons.mp hu with rfl | hu
    · exact Nat.dvd_trans (Nat.dvd_lcm_right _ _) h1
    · exact h2 u hu
theorem lcm_pos : ∀ (ts : List Tr) (w : Nat), 0 < w → (∀ t ∈ ts, 0 < t.b) → 0 < ts.foldl (fun w t => Nat.lcm w t.b) w
  | [], w, h, _ => h
  | t :: ts, w, h, hb => lcm_pos ts _ (Nat.lcm_pos h (hb t List.mem_cons_self)) fun t ht => hb t (List.mem_cons_of_mem _ ht)
/-- the total is the sum over one bottom -/
theorem tot_eq (ts : List Tr) (hb : ∀ t ∈ ts, 0 < t.b) : totF ts = (numF (lcmF ts) ts / Nat.gcd (numF (lcmF ts) ts) (lcmF ts), lcmF ts / Nat.gcd (numF (lcmF ts) ts) (lcmF ts)) := by
  have W0 : 0 < lcmF ts := lcm_pos ts 1 (by omega) hb
  have r := tot_red (W := lcmF ts) ts (0, 1) 0 ⟨by decide, by decide, by simp⟩ fun t ht => ⟨hb t ht, (lcm_dvd ts 1).2 t ht⟩
  rw [Nat.zero_add] at r
  have g0 : 0 < Nat.gcd (numF (lcmF ts) ts) (lcmF ts) := Nat.gcd_pos_of_pos_right _ W0
  have e1 := Nat.div_mul_cancel (Nat.gcd_dvd_left (numF (lcmF ts) ts) (lcmF ts))
  have e2 := Nat.div_mul_cancel (Nat.gcd_dvd_right (numF (lcmF ts) ts) (lcmF ts))
  have f := frac_one (p := (totF ts).1) (q := (totF ts).2) (x := numF (lcmF ts) ts / Nat.gcd (numF (lcmF ts) ts) (lcmF ts)) (y := lcmF ts / Nat.gcd (numF (lcmF ts) ts) (lcmF ts)) ?_ r.pos (Nat.div_pos (Nat.gcd_le_right _ W0) g0) r.red (Nat.coprime_div_gcd_div_gcd g0)
  · exact Prod.ext f.1 f.2
  · apply Nat.eq_of_mul_eq_mul_right g0
    have v := r.val
    show (totF ts).1 * _ * _ = _
    have v : (totF ts).1 * lcmF ts = numF (lcmF ts) ts * (totF ts).2 := r.val
    generalize Nat.gcd (numF (lcmF ts) ts) (lcmF ts) = g at *
    rw [Nat.mul_assoc, e2, v, Nat.mul_right_comm, e1]
end Mn
namespace Mn
open PySem L2
theorem lcm_eq (w b : Nat) : (w * b / Nat.gcd w b : Nat) = Nat.lcm w b := rfl
theorem lcm_le (w b : Nat) : Nat.lcm w b ≤ w * b := Nat.div_le_self _ _
theorem c_sum (k : Nat) (ts : List Tr) (S : Sto) (h : ∀ t ∈ ts, t.ok) (h8 : ts.length ≤ 8) : C (k + 2) 7 [.lst (ts.map Tr.d)] S = .ok (.tup [.int ((totF ts).1 : Nat), .int ((totF ts).2 : Nat)]) S := by
  let F1 : Nat → Option SV → Frm := fun w o => [some (.val (.lst (ts.map Tr.d))), o, none, some (.val (.int w)), some (.val (.int 0))]
  have key1 := for_fold (S := S) (g := asg (C (k + 1)) (glC cs) (.name 1)) (b := exs (C (k + 1)) (glC cs) FU [.set 3 (.val (.bin .FloorDiv (.bin .Mult (.var 3) (.sub (.var 1) (.cst (.int 1)))) (.call 20 [.var 3, .sub (.var 1) (.cst (.int 1))])))])
    Tr.d F1 (fun w t => Nat.lcm w t.b) (fun r w => (∀ t ∈ r, t.ok) ∧ 0 < w ∧ w * 60 ^ r.length ≤ 167961600000000) (fun t r w o hI => by
      obtain ⟨i1, i2, i3⟩ := hI
      have tk := i1 t List.mem_cons_self
      have b1 := tk.b1
      have b0 := tk.b0
      have i3' : w * 60 * 60 ^ r.length ≤ 167961600000000 := by rw [List.length_cons, Nat.pow_succ] at i3; rw [Nat.mul_assoc, Nat.mul_comm 60]; exact i3
      have g1 : Nat.gcd w t.b ≤ t.b := Nat.gcd_le_right _ b0
      have g0 : 0 < Nat.gcd w t.b := Nat.gcd_pos_of_pos_right _ b0
      have n1 : mulOk (w : Int) (t.b : Int) = true := mul_r (by omega) (by omega)
      have d1 : divOk ((Nat.gcd w t.b : Nat) : Int) = true := div_s (by omega) (by omega)
      have gc := c_gcd k w t.b S (Nat.lt_of_le_of_lt b1 (by decide +kernel))
      refine ⟨⟨fun t ht => i1 t (List.mem_cons_of_mem _ ht), Nat.lcm_pos i2 b0, ?_⟩, _, asg_name _ _ _ _ _ _, ?_⟩
      · exact Nat.le_trans (Nat.mul_le_mul_right _ (Nat.le_trans (lcm_le _ _) (Nat.mul_le_mul_left _ b1))) i3'
      · simp [F1, Tr.d, n1, gc, d1]
        rw [← lcm_eq]
        simp) ts 1 none ⟨h, by decide, by
      have : 60 ^ ts.length ≤ 60 ^ 8 := Nat.pow_le_pow_right (by omega) h8
      simpa using this⟩
  obtain ⟨o1, key1, _, w0, w1⟩ := key1
  have W0 : 0 < lcmF ts := w0
  have W1 : lcmF ts ≤ 167961600000000 := by simpa [lcmF] using w1
  have key1 : forO _ _ (ts.map Tr.d) (F1 1 none) S = .ok (.next (F1 (lcmF ts) o1)) S := key1
  let F2 : Nat → Option SV → Frm := fun n o => [some (.val (.lst (ts.map Tr.d))), o, none, some (.val (.int (lcmF ts : Nat))), some (.val (.int n))]
  have key2 := for_fold (S := S) (g := asg (C (k + 1)) (glC cs) (.name 1)) (b := exs (C (k + 1)) (glC cs) FU [.set 4 (.val (.bin .Add (.var 4) (.bin .Mult (.bin .Mult (.sub (.var 1) (.cst (.int 0))) (.sub (.var 1) (.cst (.int 2)))) (.bin .FloorDiv (.var 3) (.sub (.var 1) (.cst (.int 1)))))))])
    Tr.d F2 (fun n t => n + t.a * t.m * (lcmF ts / t.b)) (fun r n => ∀ t ∈ r, t.ok) (fun t r n o i1 => by
      have tk := i1 t List.mem_cons_self
      have b1 := tk.b1
      have b0 := tk.b0
      have q : lcmF ts / t.b ≤ lcmF ts := Nat.div_le_self _ _
      have n1 : mulOk ((t.a : Int) * (t.m : Int)) ((lcmF ts : Int) / (t.b : Int)) = true := by
        have : ((lcmF ts : Int) / (t.b : Int)) = ((lcmF ts / t.b : Nat) : Int) := rfl
        rw [this]
        generalize lcmF ts / t.b = z at q ⊢
        exact mul_r (by omega) (by omega)
      have d1 : divOk ((t.b : Nat) : Int) = true := div_s (by omega) (by omega)
      refine ⟨fun t ht => i1 t (List.mem_cons_of_mem _ ht), _, asg_name _ _ _ _ _ _, ?_⟩
      simp [F2, Tr.d, n1, am_ok tk, d1]) ts 0 o1 h
  obtain ⟨o2, key2, _⟩ := key2
  have nf : ∀ (l : List Tr) (n : Nat), l.foldl (fun n t => n + t.a * t.m * (lcmF ts / t.b)) n = n + numF (lcmF ts) l := by
    intro l
    induction l with
    | nil => intro n; simp [numF]
    | cons t l ih =>
      intro n
      rw [List.foldl_cons, ih]
      unfold numF
      rw [List.map_cons, List.sum_cons]; omega
  rw [nf, Nat.zero_add] at key2
  have g0 : 0 < Nat.gcd (numF (lcmF ts) ts) (lcmF ts) := Nat.gcd_pos_of_pos_right _ W0
  have g1 : Nat.gcd (numF (lcmF ts) ts) (lcmF ts) ≤ lcmF ts := Nat.gcd_le_right _ W0
  have d1 : divOk ((Nat.gcd (numF (lcmF ts) ts) (lcmF ts) : Nat) : Int) = true := div_s (by omega) (by omega)
  have gc := c_gcd k (numF (lcmF ts) ts) (lcmF ts) S (Nat.lt_of_le_of_lt W1 (Nat.lt_trans (show 167961600000000 < 2 ^ 50 by decide +kernel) (Nat.pow_lt_pow_right (by omega) (by omega))))
  rw [tot_eq ts fun t ht => (h t ht).b0]
  rw [C_eq lk__law_sum _ _ S rfl]
  simp only [m__law_sum]
  simp [F1] at key1
  simp [F2] at key2
  simp
  rw [key1]
  simp
  rw [key2]
  simp [gc, d1]
end Mn
namespace Mn
open PySem L2
/-! ### the drawn things -/
def Up (ts : List Tr) : Prop := ts.Pairwise fun t u => t.a * u.b < u.a * t.b
theorem Up.asc : ∀ {ts : List Tr}, Up ts → Asc ts
  | [], _, p, hp => by simp at hp
  | [t], _, p, hp => by simp at hp
  | t :: u :: r, h, p, hp => by
    simp only [List.tail_cons, List.zip_cons_cons, List.mem_cons] at hp
    rcases hp with rfl | hp
    · exact (List.pairwise_cons.mp h).1 u List.mem_cons_self
    · exact Up.asc (List.pairwise_cons.mp h).2 p hp
theorem Up.snoc {ts : List Tr} {u : Tr} {B : Nat} (h : Up ts) (hb : ∀ t ∈ ts, 0 < t.b) (h1 : ∀ t ∈ ts, t.a < B * t.b) (h0 : 0 < u.b) (h2 : B * u.b ≤ u.a) : Up (ts ++ [u]) := by
  refine List.pairwise_append.mpr ⟨h, List.pairwise_singleton _ _, fun t ht v hv => ?_⟩
  obtain rfl : v = u := by simpa using hv
  calc t.a * v.b < B * t.b * v.b := Nat.mul_lt_mul_of_pos_right (h1 t ht) h0
    _ = B * v.b * t.b := by rw [Nat.mul_right_comm]
    _ ≤ v.a * t.b := Nat.mul_le_mul_right _ h2
theorem red_ok {base bot y m : Nat} (hb : 0 < bot) (hb2 : bot ≤ 60) (hy : y < bot) (hm : 0 < m) (hm2 : m < 2 ^ 200) (hbase : base < 2 ^ 200) :
    Tr.ok ⟨(base * bot + y) / Nat.gcd (base * bot + y) bot, bot / Nat.gcd (base * bot + y) bot, m⟩ ∧ base * (bot / Nat.gcd (base * bot + y) bot) ≤ (base * bot + y) / Nat.gcd (base * bot + y) bot ∧ (base * bot + y) / Nat.gcd (base * bot + y) bot < (base + 1) * (bot / Nat.gcd (base * bot + y) bot) := by
  have g0 : 0 < Nat.gcd (base * bot + y) bot := Nat.gcd_pos_of_pos_right _ hb
  have e1 := Nat.div_mul_cancel (Nat.gcd_dvd_left (base * bot + y) bot)
  have e2 := Nat.div_mul_cancel (Nat.gcd_dvd_right (base * bot + y) bot)
  refine ⟨⟨Nat.div_pos (Nat.gcd_le_right _ hb) g0, Nat.le_trans (Nat.div_le_self _ _) hb2, hm, Nat.coprime_div_gcd_div_gcd g0, ?_, hm2⟩, ?_, ?_⟩
  · refine Nat.lt_of_le_of_lt (Nat.div_le_self _ _) ?_
    have h1 : base * bot ≤ 2 ^ 200 * 60 := Nat.mul_le_mul (Nat.le_of_lt hbase) hb2
    have h2 : 2 ^ 200 * 60 + 60 < 2 ^ 300 := by decide +kernel
    exact Nat.lt_of_le_of_lt (Nat.add_le_add h1 (Nat.le_of_lt (Nat.lt_of_lt_of_le hy hb2))) h2
  · apply Nat.le_of_mul_le_mul_right _ g0
    rw [Nat.mul_assoc, e2, e1]
    exact Nat.le_add_right _ _
  · apply Nat.lt_of_mul_lt_mul_right (a := Nat.gcd (base * bot + y) bot)
    rw [Nat.mul_assoc, e2, e1, Nat.succ_mul]
    exact Nat.add_lt_add_left hy _
abbrev thBody : List MS := [.set 3 (.val (.bin .Add (.bin .Add (.var 3) (.call 21 [.var 0, .cst (.int 3)])) (.bin .Mult (.call 22 [.var 0, .lst [.cst (.int 1), .cst (.int 1), .cst (.int 5), .bin .Pow (.cst (.int 10)) (.cst (.int 6)), .bin .Pow (.cst (.int 10)) (.cst (.int 29))]]) (.blt .int [.cmp .Gt (.var 1) (.cst (.int 0))])))), .set 4 (.val (.call 22 [.var 0, .lst [.cst (.int 1), .cst (.int 1), .cst (.int 2), .cst (.int 3), .cst (.int 4), .cst (.int 7), .cst (.int 12), .cst (.int 60)]])), .set 5 (.val (.bin .Add (.bin .Mult (.var 3) (.var 4)) (.call 21 [.var 0, .var 4]))), .set 6 (.val (.call 20 [.var 5, .var 4])), .set 7 (.val (.call 22 [.var 0, .lst [.cst (.int 1), .cst (.int 2), .bin .Add (.cst (.int 1)) (.call 21 [.var 0, .cst (.int 9)]), .bin .Add (.cst (.int 1)) (.call 21 [.var 0, .bin .Pow (.cst (.int 10)) (.cst (.int 6))]), .bin .Pow (.cst (.int 10)) (.cst (.int 30))]])), .append 2 (.tup [.bin .FloorDiv (.var 5) (.var 6), .bin .FloorDiv (.var 4) (.var 6), .var 7])]
/-- i things are drawn -/
structure ThI (n : Nat) (S0 : Sto) (i : Nat) (base : Nat) (ts : List Tr) (S : Sto) : Prop where
  ly : Ly n S0 S
  len : ts.length = i
  bd : base ≤ i * 100000000000000000000000000003
  ok : ∀ t ∈ ts, t.ok
  up : Up ts
  lt : ∀ t ∈ ts, t.a < (base + 1) * t.b
def thF (n : Nat) (o1 : Option SV) (ts : List Tr) (base : Nat) (o4 o5 o6 o7 : Option SV) : Frm := [some (.val (.obj n)), o1, some (.olst (ts.map Tr.d)), some (.val (.int base)), o4, o5, o6, o7]
theorem th_turn (k n i : Nat) (S0 S : Sto) (base : Nat) (ts : List Tr) (o1 o4 o5 o6 o7 : Option SV) (hi : i < 9) (h : ThI n S0 i base ts S) : ∃ base' ts' S' o4' o5' o6' o7', exs (C (k + 2)) (glC cs) FU thBody (thF n (some (.val (.int (i : Int)))) ts base o4 o5 o6 o7) S = .ok (.next (thF n (some (.val (.int (i : Int)))) ts' base' o4' o5' o6' o7')) S' ∧ ThI n S0 (i + 1) base' ts' S' := by
  obtain ⟨ly, len, bd, ok, up, lt⟩ := h
  obtain ⟨r1, S1, e1, a1, b1, ly1⟩ := c_below (k + 1) n 3 S ly.src ⟨by omega, by decide +kernel⟩
  obtain ⟨x2, S2, m2, e2, ly2⟩ := c_choice k n [.int 1, .int 1, .int 5, .int 1000000, .int 100000000000000000000000000000] S1 ly1.src (by simp) (by simp)
  obtain ⟨c2, rfl, c2a, c2b⟩ : ∃ c : Nat, x2 = .int c ∧ 1 ≤ c ∧ c ≤ 100000000000000000000000000000 := by
    simp only [List.mem_cons, List.not_mem_nil, or_false] at m2
    rcases m2 with rfl | rfl | rfl | rfl | rfl
    · exact ⟨1, rfl, by omega, by omega⟩
    · exact ⟨1, rfl, by omega, by omega⟩
    · exact ⟨5, rfl, by omega, by omega⟩
    · exact ⟨1000000, rfl, by omega, by omega⟩
    · exact ⟨100000000000000000000000000000, rfl, by omega, by omega⟩
  obtain ⟨x3, S3, m3, e3, ly3⟩ := c_choice k n [.int 1, .int 1, .int 2, .int 3, .int 4, .int 7, .int 12, .int 60] S2 ly2.src (by simp) (by simp)
  obtain ⟨bot, rfl, c3a, c3b⟩ : ∃ c : Nat, x3 = .int c ∧ 1 ≤ c ∧ c ≤ 60 := by
    simp only [List.mem_cons, List.not_mem_nil, or_false] at m3
    rcases m3 with rfl | rfl | rfl | rfl | rfl | rfl | rfl | rfl
    · exact ⟨1, rfl, by omega, by omega⟩
    · exact ⟨1, rfl, by omega, by omega⟩
    · exact ⟨2, rfl, by omega, by omega⟩
    · exact ⟨3, rfl, by omega, by omega⟩
    · exact ⟨4, rfl, by omega, by omega⟩
    · exact ⟨7, rfl, by omega, by omega⟩
    · exact ⟨12, rfl, by omega, by omega⟩
    · exact ⟨60, rfl, by omega, by omega⟩
  obtain ⟨r4, S4, e4, a4, b4, ly4⟩ := c_below (k + 1) n bot S3 ly3.src ⟨by omega, by omega⟩
  obtain ⟨y, rfl⟩ : ∃ y : Nat, r4 = y := ⟨r4.toNat, by omega⟩
  obtain ⟨r5, S5, e5, a5, b5, ly5⟩ := c_below (k + 1) n 9 S4 ly4.src ⟨by omega, by decide +kernel⟩
  obtain ⟨r6, S6, e6, a6, b6, ly6⟩ := c_below (k + 1) n 1000000 S5 ly5.src ⟨by omega, by decide +kernel⟩
  obtain ⟨x7, S7, m7, e7, ly7⟩ := c_choice k n [.int 1, .int 2, .int (1 + r5), .int (1 + r6), .int 1000000000000000000000000000000] S6 ly6.src (by simp) (by simp)
  obtain ⟨m, rfl, m0, m1⟩ : ∃ c : Nat, x7 = .int c ∧ 1 ≤ c ∧ c ≤ 1000000000000000000000000000000 := by
    simp only [List.mem_cons, List.not_mem_nil, or_false] at m7
    rcases m7 with rfl | rfl | rfl | rfl | rfl
    · exact ⟨1, rfl, by omega, by omega⟩
    · exact ⟨2, rfl, by omega, by omega⟩
    · exact ⟨(1 + r5).toNat, by congr 1; omega, by omega, by omega⟩
    · exact ⟨(1 + r6).toNat, by congr 1; omega, by omega, by omega⟩
    · exact ⟨1000000000000000000000000000000, rfl, by omega, by omega⟩
  obtain ⟨q1, rfl⟩ : ∃ q : Nat, r1 = q := ⟨r1.toNat, by omega⟩
  obtain ⟨w, hw, hw1, hw2⟩ : ∃ w : Nat, (if 0 < i then (1 : Int) else 0) = (w : Int) ∧ w ≤ 1 ∧ (0 < i → w = 1) := by
    by_cases h0 : 0 < i
    · exact ⟨1, by rw [if_pos h0]; rfl, by omega, fun _ => rfl⟩
    · exact ⟨0, by rw [if_neg h0]; rfl, by omega, fun h => (h0 h).elim⟩
  have cw : c2 * w ≤ c2 := by
    have := Nat.mul_le_mul_left c2 hw1
    omega
  let base' := base + q1 + c2 * w
  have bb : base' ≤ (i + 1) * 100000000000000000000000000003 := by
    show base + q1 + c2 * w ≤ _
    rw [Nat.succ_mul]
    omega
  have b200 : base' < 2 ^ 200 := Nat.lt_of_le_of_lt bb (Nat.lt_of_le_of_lt (Nat.mul_le_mul_right _ (show i + 1 ≤ 9 by omega)) (by decide +kernel))
  obtain ⟨tk, l1, l2⟩ := red_ok (base := base') (bot := bot) (y := y) (m := m) (by omega) c3b (by omega) (by omega) (Nat.lt_of_le_of_lt m1 (by decide +kernel)) b200
  have gc := c_gcd (k + 1) (base' * bot + y) bot S4 (Nat.lt_of_le_of_lt c3b (by decide +kernel))
  have g0 : 0 < Nat.gcd (base' * bot + y) bot := Nat.gcd_pos_of_pos_right _ (by omega)
  have g1 : Nat.gcd (base' * bot + y) bot ≤ bot := Nat.gcd_le_right _ (by omega)
  have d1 : divOk ((Nat.gcd (base' * bot + y) bot : Nat) : Int) = true := div_s (by omega) (by omega)
  have n1 : ∀ z : Int, mulOk z (bot : Int) = true := fun z => mul_r (by omega) (by omega)
  have n2 : ∀ z : Int, mulOk z (w : Int) = true := fun z => mul_r (by omega) (by omega)
  have hlen : ts.length < sizeLine := Nat.lt_of_lt_of_le (show ts.length < 9 by omega) (by decide)
  have eb : ((base : Int) + (q1 : Int) + (c2 : Int) * (w : Int)) = (base' : Int) := by simp [base']
  have et : ((base' : Int) * (bot : Int) + (y : Int)) = ((base' * bot + y : Nat) : Int) := by simp
  generalize hB : base' = B at *
  generalize hT : B * bot + y = T at *
  have p6 : powOk 10 6 = true := by decide +kernel
  have p29 : powOk 10 29 = true := by decide +kernel
  have p30 : powOk 10 30 = true := by decide +kernel
  refine ⟨B, ts ++ [⟨T / Nat.gcd T bot, bot / Nat.gcd T bot, m⟩], S7, some (.val (.int bot)), some (.val (.int T)), some (.val (.int (Nat.gcd T bot : Nat))), some (.val (.int m)), ?_, ?_⟩
  · simp [thBody, thF, e1, p6, p29, p30, e2, hw, n2, eb, e3, n1, e4, et, gc, e5, e6, e7, d1, hlen, Tr.d]
  · refine ⟨((((((ly.trans ly1).trans ly2).trans ly3).trans ly4).trans ly5).trans ly6).trans ly7, by simp [len], bb, fun t ht => ?_, ?_, fun t ht => ?_⟩
    · rcases List.mem_append.mp ht with ht | ht
      · exact ok t ht
      · rw [List.mem_singleton] at ht
        subst ht
        exact tk
    · by_cases h0 : 0 < i
      · have w1 := hw2 h0
        subst w1
        refine up.snoc (B := B) (fun t ht => (ok t ht).b0) (fun t ht => Nat.lt_of_lt_of_le (lt t ht) (Nat.mul_le_mul_right _ ?_)) tk.b0 l1
        have : B = base + q1 + c2 * 1 := hB.symm
        omega
      · have : ts = [] := List.eq_nil_of_length_eq_zero (by omega)
        subst this
        exact List.pairwise_singleton _ _
    · rcases List.mem_append.mp ht with ht | ht
      · refine Nat.lt_of_lt_of_le (lt t ht) (Nat.mul_le_mul_right _ ?_)
        have : B = base + q1 + c2 * w := hB.symm
        omega
      · rw [List.mem_singleton] at ht
        subst ht
        exact l2
end Mn
namespace Mn
open PySem L2
theorem c_things (k n : Nat) (S0 : Sto) (h : Src S0 n) : ∃ ts S', C (k + 3) 4 [.obj n] S0 = .ok (.lst (ts.map Tr.d)) S' ∧ DataOk ts ∧ ts.length ≤ 8 ∧ Ly n S0 S' := by
  obtain ⟨r, S1, e1, a1, b1, ly1⟩ := c_below (k + 1) n 9 S0 h ⟨by omega, by decide +kernel⟩
  obtain ⟨r, rfl⟩ : ∃ q : Nat, r = q := ⟨r.toNat, by omega⟩
  have hr : r < 4611686018427387904 := by omega
  obtain ⟨fr2, S2, key, base, ts, o1, o4, o5, o6, o7, rfl, inv⟩ := for_rng (g := asg (C (k + 2)) (glC cs) (.name 1)) (b := exs (C (k + 2)) (glC cs) FU thBody)
    (fun i fr S => ∃ base ts o1 o4 o5 o6 o7, fr = thF n o1 ts base o4 o5 o6 o7 ∧ ThI n S0 i base ts S) r (fun i fr S hi hJ => by
      obtain ⟨base, ts, o1, o4, o5, o6, o7, rfl, inv⟩ := hJ
      obtain ⟨base', ts', S', o4', o5', o6', o7', e, inv'⟩ := th_turn k n i S0 S base ts o1 o4 o5 o6 o7 (by omega) inv
      exact ⟨_, S, _, S', asg_name _ _ _ _ _ _, e, base', ts', _, o4', o5', o6', o7', rfl, inv'⟩)
    (thF n none [] 0 none none none none) S1 ⟨0, [], none, none, none, none, none, rfl, ⟨ly1, rfl, by omega, (fun _ h => nomatch h), List.Pairwise.nil, (fun _ h => nomatch h)⟩⟩
  refine ⟨ts, S2, ?_, ⟨inv.ok, inv.up.asc, by have := inv.len; omega⟩, by have := inv.len; omega, inv.ly⟩
  rw [C_eq lk__law_things _ _ S0 rfl]
  simp only [m__law_things]
  simp [thF] at key
  simp [e1, rng_nat hr]
  rw [key]
  simp
/-! ### the drawn stretches -/
theorem c_edges (k n : Nat) (ts : List Tr) (S : Sto) (h : Src S n) (hd : ∀ t ∈ ts, t.ok) (h8 : ts.length ≤ 8) : ∃ (low : Int) (hi : D) (S' : Sto), C (k + 3) 5 [.obj n, .lst (ts.map Tr.d)] S = .ok (.tup [.int low, hi]) S' ∧ 0 ≤ low ∧ low < 2 ^ 400 ∧ IsHigh low hi ∧ (∀ j, hi = .int j → j < 2 ^ 500) ∧ Ly n S S' := by
  obtain ⟨r, S1, e1, a1, b1, ly1⟩ := c_below (k + 1) n 1000000 S h ⟨by omega, by decide +kernel⟩
  have p6 : powOk 10 6 = true := by decide +kernel
  have p38 : powOk 10 38 = true := by decide +kernel
  let f : List Int → Tr → List Int := fun ms t => ms ++ [(t.a : Int) / (t.b : Int), (t.a : Int) / (t.b : Int) + 1]
  let F : List Int → Option SV → Frm := fun ms o => [some (.val (.obj n)), some (.val (.lst (ts.map Tr.d))), some (.val (.lst (ms.map D.int))), o, none, none, none]
  have key := for_fold (S := S1) (g := asg (C (k + 2)) (glC cs) (.name 3)) (b := exs (C (k + 2)) (glC cs) FU [.set 2 (.val (.bin .Add (.var 2) (.lst [.bin .FloorDiv (.sub (.var 3) (.cst (.int 0))) (.sub (.var 3) (.cst (.int 1))), .bin .Add (.bin .FloorDiv (.sub (.var 3) (.cst (.int 0))) (.sub (.var 3) (.cst (.int 1)))) (.cst (.int 1))])))])
    Tr.d F f (fun rest ms => (∀ t ∈ rest, t.ok) ∧ (∀ x ∈ ms, 0 ≤ x ∧ x < 2 ^ 300 + 2) ∧ ms.length + 2 * rest.length ≤ 30 ∧ 0 < ms.length) (fun t rest ms o hI => by
      obtain ⟨i1, i2, i3, i4⟩ := hI
      have tk := i1 t List.mem_cons_self
      have b1 := tk.b1
      have b0 := tk.b0
      have d1 : divOk ((t.b : Nat) : Int) = true := div_s (by omega) (by omega)
      rw [List.length_cons] at i3
      have hl : ms.length + 2 ≤ sizeLine := Nat.le_trans (show ms.length + 2 ≤ 32 by omega) (by decide)
      refine ⟨⟨fun t ht => i1 t (List.mem_cons_of_mem _ ht), fun x hx => ?_, by simp [f]; omega, by simp [f]⟩, _, asg_name _ _ _ _ _ _, ?_⟩
      · have q1 : (0 : Int) ≤ (t.a : Int) / (t.b : Int) := Int.ediv_nonneg (by omega) (by omega)
        have q2 : (t.a : Int) / (t.b : Int) < 2 ^ 300 := by
          have : t.a / t.b < 2 ^ 300 := Nat.lt_of_le_of_lt (Nat.div_le_self _ _) tk.a1
          exact_mod_cast this
        simp only [f, List.mem_append, List.mem_cons, List.not_mem_nil, or_false] at hx
        generalize (2 : Int) ^ 300 = Z at *
        rcases hx with hx | rfl | rfl
        · exact i2 x hx
        · omega
        · omega
      · simp [F, f, Tr.d, d1, hl]) ts [0, 1, 100000000000000000000000000000000000000, r] none
    ⟨hd, fun x hx => by
      have : (100000000000000000000000000000000000000 : Int) < 2 ^ 300 := by decide +kernel
      simp only [List.mem_cons, List.not_mem_nil, or_false] at hx
      generalize (2 : Int) ^ 300 = Z at *
      rcases hx with rfl | rfl | rfl | rfl <;> omega, by simp; omega, by simp⟩
  obtain ⟨o', key, _, g1, g2, g3⟩ := key
  simp only [List.length_nil, Nat.mul_zero, Nat.add_zero] at g2
  generalize hM : ts.foldl f [0, 1, 100000000000000000000000000000000000000, r] = ms at *
  obtain ⟨x2, S2, m2, e2, ly2⟩ := c_choice k n (ms.map D.int) S1 ly1.src (by simpa using g3) (by simp; omega)
  obtain ⟨low, hlow, rfl⟩ := List.mem_map.mp m2
  have q := g1 low hlow
  obtain ⟨r3, S3, e3, a3, b3, ly3⟩ := c_below (k + 1) n 9 S2 ly2.src ⟨by omega, by decide +kernel⟩
  have hlc : ev (C (k + 2)) (glC cs) [some (.val (.obj n)), some (.val (.lst (ts.map Tr.d))), some (.val (.lst (ms.map D.int))), o', some (.val (.int low)), none, none] (.lc [6] (.name 6) (.lst (.var 2)) [.cmp .Gt (.var 6) (.var 4)] (.var 6)) S2 = .ok (.lst ((ms.filter fun x => decide (low < x)).map D.int)) S2 := by
    refine ev_lcf ms D.int (fun x => decide (low < x)) D.int (by simp) (Nat.le_trans g2 (by decide)) fun x hx => ?_
    by_cases c : low < x <;> simp [turn, wipeF, c]
  let hs : List D := (ms.filter fun x => decide (low < x)).map D.int ++ [.int (low + 1 + r3), .str "open"]
  have hsl : hs.length ≤ 32 := by
    have := List.length_filter_le (fun x => decide (low < x)) ms
    simp [hs]; omega
  obtain ⟨x4, S4, m4, e4, ly4⟩ := c_choice k n hs S3 ly3.src (by simp [hs]) (by omega)
  have hl2 : (ms.filter fun x => decide (low < x)).length + 2 ≤ sizeLine := by
    refine Nat.le_trans (show _ ≤ 32 from ?_) (by decide)
    simpa [hs] using hsl
  have P3 : (2 : Int) ^ 300 + 2 + 10 < 2 ^ 400 := by decide +kernel
  have P4 : (2 : Int) ^ 400 < 2 ^ 500 := by decide +kernel
  refine ⟨low, x4, S4, ?_, q.1, ?_, ?_, ?_, ((ly1.trans ly2).trans ly3).trans ly4⟩
  · rw [C_eq lk__law_edges _ _ S rfl]
    simp only [m__law_edges]
    simp [F] at key
    simp [e1, p6, p38]
    rw [key]
    try simp at hlc
    try simp at hl2
    simp [hs] at e4
    simp [e2, hlc, e3, hl2, e4]
  · generalize (2 : Int) ^ 300 = Z at *
    generalize (2 : Int) ^ 400 = Y at *
    omega
  · simp only [hs, List.mem_append, List.mem_map, List.mem_cons, List.not_mem_nil, or_false] at m4
    rcases m4 with ⟨j, hj, rfl⟩ | rfl | rfl
    · exact .inr ⟨j, rfl, by simpa using (List.mem_filter.mp hj).2⟩
    · exact .inr ⟨_, rfl, by omega⟩
    · exact .inl rfl
  · intro j hj
    simp only [hs, List.mem_append, List.mem_map, List.mem_cons, List.not_mem_nil, or_false] at m4
    have P5 : (2 : Int) ^ 300 + 2 + 10 < 2 ^ 500 := Int.lt_trans P3 P4
    rcases m4 with ⟨i, hi, rfl⟩ | rfl | rfl
    · cases hj
      have := (g1 _ (List.mem_filter.mp hi).1).2
      generalize (2 : Int) ^ 300 = Z at *
      generalize (2 : Int) ^ 500 = Y at *
      omega
    · cases hj
      generalize (2 : Int) ^ 300 = Z at *
      generalize (2 : Int) ^ 500 = Y at *
      omega
    · cases hj
end Mn
namespace Mn
open PySem L2
/-! ### the source of a turn -/
theorem c_source (k i : Nat) (js : List Int) (S : Sto) : ∃ a b : Int, 0 ≤ b ∧ C (k + 1) 3 [.scr js, .int i] S = .ok (.obj S.length) (S ++ [.lst [.int a, .int b, .int 0]]) := by
  obtain ⟨ys, hy⟩ := cut_map D.int js none (some 7)
  let F : Int → Option SV → Frm := fun st o => [some (.val (.scr js)), some (.val (.int i)), some (.val (.int st)), o, none]
  obtain ⟨o', key, _⟩ := for_fold (S := S) (g := asg (C k) (glC cs) (.name 3)) (b := exs (C k) (glC cs) FU [.set 2 (.val (.bin .Mod (.blt .int [.bin .Add (.bin .Mult (.var 2) (.cst (.int 69061))) (.var 3)]) (.cst (.int 2147483563))))])
    D.int F (fun st y => (st * 69061 + y) % 2147483563) (fun _ _ => True) (fun y r st o _ => ⟨trivial, _, asg_name _ _ _ _ _ _, by simp [F, mul_r]⟩) ys (30011 * (i : Int) + 7) none trivial
  generalize ys.foldl (fun st y => (st * 69061 + y) % 2147483563) (30011 * (i : Int) + 7) = st at key
  have p18 : powOk 10 18 = true := by decide +kernel
  have own : ∃ o : Int, ev (C k) (glC cs) (F st o') (.ife (.cmp .Lt (.var 1) (.blt .len [.var 0])) (.sub (.var 0) (.var 1)) (.cst (.int 0))) S = .ok (.int o) S := by
    by_cases h : i < js.length
    · refine ⟨js[i], ?_⟩
      have q := at_n (xs := js.map D.int) (n := i) (d := .int js[i]) (by simp [h])
      simp [F, h, q]
    · exact ⟨0, by simp [F, h]⟩
  obtain ⟨o, own⟩ := own
  have n1 : mulOk 30011 (i : Int) = true := mul_l (by decide) (by decide)
  obtain ⟨ab, hab, hab0⟩ : ∃ ab : Int, (if o < 0 then -o else o) = ab ∧ 0 ≤ ab := ⟨_, rfl, by split <;> omega⟩
  refine ⟨(st * 40009 + o * 31 + (i : Int)) % 2147483563, if 1000000000000000000 ≤ ab then ab else 0, by split <;> omega, ?_⟩
  rw [C_eq lk__law_source _ _ S rfl]
  simp only [m__law_source]
  simp [F] at key own
  simp [n1, hy]
  rw [key]
  by_cases hb : 1000000000000000000 ≤ ab
  · simp [own, mul_r, p18, hab, hb]
  · simp [own, mul_r, p18, hab, hb]
end Mn
namespace Mn
open PySem L2
def dueD (ts : List Tr) (low : Int) (hi : D) : D := .lst [.int (cntF (ts.filter (liesB low hi))), .tup [.int ((totF (ts.filter (liesB low hi))).1 : Nat), .int ((totF (ts.filter (liesB low hi))).2 : Nat)]]
theorem sum_le (B : Nat) : ∀ (l : List Nat), (∀ x ∈ l, x ≤ B) → l.sum ≤ l.length * B
  | [], _ => by simp
  | x :: l, h => by
    have h1 := h x List.mem_cons_self
    have h2 := sum_le B l fun y hy => h y (List.mem_cons_of_mem _ hy)
    rw [List.sum_cons, List.length_cons, Nat.succ_mul]
    omega
theorem lcm_bd : ∀ (ts : List Tr) (w : Nat), (∀ t ∈ ts, t.ok) → ts.foldl (fun w t => Nat.lcm w t.b) w ≤ w * 60 ^ ts.length
  | [], w, _ => by simp
  | t :: ts, w, h => by
    have h1 := lcm_bd ts (Nat.lcm w t.b) fun y hy => h y (List.mem_cons_of_mem _ hy)
    refine Nat.le_trans h1 ?_
    rw [List.length_cons, Nat.pow_succ, Nat.mul_comm (60 ^ _), ← Nat.mul_assoc]
    exact Nat.mul_le_mul_right _ (Nat.le_trans (lcm_le _ _) (Nat.mul_le_mul_left _ (h t List.mem_cons_self).b1))
theorem log_big {x : Nat} (h : x < 2 ^ 1000) : (x : Int).natAbs.log2 < 1920 := Nat.lt_trans (m := 1000) (log_lt (k := 1000) h (Nat.succ_pos _)) (by decide)
theorem due_show (ts : List Tr) (h : ∀ t ∈ ts, t.ok) (h8 : ts.length ≤ 8) (low : Int) (hi : D) : ∃ z, showD (dueD ts low hi) = some z := by
  have hs : ∀ t ∈ ts.filter (liesB low hi), t.ok := fun t ht => h t (List.mem_filter.mp ht).1
  have l8 : (ts.filter (liesB low hi)).length ≤ 8 := Nat.le_trans (List.length_filter_le _ _) h8
  unfold dueD
  generalize ts.filter (liesB low hi) = us at *
  have w0 : 0 < lcmF us := lcm_pos us 1 (by omega) fun t ht => (hs t ht).b0
  have w1 : lcmF us ≤ 2 ^ 60 := by
    refine Nat.le_trans (lcm_bd us 1 hs) ?_
    rw [Nat.one_mul]
    exact Nat.le_trans (Nat.pow_le_pow_right (by omega) l8) (by decide +kernel)
  have c1 : cntF us = (((us.map fun t => t.m).sum : Nat) : Int) := by
    unfold cntF
    clear hs l8 w0 w1
    induction us with
    | nil => rfl
    | cons t us ih => simp only [List.map_cons, List.sum_cons, ih]; omega
  have c2 : (us.map fun t => t.m).sum ≤ 8 * 2 ^ 200 := by
    refine Nat.le_trans (sum_le (2 ^ 200) _ fun x hx => ?_) ?_
    · obtain ⟨t, ht, rfl⟩ := List.mem_map.mp hx
      exact Nat.le_of_lt (hs t ht).m1
    · rw [List.length_map]; exact Nat.mul_le_mul_right _ l8
  have n1 : numF (lcmF us) us ≤ 8 * (2 ^ 300 * 2 ^ 200 * 2 ^ 60) := by
    unfold numF
    refine Nat.le_trans (sum_le (2 ^ 300 * 2 ^ 200 * 2 ^ 60) _ fun x hx => ?_) ?_
    · obtain ⟨t, ht, rfl⟩ := List.mem_map.mp hx
      exact Nat.mul_le_mul (Nat.mul_le_mul (Nat.le_of_lt (hs t ht).a1) (Nat.le_of_lt (hs t ht).m1)) (Nat.le_trans (Nat.div_le_self _ _) w1)
    · rw [List.length_map]; exact Nat.mul_le_mul_right _ l8
  obtain ⟨K, hK⟩ : ∃ K : Nat, K = 2 ^ 1000 := ⟨_, rfl⟩
  have b1 : (8 : Nat) * 2 ^ 200 < K := by rw [hK]; decide +kernel
  have b2 : (8 : Nat) * (2 ^ 300 * 2 ^ 200 * 2 ^ 60) < K := by rw [hK]; decide +kernel
  have b3 : (2 : Nat) ^ 60 < K := by rw [hK]; decide +kernel
  have sm : ∀ x : Nat, x < K → ∀ n w, Rd n w (.int (x : Int)) := fun x hx n w => by
    exact .int (log_big (Nat.lt_of_lt_of_eq hx hK))
  have e := tot_eq us fun t ht => (hs t ht).b0
  have t1 : (totF us).1 < K := by
    have q : (totF us).1 = _ := congrArg Prod.fst e
    rw [q]
    exact Nat.lt_of_le_of_lt (Nat.le_trans (Nat.div_le_self _ _) n1) b2
  have t2 : (totF us).2 < K := by
    have q : (totF us).2 = _ := congrArg Prod.snd e
    rw [q]
    exact Nat.lt_of_le_of_lt (Nat.le_trans (Nat.div_le_self _ _) w1) b3
  rw [c1]
  have tr : Rd 1 2 (.tup [.int ((totF us).1 : Nat), .int ((totF us).2 : Nat)]) := .tup (w' := 0) (fun x hx => by
    simp only [List.mem_cons, List.not_mem_nil, or_false] at hx
    rcases hx with rfl | rfl
    · exact sm _ t1 _ _
    · exact sm _ t2 _ _) (by simp)
  exact Rd.show (n := 2) (w := 6) (.lst (w' := 2) (fun x hx => by
    simp only [List.mem_cons, List.not_mem_nil, or_false] at hx
    rcases hx with rfl | rfl
    · exact sm _ (Nat.lt_of_le_of_lt c2 b1) _ _
    · exact tr) (by simp)) (by omega) (by omega)
theorem ts_eq (ts : List Tr) (h : ∀ t ∈ ts, t.ok) (h8 : ts.length ≤ 8) : eqA (.lst (ts.map Tr.d)) (.lst (ts.map Tr.d)) = some true := by
  have P1 : (2 : Nat) ^ 300 < 2 ^ 1900 := by decide +kernel
  have P2 : (2 : Nat) ^ 200 < 2 ^ 1900 := by decide +kernel
  have P3 : (60 : Nat) < 2 ^ 1900 := by decide +kernel
  have sm : ∀ x : Nat, x < 2 ^ 1900 → ∀ n w, Rd n w (.int (x : Int)) := fun x hx n w => by
    have q : x.log2 < 1900 := log_lt hx (by omega)
    exact .int (show x.log2 < 1920 by omega)
  refine Rd.eqA (n := 2) (w := 32) (.lst (w' := 3) (fun x hx => ?_) (by simp; omega)) (by omega)
  obtain ⟨t, ht, rfl⟩ := List.mem_map.mp hx
  refine .tup (w' := 0) (fun x hx => ?_) (by simp)
  simp only [List.mem_cons, List.not_mem_nil, or_false] at hx
  rcases hx with rfl | rfl | rfl
  · exact sm _ (Nat.lt_trans (h t ht).a1 P1) _ _
  · exact sm _ (Nat.lt_of_le_of_lt (h t ht).b1 P3) _ _
  · exact sm _ (Nat.lt_trans (h t ht).m1 P2) _ _
abbrev rTest (a b : ME) : MS := .ife (.cmp .NotEq (.blt .repr [.lst [a, b]]) (.blt .repr [.var 6])) [.ret (.cst (.bl false))] []
abbrev rBody : List MS := [.asg (.tup [.name 7, .name 8]) (.call 5 [.var 0, .var 3]), .setLc 5 false (.lc [9] (.name 9) (.lst (.var 3)) [.tru (.call 6 [.var 9, .var 7, .var 8])] (.var 9)), .set 6 (.val (.lst [.blt .sum [.lc [9] (.name 9) (.lst (.var 5)) [] (.sub (.var 9) (.cst (.int 2)))], .call 7 [.var 5]])), .ife (.cmp .NotEq (.blt .repr [.lst [.call 0 [.var 1, .var 7, .var 8], .call 1 [.var 1, .var 7, .var 8]]]) (.blt .repr [.var 6])) [.ret (.cst (.bl false))] [], .ife (.cmp .NotEq (.blt .repr [.lst [.callK 0 [] [1, 2, 0] [.var 8, .var 1, .var 7], .callK 1 [] [2, 0, 1] [.var 7, .var 8, .var 1]]]) (.blt .repr [.var 6])) [.ret (.cst (.bl false))] [], .append 4 (.lst [.var 7, .var 8, .var 6])]
def rF (n : Nat) (ts : List Tr) (as : List (Int × D)) (o2 o5 o6 o7 o8 o9 : Option SV) : Frm := [some (.val (.obj n)), some (.val (.tup (ts.map Tr.d))), o2, some (.val (.lst (ts.map Tr.d))), some (.olst (as.map fun p => .lst [.int p.1, p.2, dueD ts p.1 p.2])), o5, o6, o7, o8, o9]
structure RI (n : Nat) (S0 : Sto) (i : Nat) (as : List (Int × D)) (S : Sto) : Prop where
  ly : Ly n S0 S
  len : as.length = i
  ok : ∀ p ∈ as, 0 ≤ p.1 ∧ IsHigh p.1 p.2
theorem r_turn (k n i : Nat) (S0 S : Sto) (ts : List Tr) (as : List (Int × D)) (o2 o5 o6 o7 o8 o9 : Option SV) (hi : i < 6) (dk : DataOk ts) (h8 : ts.length ≤ 8) (h : RI n S0 i as S) :
    ∃ as' S' o5' o6' o7' o8' o9', exs (C (k + 5)) (glC cs) FU rBody (rF n ts as o2 o5 o6 o7 o8 o9) S = .ok (.next (rF n ts as' o2 o5' o6' o7' o8' o9')) S' ∧ RI n S0 (i + 1) as' S' := by
  obtain ⟨ly, len, ok⟩ := h
  obtain ⟨low, hi', S1, e1, l0, _, hh, _, ly1⟩ := c_edges (k + 2) n ts S ly.src dk.all h8
  have hl : ts.length ≤ sizeLine := Nat.le_trans dk.len (by decide)
  have hlf : (ts.filter (liesB low hi')).length ≤ sizeLine := Nat.le_trans (List.length_filter_le _ _) hl
  have hfo : ∀ t ∈ ts.filter (liesB low hi'), t.ok := fun t ht => dk.all t (List.mem_filter.mp ht).1
  have e2 : ∀ o5 o6 o9, ev (C (k + 5)) (glC cs) (rF n ts as o2 o5 o6 (some (.val (.int low))) (some (.val hi')) o9) (.lc [9] (.name 9) (.lst (.var 3)) [.tru (.call 6 [.var 9, .var 7, .var 8])] (.var 9)) S1 = .ok (.lst ((ts.filter (liesB low hi')).map Tr.d)) S1 := fun o5 o6 o9 => by
    refine ev_lcf ts Tr.d (liesB low hi') Tr.d (by simp [rF]) hl fun t ht => ?_
    have q := c_lies (k + 4) t low hi' S1 (dk.all t ht) hh
    cases e : liesB low hi' t <;> simp [turn, wipeF, rF, q, e]
  have e3 : ∀ o6 o9, ev (C (k + 5)) (glC cs) (rF n ts as o2 (some (.val (.lst ((ts.filter (liesB low hi')).map Tr.d)))) o6 (some (.val (.int low))) (some (.val hi')) o9) (.lc [9] (.name 9) (.lst (.var 5)) [] (.sub (.var 9) (.cst (.int 2)))) S1 = .ok (.lst ((ts.filter (liesB low hi')).map fun t => .int (t.m : Int))) S1 := fun o6 o9 => by
    refine ev_lcm (ts.filter (liesB low hi')) Tr.d (fun t => .int (t.m : Int)) (by simp [rF]) hlf fun t ht => ?_
    simp [turn, wipeF, rF, Tr.d]
  have e4 := c_sum (k + 3) (ts.filter (liesB low hi')) S1 hfo (Nat.le_trans (List.length_filter_le _ _) h8)
  have e5 := c_count k ts low hi' S1 dk l0 hh
  have e6 := c_total k ts low hi' S1 dk h8 l0 hh
  obtain ⟨z, hz⟩ := due_show ts dk.all h8 low hi'
  have hap : as.length < sizeLine := Nat.lt_of_lt_of_le (show as.length < 9 by omega) (by decide)
  refine ⟨as ++ [(low, hi')], S1, some (.val (.lst ((ts.filter (liesB low hi')).map Tr.d))), some (.val (dueD ts low hi')), some (.val (.int low)), some (.val hi'), o9, ?_, ⟨ly.trans ly1, by simp [len], fun p hp => ?_⟩⟩
  rotate_left
  · rcases List.mem_append.mp hp with hp | hp
    · exact ok p hp
    · rw [List.mem_singleton] at hp
      subst hp
      exact ⟨l0, hh⟩
  · simp only [rF] at e2 e3 ⊢
    have hd : dueD ts low hi' = .lst [.int (cntF (ts.filter (liesB low hi'))), .tup [.int ((totF (ts.filter (liesB low hi'))).1 : Nat), .int ((totF (ts.filter (liesB low hi'))).2 : Nat)]] := rfl
    rw [hd] at hz
    simp [e1]
    simp [e2, e3, ints_all, e4, e5, e6]
    rw [show (((ts.filter (liesB low hi')).map fun t => (t.m : Int)).sum) = cntF (ts.filter (liesB low hi')) from rfl]
    simp [e5, e6, hz, hap, hd]
end Mn
namespace Mn
open PySem L2
def entD (ts : List Tr) (p : Int × D) : D := .lst [.int p.1, p.2, dueD ts p.1 p.2]
def sF (n : Nat) (ts : List Tr) (e4 o2 o5 o6 o7 o8 o9 : Option SV) : Frm := [some (.val (.obj n)), some (.val (.tup (ts.map Tr.d))), o2, some (.val (.lst (ts.map Tr.d))), e4, o5, o6, o7, o8, o9]
theorem s_loop (k n : Nat) (S : Sto) (ts : List Tr) (dk : DataOk ts) (h8 : ts.length ≤ 8) (e4 o2 o5 o6 o7 o8 o9 : Option SV) (l : List (Int × D)) (hok : ∀ p ∈ l, 0 ≤ p.1 ∧ IsHigh p.1 p.2) :
    ∃ o6' o7' o8', forO (asg (C (k + 5)) (glC cs) (.tup [.name 7, .name 8, .name 6])) (exs (C (k + 5)) (glC cs) FU [.ife (.cmp .NotEq (.blt .repr [.lst [.call 0 [.var 1, .var 7, .var 8], .call 1 [.var 1, .var 7, .var 8]]]) (.blt .repr [.var 6])) [.ret (.cst (.bl false))] []]) (l.map (entD ts)) (sF n ts e4 o2 o5 o6 o7 o8 o9) S = .ok (.next (sF n ts e4 o2 o5 o6' o7' o8' o9)) S := by
  induction l generalizing o6 o7 o8 with
  | nil => exact ⟨o6, o7, o8, rfl⟩
  | cons p l ih =>
    obtain ⟨l0, hh⟩ := hok p List.mem_cons_self
    have e5 := c_count k ts p.1 p.2 S dk l0 hh
    have e6 := c_total k ts p.1 p.2 S dk h8 l0 hh
    obtain ⟨z, hz⟩ := due_show ts dk.all h8 p.1 p.2
    obtain ⟨o6', o7', o8', q⟩ := ih (some (.val (dueD ts p.1 p.2))) (some (.val (.int p.1))) (some (.val p.2)) fun p hp => hok p (List.mem_cons_of_mem _ hp)
    refine ⟨o6', o7', o8', ?_⟩
    have a1 : asg (C (k + 5)) (glC cs) (.tup [.name 7, .name 8, .name 6]) (sF n ts e4 o2 o5 o6 o7 o8 o9) (entD ts p) S = .ok (sF n ts e4 o2 o5 (some (.val (dueD ts p.1 p.2))) (some (.val (.int p.1))) (some (.val p.2)) o9) S := by
      simp [entD, sF]
    rw [List.map_cons, forO, a1, b_ok]
    have hd : dueD ts p.1 p.2 = .lst [.int (cntF (ts.filter (liesB p.1 p.2))), .tup [.int ((totF (ts.filter (liesB p.1 p.2))).1 : Nat), .int ((totF (ts.filter (liesB p.1 p.2))).2 : Nat)]] := rfl
    have hz2 := hz
    rw [hd] at hz2
    have a2 : exs (C (k + 5)) (glC cs) FU [.ife (.cmp .NotEq (.blt .repr [.lst [.call 0 [.var 1, .var 7, .var 8], .call 1 [.var 1, .var 7, .var 8]]]) (.blt .repr [.var 6])) [.ret (.cst (.bl false))] []] (sF n ts e4 o2 o5 (some (.val (dueD ts p.1 p.2))) (some (.val (.int p.1))) (some (.val p.2)) o9) S = .ok (.next (sF n ts e4 o2 o5 (some (.val (dueD ts p.1 p.2))) (some (.val (.int p.1))) (some (.val p.2)) o9)) S := by
      simp [sF, e5, e6, hz, hz2]
    rw [a2, b_ok]
    exact q
theorem c_right (k n : Nat) (S0 : Sto) (h : Src S0 n) : ∃ S', C (k + 6) 2 [.obj n] S0 = .ok (.bl true) S' := by
  obtain ⟨ts, S1, e1, dk, h8, ly1⟩ := c_things (k + 2) n S0 h
  obtain ⟨fr2, S2, key, as, o2, o5, o6, o7, o8, o9, rfl, inv⟩ := for_rng (g := asg (C (k + 5)) (glC cs) (.name 2)) (b := exs (C (k + 5)) (glC cs) FU rBody)
    (fun i fr S => ∃ as o2 o5 o6 o7 o8 o9, fr = rF n ts as o2 o5 o6 o7 o8 o9 ∧ RI n S0 i as S) 6 (fun i fr S hi hJ => by
      obtain ⟨as, o2, o5, o6, o7, o8, o9, rfl, inv⟩ := hJ
      obtain ⟨as', S', o5', o6', o7', o8', o9', e, inv'⟩ := r_turn k n i S0 S ts as (some (.val (.int (i : Int)))) o5 o6 o7 o8 o9 hi dk h8 inv
      exact ⟨_, S, _, S', asg_name _ _ _ _ _ _, e, as', _, o5', o6', o7', o8', o9', rfl, inv'⟩)
    (rF n ts [] none none none none none none) S1 ⟨[], none, none, none, none, none, none, rfl, ⟨ly1, rfl, (fun _ h => nomatch h)⟩⟩
  obtain ⟨o6', o7', o8', key2⟩ := s_loop k n S2 ts dk h8 (some (.val (.lst (as.map (entD ts))))) o2 o5 o6 o7 o8 o9 as.reverse fun p hp => inv.ok p (List.mem_reverse.mp hp)
  have r6 : rng1O (.int 6) = some ((List.range 6).map fun i => .int ((i : Nat) : Int)) := rng_nat (r := 6) (by omega)
  have eq := ts_eq ts dk.all h8
  refine ⟨S2, ?_⟩
  rw [C_eq lk__law_right _ _ S0 rfl]
  simp only [m__law_right]
  simp only [rF] at key
  simp only [sF] at key2
  simp [e1, r6]
  simp at key
  rw [key]
  simp
  have em : (as.map fun p => D.lst [.int p.1, p.2, dueD ts p.1 p.2]) = as.map (entD ts) := rfl
  rw [em, ← List.map_reverse, key2]
  simp [eq]
theorem main_run (js : List Int) (h : js.length ≤ 63) : ∃ S, C 20 23 [.scr js] [] = .ok (.bl true) S := by
  have d0 : DataOk [] := ⟨(fun _ h => nomatch h), (fun p hp => nomatch hp), by decide⟩
  have tok : Tr.ok ⟨1, 2, 3⟩ := ⟨by decide, by decide, by decide, by decide, by decide +kernel, by decide +kernel⟩
  have d1 : DataOk [⟨1, 2, 3⟩] := ⟨(fun t h => by rw [List.mem_singleton] at h; subst h; exact tok), (fun p hp => nomatch hp), by decide⟩
  have a1 := c_count 14 [] 0 (.str "open") [] d0 (by omega) (.inl rfl)
  have a2 := c_total 14 [] 0 (.str "open") [] d0 (by decide) (by omega) (.inl rfl)
  have a3 := c_total 14 [⟨1, 2, 3⟩] 1 (.int 2) [] d1 (by decide) (by omega) (.inr ⟨2, rfl, by omega⟩)
  have f3 : [(⟨1, 2, 3⟩ : Tr)].filter (liesB 1 (.int 2)) = [] := by decide +kernel
  rw [f3] at a3
  have z : showD (.lst [.int 0, .tup [.int 0, .int 1], .tup [.int 0, .int 1]]) = some "[0, (0, 1), (0, 1)]" := by decide +kernel
  have rm : ∃ r : Nat, r ≤ 5 ∧ blD [] .max [.int 2, .int (if 5 < (js.length : Int) then 5 else js.length)] = some (.int (r : Int)) := by
    refine ⟨max 2 (min js.length 5), by omega, ?_⟩
    rw [vb_max]
    congr 2
    split <;> split <;> omega
  obtain ⟨r, r5, rm⟩ := rm
  have rr := rng_nat (r := r) (by omega)
  have hlc : ∃ S', ev (C 19) (glC cs) [some (.val (.scr js)), none] (.lc [1] (.name 1) (.rng1 (.blt .max [.cst (.int 2), .blt .min [.blt .len [.var 0], .cst (.int 5)]])) [] (.call 2 [.call 3 [.var 0, .var 1]])) [] = .ok (.lst (((List.range r).map fun i => D.int ((i : Nat) : Int)).map fun _ => .bl true)) S' := by
    refine ev_lcs (S1 := []) (.bl true) ?_ (by simp; exact Nat.le_trans r5 (by decide)) fun x hx S => ?_
    · simp at rm
      simp [rm, rr]
    · obtain ⟨i, hi, rfl⟩ := List.mem_map.mp hx
      obtain ⟨a, b, b0, e⟩ := c_source 18 i js S
      have hs : Src (S ++ [.lst [.int a, .int b, .int 0]]) S.length := ⟨a, b, 0, by simp, b0⟩
      obtain ⟨S', e2⟩ := c_right 13 S.length _ hs
      exact ⟨S', by simp [turn, wipeF, e, e2]⟩
  obtain ⟨S', hlc⟩ := hlc
  refine ⟨S', ?_⟩
  have all := bls_all (fun _ : D => true) ((List.range r).map fun i => D.int ((i : Nat) : Int))
  rw [C_eq lk_law _ _ [] rfl]
  simp only [m_law]
  simp [cntF, totF] at a1 a2 a3
  simp [Tr.d] at a3
  simp [a1, a2, a3, z]
  simp at hlc all
  simp [hlc, all]
end Mn
namespace Mn
open PySem PySem.Spec PyProof.Rows L2 RZ
abbrev Rw : PySem.W.OpenRow := PySem.W.OpenLaw.row PySem.Challenge.rw_unlikebins_k12_whole_counts_and_totals_b
abbrev faL : List He.Fa := fas nm P cs
abbrev fnL : List He.DefD := fns nm P src
abbrev hk : PySem.W.Hook := He.hookD 4 faL fnL
def ob (s : PySem.W.SharedT) : He.AlD := He.obsDG 4 faL fnL (HandSHeadRun.getT s)
theorem ob_eq (s : PySem.W.SharedT) : ob s = hk.obs s.abs := He.obsDG_eq (HandSHeadRun.getT_eq s)
theorem runEq (w : World) : HandSHeadRun.RunEq Rw (PySem.W.view Rw.prog [31]) hk ob 1500 ["WrongValue", "InvalidBorder", "InvalidData", "OPEN", "is_integer", "is_count", "is_high", "lowest_terms", "check_stretch", "MOST_TRIPLES", "is_triple", "is_data", "check_data", "lies_in", "count_in", "count", "total", "_law_source", "_law_below", "_law_choice", "_law_gcd", "_law_things", "_law_lies", "_law_edges", "_law_sum", "_law_right"] w := by
  intro os
  kernel_rfl
end Mn
open PySem PySem.W PySem.Calls PyProof.Rows
theorem PySem.Challenge.cw_unlikebins_k12_whole_counts_and_totals_b_holds : PySem.Challenge.rw_unlikebins_k12_whole_counts_and_totals_b.Holds := by
  w_on; o_law
  refine HandSHeadRun.head_any (r := Mn.Rw) (q := view Mn.Rw.prog [31]) (H := Mn.hk) (ob := Mn.ob) (M := 1500) (loose := ["WrongValue", "InvalidBorder", "InvalidData", "OPEN", "is_integer", "is_count", "is_high", "lowest_terms", "check_stretch", "MOST_TRIPLES", "is_triple", "is_data", "check_data", "lies_in", "count_in", "count", "total", "_law_source", "_law_below", "_law_choice", "_law_gcd", "_law_things", "_law_lies", "_law_edges", "_law_sum", "_law_right"]) (d := HandSHeadRun.topDef Mn.Rw.prog 31) (kwd := []) Mn.ob_eq
    (by kernel_rfl) (fun s => by kernel_rfl) Mn.runEq (by kernel_rfl) (by kernel_rfl) (by kernel_rfl) (by rfl) (by first | assumption | decide +kernel) (by decide +kernel) ⟨rfl, rfl, rfl, rfl, rfl, by decide +kernel⟩ ?hw ?hc
  case hw => w_witness2
  case hc =>
    exact Mn.law_by (l := PySem.Challenge.rw_unlikebins_k12_whole_counts_and_totals_b) (n := 63) 4 10000 19 23 Mn.m_law "_law_script" rfl (by decide) (by kernel_rfl) ⟨rfl, by decide, by decide⟩ (by kernel_rfl) rfl rfl Mn.ck Mn.main_run
