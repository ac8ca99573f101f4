import PyProof.Rows.All
import Wide.All
import OpenK.AllK
import Wide.FinOn
import PySem.Syntax
import KE.IntText
import PySem.Eval
import HandS.Comp
import PyProof.EqAt
import PyProof.EqKinds
import PyProof.TupleCall
import HandS.ForMost
import HandS.ForExc
import HandS.Defaults
import HandS.HeadHook1
import HandS.HeadHook2
import HandS.Lambda
import HandS.Style
import HandS.IsInst
import HandS.RaiseMore
import HandS.Rev
import HandS.DeepEq
import KE.DataEq
import PyProof.StrBlock2
import HandS.Text
import HandS.Small
import HandS.ListItems
import KE.DatumIndex
import PyProof.AutoSeq1
import HandS.ExcIs
import HandS.ExcField
import KE.KIsAll
import HandS.Iter
import HandS.Dict
import OpenK.KMore
import KE.KLam
import KE.KNest
import HandS.RevTup
import PyProof.Draws
import KE.GoesEnum
import HandS.ExcInit
import HandS.ExcOwn
import HandS.ExcSuper
import KE.KExcSuper
import KE.KSuper
import HandS.EndTab
import HandS.HeadWalk
import KE.IntTextLaws
import PyProof.StrLawsRepr
import PyProof.ReprLoop
import PyProof.ReprReads
import HandS.Ends
import HandS.Words
import HandS.HeadHook4
import HandS.Head0
import HandS.Head1
import HandS.Head2
import HandS.HeadEnd
import KE.KStateDown
import PySem.Challenge.RW_axlebook_k88_values_written
set_option Elab.async false
set_option linter.all false
set_option maxRecDepth 100000
/-! Q0: a small language of trees, its evaluator. -/
namespace QV
open PySem

/-- built-ins that are called by name -/
inductive Bi where
  | len | abs | int | str | repr | all | any | min2 | tuple | list | sum | bool1
  deriving DecidableEq, Repr
/-- methods of built-in types -/
inductive Mt where
  | append | extend | pop | popAt | join
  deriving DecidableEq, Repr
/-- classes that isinstance asks of -/
inductive Ty where
  | int | str | bool | list | tuple | dict | own (k : Nat)
  deriving DecidableEq, Repr
/-- operators of two values -/
inductive Op where
  | add | sub | mul | fdiv | mod | pow
  deriving DecidableEq, Repr
inductive Cm where
  | eq | ne | lt | le | gt | ge | isN | notN | isin | notin
  deriving DecidableEq, Repr

/-- how a thing is walked: itself; range(it); enumerate(reversed(it)) -/
inductive Wk where
  | val | rng | enr
  deriving DecidableEq, Repr

/-- an expression -/
inductive C where
  | stk | non | bl (b : Bool) | int (i : Int) | str (x : Str)
  | var (i : Nat)
  | fnv (k : Nat)
  | bin (op : Op) (a b : C)
  | cmp (op : Cm) (a b : C)
  | chn (p q : Cm) (a b c : C)
  | nt (a : C)
  | an (a b : C) | orr (a b : C)
  | ife (t a b : C)
  | tup (es : List C) | lst (es : List C)
  | dic (ks : List Str) (es : List C)
  | idx (a b : C)
  | slc (a : C) (lo hi : Option C)
  | call (k : Nat) (es : List C)
  | clv (i : Nat)
  | bi (b : Bi) (es : List C)
  | isi (a : C) (ts : List Ty)
  | mth (m : Mt) (a : C) (es : List C)
  | fld (a : C) (f : Str)
  | callL (k : Nat) (body : C)
  | lc (elt : C) (own : List Nat) (tg : Nat) (kd : Wk) (iter : C) (t : Option C)
  deriving Inhabited

/-- targets -/
inductive Tg where
  | nm (i : Nat) | tp (is : List Nat)
  deriving Inhabited

/-- a statement -/
inductive Sm where
  | stk | ex (e : C) | asg (t : Tg) (e : C) | par (i j : Nat) (a b : C) | setI (o i e : C) | aug (i : Nat) (op : Op) (e : C)
  | ret (e : C) | retN | ifs (t : C) (a b : List Sm) | whl (t : C) (body : List Sm) | fors (tg : Tg) (kd : Wk) (iter : C) (body : List Sm)
  | brk | cnt | pas | rai (k : Nat) (es : List C) | tryA (body : List Sm) (k : Nat) (i : Nat) (suite : List Sm)
  deriving Inhabited

/-- a value -/
inductive D where
  | non | bl (b : Bool) | int (i : Int) | str (x : Str)
  | tup (xs : List D)
  | loc (n : Nat)
  | fn (k : Nat)
  | exc (k : Nat) (fs : List (Str × D))
  | clo (body : C) (env : List (Option D))
  deriving Inhabited

/-- a cell of the store: a list, a list that is only read, a dict with texts as keys -/
inductive SC where
  | lst (xs : List D) | ro (xs : List D) | dic (kvs : List (Str × D))
  deriving Inhabited
abbrev Sto := List SC
abbrev En := List (Option D)

/-- an outcome -/
inductive Out (α : Type) where
  | stk | ok (a : α) (S : Sto) | ex (e : D) (S : Sto)
abbrev Ev (α : Type) := Sto → Out α
namespace Ev
def bind {α β : Type} (m : Ev α) (f : α → Ev β) : Ev β := fun S => match m S with
  | .stk => .stk
  | .ok a S' => f a S'
  | .ex e S' => .ex e S'
def ret {α : Type} (a : α) : Ev α := fun S => .ok a S
def stuck {α : Type} : Ev α := fun _ => .stk
end Ev

/-! ### data -/
mutual
def D.beq : D → D → Bool
  | .non, .non => true
  | .bl a, .bl b => a == b
  | .int a, .int b => decide (a = b)
  | .bl a, .int b => decide ((if a then 1 else 0) = b)
  | .int a, .bl b => decide (a = (if b then 1 else 0))
  | .str a, .str b => decide (a = b)
  | .tup a, .tup b => D.beqL a b
  | _, _ => false
def D.beqL : List D → List D → Bool
  | [], [] => true
  | a :: as, b :: bs => D.beq a b && D.beqL as bs
  | _, _ => false
end
mutual
/-- None, truths, numbers, texts, tuples of such -/
def D.flat : D → Bool
  | .non | .bl _ | .int _ | .str _ => true
  | .tup xs => D.flatL xs
  | _ => false
def D.flatL : List D → Bool
  | [] => true
  | a :: as => D.flat a && D.flatL as
end
mutual
/-- how deep tuples stand in one another -/
def D.depth : D → Nat
  | .tup xs => D.depthL xs + 1
  | _ => 0
def D.depthL : List D → Nat
  | [] => 0
  | a :: as => max (D.depth a) (D.depthL as)
end
/-- line of sizes -/
def line : Nat := 16777216
def onlyIf {α : Type} (b : Bool) (m : Ev α) : Ev α := match b with
  | true => m
  | false => Ev.stuck
end QV
namespace QV
open PySem
/-! ### operations -/
def mulOk (i j : Int) : Bool := (decide (-(2 ^ 64) < i) && decide (i < 2 ^ 64)) || (decide (-(2 ^ 64) < j) && decide (j < 2 ^ 64))
/-- a text a number of times -/
def repS (x : Str) (n : Nat) : Str := ⟨((List.replicate n x.cps.toList).flatten).toArray⟩
def opD : Op → D → D → Ev D
  | .add, .int i, .int j => Ev.ret (.int (i + j))
  | .add, .str x, .str y => onlyIf (decide (x.length + y.length ≤ line)) (Ev.ret (.str (x ++ y)))
  | .sub, .int i, .int j => Ev.ret (.int (i - j))
  | .mul, .int i, .int j => onlyIf (mulOk i j) (Ev.ret (.int (i * j)))
  | .mul, .str x, .int n => onlyIf (decide (1 < n) && decide (n ≤ 1000) && decide (0 < x.length) && decide (x.length ≤ 1000)) (Ev.ret (.str (repS x n.toNat)))
  | .fdiv, .int i, .int j => onlyIf (decide (0 < j) && decide (j < 1073741824)) (Ev.ret (.int (i / j)))
  | .mod, .int i, .int j => onlyIf (decide (0 < j)) (Ev.ret (.int (i % j)))
  | .pow, .int i, .int j => onlyIf (decide (0 ≤ j) && decide (j ≤ 1000000) && decide (i.natAbs < 2 ^ 64)) (Ev.ret (.int (i ^ j.toNat)))
  | _, _, _ => Ev.stuck
/-- the items of a list that a value is -/
def asL (S : Sto) : D → Option (List D)
  | .loc n => match S[n]? with
    | some (.lst xs) => some xs
    | some (.ro xs) => some xs
    | _ => none
  | _ => none
/-- == of lists: told by the lengths, or of items that are data -/
def eqL (xs ys : List D) : Option Bool := if xs.length = ys.length then (if D.flatL xs && D.flatL ys && decide (D.depthL xs ≤ 60) && decide (D.depthL ys ≤ 60) then some (D.beqL xs ys) else none) else some false
def eqD (S : Sto) (a b : D) : Option Bool := match asL S a, asL S b with
  | some xs, some ys => eqL xs ys
  | none, none => if a.flat && b.flat && decide (a.depth ≤ 60) && decide (b.depth ≤ 60) then some (D.beq a b) else none
  | _, _ => none
def ofOpt {α : Type} (o : Option α) : Ev α := match o with
  | some a => Ev.ret a
  | none => Ev.stuck
/-- one sign in a text -/
def in1 (x y : Str) : Option Bool := match x.cps.toList with
  | [c] => some (decide (c ∈ y.cps.toList))
  | _ => none
def cmD : Cm → D → D → Ev D
  | .eq, a, b => fun S => ofOpt ((eqD S a b).map D.bl) S
  | .ne, a, b => fun S => ofOpt ((eqD S a b).map fun k => D.bl (!k)) S
  | .lt, .int i, .int j => Ev.ret (.bl (decide (i < j)))
  | .le, .int i, .int j => Ev.ret (.bl (decide (i ≤ j)))
  | .gt, .int i, .int j => Ev.ret (.bl (decide (j < i)))
  | .ge, .int i, .int j => Ev.ret (.bl (decide (j ≤ i)))
  | .isin, .str x, .str y => ofOpt ((in1 x y).map D.bl)
  | .notin, .str x, .str y => ofOpt ((in1 x y).map fun k => D.bl (!k))
  | _, _, _ => Ev.stuck
def isNonD : D → Bool
  | .non => true
  | _ => false
/-- the place that an index of any sign means -/
def atD {α : Type} (xs : List α) (i : Int) : Option α := if 0 ≤ i then xs[i.toNat]? else if -(xs.length : Int) ≤ i then xs[(i + xs.length).toNat]? else none
def look (kvs : List (Str × D)) (k : Str) : Option D := (kvs.find? fun p => decide (p.1 = k)).map (·.2)
def idxD : D → D → Ev D
  | .tup xs, .int i => ofOpt (atD xs i)
  | .str x, .int i => onlyIf (decide (x.length ≤ line)) (ofOpt ((atD x.cps.toList i).map fun c => .str ⟨#[c]⟩))
  | .loc n, .int i => fun S => ofOpt ((asL S (.loc n)).bind fun xs => atD xs i) S
  | .loc n, .str k => fun S => match S[n]? with
    | some (.dic kvs) => ofOpt (look kvs k) S
    | _ => .stk
  | _, _ => Ev.stuck
/-- a slice's bound -/
def sIxD (n d : Nat) : Option Int → Nat
  | none => d
  | some v => if v < 0 then (v + (n : Int)).toNat else min v.toNat n
def cutD {α : Type} (xs : List α) (lo hi : Option Int) : List α := (xs.drop (sIxD xs.length 0 lo)).take (sIxD xs.length xs.length hi - sIxD xs.length 0 lo)
def slcD : D → Option Int → Option Int → Ev D
  | .str x, lo, hi => onlyIf (decide (x.length ≤ line)) (Ev.ret (.str ⟨(cutD x.cps.toList lo hi).toArray⟩))
  | _, _, _ => Ev.stuck
def newC (c : SC) : Ev D := fun S => .ok (.loc S.length) (S ++ [c])
def putC (n : Nat) (c : SC) : Ev D := fun S => .ok .non (S.set n c)
def bools : List D → Option (List Bool)
  | [] => some []
  | .bl b :: r => (bools r).map (b :: ·)
  | _ :: _ => none
def strsOf : List D → Option (List Str)
  | [] => some []
  | .str b :: r => (strsOf r).map (b :: ·)
  | _ :: _ => none
mutual
def D.py : D → PyData
  | .bl b => .bool b
  | .int i => .int i
  | .str x => .str x
  | .tup xs => .tuple (D.pyL xs)
  | _ => .none
def D.pyL : List D → List PyData
  | [] => []
  | a :: as => D.py a :: D.pyL as
end
/-- repr of data: the model's own text -/
def ofShown (d : D) : Ev D := onlyIf (decide (d.py.shown.length ≤ line) && d.py.showable) (Ev.ret (.str d.py.shown))
def biD : Bi → List D → Ev D
  | .len, [.str x] => onlyIf (decide (x.length ≤ line)) (Ev.ret (.int x.length))
  | .len, [.tup xs] => Ev.ret (.int xs.length)
  | .len, [.loc n] => fun S => ofOpt ((asL S (.loc n)).map fun xs => .int xs.length) S
  | .abs, [.int i] => Ev.ret (.int (if i < 0 then -i else i))
  | .int, [.int i] => Ev.ret (.int i)
  | .int, [.str x] => onlyIf (decide (x.length ≤ 640)) (ofOpt ((intText? x).map D.int))
  | .str, [.int i] => onlyIf (decide (i.natAbs.log2 < 1920)) (Ev.ret (.str (toString i)))
  | .str, [.str x] => Ev.ret (.str x)
  | .all, [.loc n] => fun S => ofOpt (((asL S (.loc n)).bind bools).map fun bs => .bl (bs.all id)) S
  | .any, [.loc n] => fun S => ofOpt (((asL S (.loc n)).bind bools).map fun bs => .bl (bs.any id)) S
  | .repr, [d] => onlyIf (d.flat && decide (d.depth ≤ 60)) (ofShown d)
  | .min2, [.int i, .int j] => Ev.ret (.int (if j < i then j else i))
  | .tuple, [.tup xs] => Ev.ret (.tup xs)
  | .tuple, [.loc n] => fun S => ofOpt ((asL S (.loc n)).map D.tup) S
  | _, _ => Ev.stuck

def joinCost (x : Str) : List Str → Nat
  | [] => 0
  | y :: ys => y.length + x.length + joinCost x ys
/-- texts with x between them -/
def joinD (x : Str) (ys : List Str) : Str := ⟨((x.cps.toList).intercalate (ys.map fun y => y.cps.toList)).toArray⟩
/-- the kinds of an object -/
def isiD (S : Sto) : D → Ty → Option Bool
  | .non, .own _ => none
  | .non, _ => some false
  | .bl _, .own _ => none
  | .bl _, .bool | .bl _, .int => some true
  | .bl _, _ => some false
  | .int _, .own _ => none
  | .int _, .int => some true
  | .int _, _ => some false
  | .str _, .own _ => none
  | .str _, .str => some true
  | .str _, _ => some false
  | .tup _, .own _ => none
  | .tup _, .tuple => some true
  | .tup _, _ => some false
  | .loc _, .own _ => none
  | .loc n, t => match S[n]? with
    | some (.lst _) => some (decide (t = .list))
    | some (.ro _) => none
    | some (.dic _) => some (decide (t = .dict))
    | none => none
  | .exc k _, .own j => some (decide (k = j))
  | _, _ => none
def isiAny (S : Sto) (d : D) : List Ty → Option Bool
  | [] => some false
  | t :: ts => match isiD S d t with
    | some true => some true
    | some false => isiAny S d ts
    | none => none
def mthD : Mt → D → List D → Ev D
  | .append, .loc n, [y] => fun S => match S[n]? with
    | some (.lst xs) => (onlyIf (decide (xs.length < line)) (putC n (.lst (xs ++ [y])))) S
    | _ => .stk
  | .extend, .loc n, [.tup ys] => fun S => match S[n]? with
    | some (.lst xs) => (onlyIf (decide (xs.length + ys.length ≤ line)) (putC n (.lst (xs ++ ys)))) S
    | _ => .stk
  | .extend, .loc n, [.loc m] => fun S => match S[n]?, S[m]? with
    | some (.lst xs), some (.lst ys) => (onlyIf (decide (xs.length + ys.length ≤ line)) (putC n (.lst (xs ++ ys)))) S
    | _, _ => .stk
  | .pop, .loc n, [] => fun S => match S[n]? with
    | some (.lst xs) => match xs[xs.length - 1]? with
      | some y => .ok y (S.set n (.lst xs.dropLast))
      | none => .stk
    | _ => .stk
  | .pop, .loc n, [.int i] => onlyIf (decide (i = 0)) fun S => match S[n]? with
    | some (.lst (y :: xs)) => .ok y (S.set n (.lst xs))
    | _ => .stk
  | .join, .str x, [.loc n] => fun S => match (asL S (.loc n)).bind strsOf with
    | some ys => (onlyIf (decide (joinCost x ys ≤ line)) (Ev.ret (.str (joinD x ys)))) S
    | none => .stk
  | _, _, _ => Ev.stuck
/-- the receiver's kind -/
def chkM : Mt → D → Ev Unit
  | .join, .str _ => Ev.ret ()
  | .join, _ => Ev.stuck
  | _, .loc n => fun S => match S[n]? with
    | some (.lst _) => .ok () S
    | _ => .stk
  | _, _ => Ev.stuck
def setD : D → D → D → Ev Unit
  | .loc n, .str k, v => fun S => match S[n]? with
    | some (.dic kvs) => match look kvs k with
      | some _ => (onlyIf (decide (kvs.length < 1000)) fun S => .ok () (S.set n (.dic (kvs.map fun p => if p.1 = k then (k, v) else p)))) S
      | none => .stk
    | _ => .stk
  | _, _, _ => Ev.stuck
def asBl : D → Ev Bool
  | .bl b => Ev.ret b
  | _ => Ev.stuck
def asInt : D → Ev Int
  | .int b => Ev.ret b
  | _ => Ev.stuck

/-- the pairs of a new dict are put into it -/
def fillD : D → List (Str × D) → Ev D
  | .loc n, kvs => fun S => match S[n]? with
    | some (.dic []) => .ok (.loc n) (S.set n (.dic kvs))
    | _ => .stk
  | _, _ => Ev.stuck
/-! ### the evaluator -/
/-- where no exception may leave -/
def noEx {α : Type} (m : Ev α) : Ev α := fun S => match m S with
  | .ex _ _ => .stk
  | r => r
/-- what is walked: a list as it stands at each turn; fixed things -/
inductive It where
  | live (n : Nat)
  | fix (xs : List D)
def wipeD (env : En) : List Nat → En
  | [] => env
  | v :: vs => (wipeD env vs).set v none
/-- a comprehension's loop: r the turns left (for a list: at most) -/
def lcFix (turn : D → Ev (Option D)) (n : Nat) : List D → Ev Unit
  | [] => Ev.ret ()
  | x :: r => Ev.bind ((turn x)) fun y => Ev.bind ((match y with
    | some y => Ev.bind (mthD .append (.loc n) [y]) fun _ => Ev.ret ()
    | none => Ev.ret ())) fun _ => lcFix turn n r
def lcLive (turn : D → Ev (Option D)) (n m : Nat) : Nat → Nat → Ev Unit
  | 0, i => fun S => match asL S (.loc m) with
    | some xs => if xs.length ≤ i then .ok () S else .stk
    | none => .stk
  | r + 1, i => fun S => match asL S (.loc m) with
    | some xs => match xs[i]? with
      | none => .ok () S
      | some x => (Ev.bind ((turn x)) fun y => Ev.bind ((match y with
        | some y => Ev.bind (mthD .append (.loc n) [y]) fun _ => Ev.ret ()
        | none => Ev.ret ())) fun _ => lcLive turn n m r (i + 1)) S
    | none => .stk
def lcRun (turn : D → Ev (Option D)) (n : Nat) : It → Ev Unit
  | .fix xs => lcFix turn n xs
  | .live m => fun S => match asL S (.loc m) with
    | some xs => lcLive turn n m xs.length 0 S
    | none => .stk
/-- what a for walks, of a value -/
def itOf : D → Ev It
  | .tup xs => Ev.ret (.fix xs)
  | .str x => Ev.ret (.fix (x.cps.toList.map fun c => .str ⟨#[c]⟩))
  | .loc n => fun S => match asL S (.loc n) with
    | some _ => .ok (.live n) S
    | none => .stk
  | _ => Ev.stuck
def itRng : D → Ev It
  | .int j => onlyIf (decide (-(2 ^ 62) ≤ j) && decide (j < 2 ^ 62)) (Ev.ret (.fix ((List.range j.toNat).map fun i => D.int (i : Nat))))
  | _ => Ev.stuck
def enumF (i : Nat) : List D → List D
  | [] => []
  | x :: r => .tup [.int i, x] :: enumF (i + 1) r
def itEnr : D → Ev It
  | .tup xs => Ev.ret (.fix (enumF 0 xs.reverse))
  | _ => Ev.stuck
def itW : Wk → D → Ev It
  | .val => itOf
  | .rng => itRng
  | .enr => itEnr
abbrev Orc := D → List D → Ev D
section
variable (K : Orc)
mutual
def evC : C → En → Ev D
  | .stk, _ => Ev.stuck
  | .non, _ => Ev.ret .non
  | .bl b, _ => Ev.ret (.bl b)
  | .int i, _ => Ev.ret (.int i)
  | .str x, _ => Ev.ret (.str x)
  | .var i, env => match env[i]? with
    | some (some (.clo _ _)) => Ev.stuck
    | some (some d) => Ev.ret d
    | _ => Ev.stuck
  | .fnv k, _ => Ev.ret (.fn k)
  | .bin op a b, env => Ev.bind (evC a env) fun x => Ev.bind (evC b env) fun y => opD op x y
  | .cmp .isN a _, env => Ev.bind (evC a env) fun x => Ev.ret (.bl (isNonD x))
  | .cmp .notN a _, env => Ev.bind (evC a env) fun x => Ev.ret (.bl (!isNonD x))
  | .cmp op a b, env => Ev.bind (evC a env) fun x => Ev.bind (evC b env) fun y => cmD op x y
  | .chn p q a b c, env => Ev.bind (evC a env) fun x => Ev.bind (evC b env) fun y => Ev.bind (cmD p x y) fun t => Ev.bind (asBl t) fun k => match k with
    | true => Ev.bind (evC c env) fun z => cmD q y z
    | false => Ev.ret (.bl false)
  | .nt a, env => Ev.bind (evC a env) fun x => Ev.bind (asBl x) fun k => Ev.ret (.bl (!k))
  | .an a b, env => Ev.bind (evC a env) fun x => Ev.bind (asBl x) fun k => match k with
    | true => evC b env
    | false => Ev.ret (.bl false)
  | .orr a b, env => Ev.bind (evC a env) fun x => Ev.bind (asBl x) fun k => match k with
    | true => Ev.ret (.bl true)
    | false => evC b env
  | .ife t a b, env => Ev.bind (evC t env) fun x => Ev.bind (asBl x) fun k => match k with
    | true => evC a env
    | false => evC b env
  | .tup es, env => Ev.bind (evCs es env) fun xs => onlyIf (decide (xs.length ≤ line)) (Ev.ret (.tup xs))
  | .lst es, env => Ev.bind (evCs es env) fun xs => onlyIf (decide (xs.length ≤ line)) (newC (.lst xs))
  | .dic ks es, env => onlyIf (decide (0 < ks.length) && decide (ks.length ≤ 15) && decide (ks.length = es.length) && decide ks.Nodup) (Ev.bind (newC (.dic [])) fun d => Ev.bind (evCs es env) fun xs => fillD d (ks.zip xs))
  | .idx a b, env => Ev.bind (evC a env) fun x => Ev.bind (evC b env) fun y => idxD x y
  | .slc a lo hi, env => Ev.bind (evC a env) fun x => Ev.bind (evO lo env) fun l => Ev.bind (evO hi env) fun h => slcD x l h
  | .call k es, env => Ev.bind (evCs es env) fun xs => K (.fn k) xs
  | .callL k body, env => K (.fn k) [.clo body env]
  | .clv i, env => match env[i]? with
    | some (some (.clo b e)) => K (.clo b e) []
    | _ => Ev.stuck
  | .bi b es, env => Ev.bind (evCs es env) fun xs => biD b xs
  | .isi a ts, env => Ev.bind (evC a env) fun x => fun S => ofOpt ((isiAny S x ts).map D.bl) S
  | .mth m a es, env => Ev.bind (evC a env) fun x => Ev.bind (chkM m x) fun _ => Ev.bind (evCs es env) fun xs => mthD m x xs
  | .fld a f, env => Ev.bind (evC a env) fun x => match x with
    | .exc _ fs => ofOpt (look fs f)
    | _ => Ev.stuck
  | .lc elt own tg kd iter t, env => Ev.bind (evC iter env) fun x => Ev.bind (itW kd x) fun J => Ev.bind (newC (.lst [])) fun d => match d with
    | .loc n => Ev.bind (lcRun (fun x => noEx (Ev.bind (evT t ((wipeD env own).set tg (some x))) fun k => match k with
        | true => Ev.bind (evC elt ((wipeD env own).set tg (some x))) fun y => Ev.ret (some y)
        | false => Ev.ret none)) n J) fun _ => Ev.ret d
    | _ => Ev.stuck
def evT : Option C → En → Ev Bool
  | none, _ => Ev.ret true
  | some c, env => Ev.bind (evC c env) (asBl)
def evCs : List C → En → Ev (List D)
  | [], _ => Ev.ret []
  | c :: r, env => Ev.bind (evC c env) fun x => Ev.bind (evCs r env) fun xs => Ev.ret (x :: xs)
def evO : Option C → En → Ev (Option Int)
  | none, _ => Ev.ret none
  | some c, env => Ev.bind (evC c env) fun x => Ev.bind (asInt x) fun i => Ev.ret (some i)
end
end
/-! ### statements -/
inductive SOut where
  | stk | nx (env : En) (S : Sto) | rt (d : D) (S : Sto) | bk (env : En) (S : Sto) | ct (env : En) (S : Sto) | ex (e : D) (env : En) (S : Sto)
abbrev Sv := En → Sto → SOut
def ofEv {α : Type} (m : En → Ev α) (f : α → Sv) : Sv := fun env S => match m env S with
  | .stk => .stk
  | .ok a S' => f a env S'
  | .ex e S' => .ex e env S'
def seqS (m n : Sv) : Sv := fun env S => match m env S with
  | .nx env' S' => n env' S'
  | r => r
def setAll : En → List Nat → List D → Option En
  | env, [], [] => some env
  | env, i :: is, x :: xs => setAll (env.set i (some x)) is xs
  | _, _, _ => none
def bindT : Tg → D → En → Option En
  | .nm i, d, env => some (env.set i (some d))
  | .tp is, .tup xs, env => setAll env is xs
  | _, _, _ => none
def bindS (tg : Tg) (x : D) (m : Sv) : Sv := fun env S => match bindT tg x env with
  | some env' => m env' S
  | none => .stk
/-- what a turn's body leaves to the loop -/
def turnS (m next : Sv) : Sv := fun env S => match m env S with
  | .nx env' S' => next env' S'
  | .ct env' S' => next env' S'
  | .bk env' S' => .nx env' S'
  | r => r
def forFix (tg : Tg) (body : Sv) : List D → Sv
  | [] => fun env S => .nx env S
  | x :: r => bindS tg x (turnS body (forFix tg body r))
def forLive (tg : Tg) (body : Sv) (m : Nat) : Nat → Nat → Sv
  | 0, i => fun env S => match asL S (.loc m) with
    | some xs => if xs.length ≤ i then .nx env S else .stk
    | none => .stk
  | r + 1, i => fun env S => match asL S (.loc m) with
    | some xs => match xs[i]? with
      | none => .nx env S
      | some x => bindS tg x (turnS body (forLive tg body m r (i + 1))) env S
    | none => .stk
def forRun (tg : Tg) (body : Sv) : It → Sv
  | .fix xs => forFix tg body xs
  | .live m => fun env S => match asL S (.loc m) with
    | some xs => forLive tg body m xs.length 0 env S
    | none => .stk
def whlRun (t : En → Ev Bool) (body : Sv) : Nat → Sv
  | 0 => fun _ _ => .stk
  | f + 1 => ofEv t fun k => match k with
    | true => turnS body (whlRun t body f)
    | false => fun env S => .nx env S
/-- the classes of exceptions: a field that __init__ stores beside the text, if any; the one that is above all -/
structure Tb where
  defs : List (Nat × Nat × List Sm)
  excs : List (Option Str)
  root : Nat
def excOf (T : Tb) (k : Nat) (xs : List D) : Option D := match T.excs[k]?, xs with
  | some (some f), [.str _, v] => some (.exc k [(f, v)])
  | _, _ => none
def excIs (T : Tb) (k j : Nat) : Bool := decide (k = j) || decide (j = T.root)
section
variable (T : Tb) (K : Orc) (F : Nat)
mutual
def evS : Sm → Sv
  | .stk => fun _ _ => .stk
  | .ex e => ofEv (evC K e) fun _ env S => .nx env S
  | .asg t e => ofEv (evC K e) fun x => bindS t x fun env S => .nx env S
  | .par i j a b => ofEv (evC K a) fun x => ofEv (evC K b) fun y env S => .nx ((env.set i (some x)).set j (some y)) S
  | .setI o i e => ofEv (evC K e) fun v => ofEv (evC K o) fun x => ofEv (evC K i) fun y => ofEv (fun _ => setD x y v) fun _ env S => .nx env S
  | .aug i op e => ofEv (evC K (.var i)) fun x => ofEv (evC K e) fun y => ofEv (fun _ => opD op x y) fun z env S => .nx (env.set i (some z)) S
  | .ret e => ofEv (evC K e) fun x _ S => .rt x S
  | .retN => fun _ S => .rt .non S
  | .ifs t a b => ofEv (evT K (some t)) fun k => match k with
    | true => evSs a
    | false => evSs b
  | .whl t body => whlRun (evT K (some t)) (fun env S => evSs body env S) F
  | .fors tg kd iter body => ofEv (fun env => Ev.bind (evC K iter env) (itW kd)) fun J => forRun tg (fun env S => evSs body env S) J
  | .brk => fun env S => .bk env S
  | .cnt => fun env S => .ct env S
  | .pas => fun env S => .nx env S
  | .rai k es => ofEv (evCs K es) fun xs => match excOf T k xs with
    | some e => fun env S => .ex e env S
    | none => fun _ _ => .stk
  | .tryA body k i suite => fun env S => match evSs body env S with
    | .ex (.exc j fs) env' S' => (match excIs T j k with
      | true => (match evSs suite (env'.set i (some (.exc j fs))) S' with
        | .nx env2 S2 => .nx (env2.set i none) S2
        | .bk env2 S2 => .bk (env2.set i none) S2
        | .ct env2 S2 => .ct (env2.set i none) S2
        | .rt d S2 => .rt d S2
        | _ => .stk)
      | false => .stk)
    | .ex _ _ _ => .stk
    | r => r
def evSs : List Sm → Sv
  | [] => fun env S => .nx env S
  | s :: r => seqS (evS s) (evSs r)
end
end
/-- a call at a depth -/
def runDef (T : Tb) (K : Orc) (F : Nat) (d : Nat × Nat × List Sm) (xs : List D) : Ev D := fun S =>
  match decide (xs.length = d.1) && decide (d.1 ≤ d.2.1) with
  | false => .stk
  | true => match evSs T K F d.2.2 (xs.map some ++ List.replicate (d.2.1 - d.1) none) S with
    | .nx _ S' => .ok .non S'
    | .rt v S' => .ok v S'
    | .ex e _ S' => .ex e S'
    | _ => .stk
def callN (T : Tb) (F : Nat) : Nat → Orc
  | 0 => fun _ _ => Ev.stuck
  | d + 1 => fun f xs => match f with
    | .fn k => (match T.defs[k]? with
      | some df => runDef T (callN T F d) F df xs
      | none => Ev.stuck)
    | .clo body env => (match xs with
      | [] => evC (callN T F d) body env
      | _ => Ev.stuck)
    | _ => Ev.stuck
end QV
set_option maxRecDepth 100000
/-! Qc: from the text to the small language. -/
namespace QV
open PySem
/-- what the names of the module stand for -/
structure CT where
  defs : List Str
  pars : List (List Str)
  excs : List Str
  root : Nat
  numC : List (Str × Int)
  txtC : List (Str × Str)
  blt : List Str
  /-- the fields of exceptions that are read -/
  flds : List Str
def ix (l : List Str) (x : Str) : Option Nat := l.findIdx? fun y => decide (y = x)
def visB (sc : Scope) (x : Str) : Bool := match sc.names.lookup x with
  | some .local => true
  | some .cell => true
  | some .free => true
  | _ => false
def glB (sc : Scope) (x : Str) : Bool := match sc.names.lookup x with
  | some .globalImplicit => true
  | _ => false
def locB (sc : Scope) (x : Str) : Bool := match sc.names.lookup x with
  | some .local => true
  | some .cell => true
  | _ => false
def okName (x : Str) : Bool := !decide (x = "__debug__") && !decide (x = "__classdict__")
def opOf : Operator → Option Op
  | .Add => some .add
  | .Sub => some .sub
  | .Mult => some .mul
  | .FloorDiv => some .fdiv
  | .Mod => some .mod
  | .Pow => some .pow
  | _ => none
def cmOf : CmpOp → Option Cm
  | .Eq => some .eq
  | .NotEq => some .ne
  | .Lt => some .lt
  | .LtE => some .le
  | .Gt => some .gt
  | .GtE => some .ge
  | .In => some .isin
  | .NotIn => some .notin
  | _ => none
def isSetE : Expr → Bool
  | .Set .. => true
  | _ => false
def isStarE : Expr → Bool
  | .Starred .. => true
  | _ => false
def isSliceE : Expr → Bool
  | .Slice .. => true
  | _ => false
def isCompE : Expr → Bool
  | .ListComp .. => true
  | .SetComp .. => true
  | .DictComp .. => true
  | _ => false
/-- a receiver that is no call without arguments (super) -/
def plainB : Expr → Bool
  | .Call (.Name _ _) [] [] _ => false
  | _ => true
def keyOf : Option Expr → Option Str
  | some (.Constant (.str x) _ _) => some x
  | _ => none
def keysOf : List (Option Expr) → Option (List Str)
  | [] => some []
  | k :: r => (keyOf k).bind fun x => (keysOf r).map (x :: ·)
section
variable (T : CT)
/-- a built-in's name that the module leaves alone -/
def bltB (sc : Scope) (x y : Str) : Bool := decide (x = y) && glB sc x && decide (x ∈ T.blt)
def ty1 (sc : Scope) : Expr → Option Ty
  | .Name x _ => if bltB T sc x "int" then some .int else if bltB T sc x "str" then some .str else if bltB T sc x "bool" then some .bool else if bltB T sc x "list" then some .list
    else if bltB T sc x "tuple" then some .tuple else if bltB T sc x "dict" then some .dict
    else if glB sc x && okName x then (ix T.excs x).bind fun k => if k = T.root then none else some (Ty.own k) else none
  | _ => none
def tys (sc : Scope) : List Expr → Option (List Ty)
  | [] => some []
  | e :: r => (ty1 T sc e).bind fun t => (tys sc r).map (t :: ·)
def biOf (sc : Scope) (x : Str) (n : Nat) : Option Bi :=
  if bltB T sc x "len" && n == 1 then some .len else if bltB T sc x "abs" && n == 1 then some .abs else if bltB T sc x "int" && n == 1 then some .int else if bltB T sc x "str" && n == 1 then some .str
  else if bltB T sc x "repr" && n == 1 then some .repr else if bltB T sc x "all" && n == 1 then some .all else if bltB T sc x "any" && n == 1 then some .any else if bltB T sc x "min" && n == 2 then some .min2
  else if bltB T sc x "tuple" && n == 1 then some .tuple else none
def mtOf (m : Str) (n : Nat) : Option Mt :=
  if decide (m = "append") && n == 1 then some .append else if decide (m = "extend") && n == 1 then some .extend else if decide (m = "pop") && decide (n ≤ 1) then some .pop
  else if decide (m = "join") && n == 1 then some .join else none
def relB (scope sc : Scope) : Scope :=
  { scope with names := scope.names.map fun (n, k) => if (k == .free && sc.kind == .function && sc.names.lookup n == some .cell) then (n, .cell) else (n, k) }
/-- a comprehension's own names, with their slots; every other name of the block is the def's -/
def ownOf (N : List Str) (sc scope : Scope) : Option (List (Str × Nat)) :=
  let own := scope.names.filter fun y => match y.2 with
    | .local => true
    | .cell => true
    | _ => false
  let l := own.filterMap fun y => (ix N y.1).map fun i => (y.1, i)
  if l.length == own.length then some l else none
mutual
/-- q: 0 in an except suite, 1 elsewhere, 2 where lambdas are made -/
def cE (q : Nat) (N : List Str) : Nat → Scope → Expr → C
  | 0, _, _ => .stk
  | n + 1, sc, e => match e with
    | .Constant .none _ _ => .non
    | .Constant (.bool b) _ _ => .bl b
    | .Constant (.int i) _ _ => .int i
    | .Constant (.str x) _ _ => .str x
    | .Name x _ => if okName x then (if visB sc x then (match ix N x with
        | some i => .var i
        | none => .stk)
      else if glB sc x then (match T.numC.lookup x with
        | some i => .int i
        | none => match T.txtC.lookup x with
          | some s => .str s
          | none => match ix T.defs x with
            | some k => .fnv k
            | none => .stk)
      else .stk) else .stk
    | .BinOp a op b _ => (match opOf op with
      | some o => .bin o (cE q N n sc a) (cE q N n sc b)
      | none => .stk)
    | .UnaryOp .Not a _ => .nt (cE q N n sc a)
    | .UnaryOp .USub a _ => .bin .sub (.int 0) (cE q N n sc a)
    | .BoolOp .And vs _ => cAn q N n sc vs
    | .BoolOp .Or vs _ => cOr q N n sc vs
    | .IfExp t a b _ => .ife (cE q N n sc t) (cE q N n sc a) (cE q N n sc b)
    | .Compare a [.Is] [.Constant .none _ _] _ => .cmp .isN (cE q N n sc a) .non
    | .Compare a [.IsNot] [.Constant .none _ _] _ => .cmp .notN (cE q N n sc a) .non
    | .Compare a [op] [b] _ => (match cmOf op, isSetE b with
      | some o, false => .cmp o (cE q N n sc a) (cE q N n sc b)
      | _, _ => .stk)
    | .Compare a [op, op'] [b, c] _ => (match cmOf op, cmOf op', isSetE c with
      | some o, some o', false => .chn o o' (cE q N n sc a) (cE q N n sc b) (cE q N n sc c)
      | _, _, _ => .stk)
    | .Tuple es _ _ => .tup (cEs q N n sc es)
    | .List es _ => .lst (cEs q N n sc es)
    | .Dict ks vs _ => (match keysOf ks with
      | some l => if ks.length == vs.length then .dic l (cEs q N n sc vs) else .stk
      | none => .stk)
    | .Subscript a (.Slice lo hi none _) _ => .slc (cE q N n sc a) (cO q N n sc lo) (cO q N n sc hi)
    | .Subscript a b _ => if isSliceE b then .stk else .idx (cE q N n sc a) (cE q N n sc b)
    | .Attribute a f _ => if plainB a && decide (f ∈ T.flds) then .fld (cE q N n sc a) f else .stk
    | .Call (.Name x _) [a, t] [] _ => if bltB T sc x "isinstance" then (match t with
          | .Tuple ts _ _ => (match tys T sc ts with
            | some l => if !l.isEmpty && decide (l.length ≤ 1000) then .isi (cE q N n sc a) l else .stk
            | none => .stk)
          | t => (match ty1 T sc t with
            | some l => .isi (cE q N n sc a) [l]
            | none => .stk))
        else cCall q N n sc x [a, t]
    | .Call (.Name x _) [] [⟨some k, a, _⟩] _ => if q != 0 && okName x && glB sc x && !visB sc x then (match ix T.defs x with
        | some j => (match decide (T.pars[j]? = some [k]) with
          | true => .call j [cE q N n sc a]
          | false => .stk)
        | none => .stk) else .stk
    | .Call (.Name x _) [.Lambda ⟨[], [], none, [], [], none, []⟩ body scope _] [] _ => (match q == 2 && okName x && !visB sc x && glB sc x && decide (scope.kind = .function) && !scope.isCoroutine && !scope.isGenerator && scope.names.all fun y => !decide (y.2 = .local) && !decide (y.2 = .cell) && (!decide (y.2 = .free) || decide (sc.names.lookup y.1 = some .cell)), ix T.defs x with
        | true, some k => .callL k (cE 1 N n scope body)
        | _, _ => .stk)
    | .Call (.Name x _) es [] _ => cCall q N n sc x es
    | .Call (.Attribute o m ap) es [] cp => if plainB o && !es.any isStarE && ap.endLine == cp.line then (match mtOf m es.length with
        | some mt => .mth mt (cE q N n sc o) (cEs q N n sc es)
        | none => .stk) else .stk
    | .ListComp elt [⟨.Name x _, iter, ifs, 0⟩] scope _ => (match q != 0, ownOf N sc scope, ix N x with
      | true, some own, some i => (match scope.kind, locB scope x, isSetE iter with
        | .function, true, false =>
          let (kd, it) := cW q N n sc iter
          (match decide (kd = .enr) || !(decide (i ∈ own.map (·.2))) || !(L2.blkC N sc scope own), ifs with
          | false, [] => .lc (cE 1 N n (relB scope sc) elt) (own.map (·.2)) i kd it none
          | false, [t] => .lc (cE 1 N n (relB scope sc) elt) (own.map (·.2)) i kd it (some (cE 1 N n (relB scope sc) t))
          | _, _ => .stk)
        | _, _, _ => .stk)
      | _, _, _ => .stk)
    | _ => .stk
def cCall (q : Nat) (N : List Str) : Nat → Scope → Str → List Expr → C
  | 0, _, _, _ => .stk
  | n + 1, sc, x, es => if okName x then (match visB sc x with
    | true => (match q != 0, ix N x, es with
      | true, some i, [] => .clv i
      | _, _, _ => .stk)
    | false => if es.any isStarE then .stk else (match biOf T sc x es.length with
      | some b => (match q != 0 with
        | true => .bi b (cEs q N n sc es)
        | false => .stk)
      | none => (match q != 0, glB sc x, ix T.defs x with
        | true, true, some k => .call k (cEs q N n sc es)
        | _, _, _ => .stk))) else .stk
def cEs (q : Nat) (N : List Str) : Nat → Scope → List Expr → List C
  | 0, _, _ => [.stk]
  | n + 1, sc, es => match es with
    | [] => []
    | e :: r => (if isStarE e then .stk else cE q N n sc e) :: cEs q N n sc r
def cAn (q : Nat) (N : List Str) : Nat → Scope → List Expr → C
  | 0, _, _ => .stk
  | n + 1, sc, es => match es with
    | [] => .stk
    | [e] => cE q N n sc e
    | e :: r => .an (cE q N n sc e) (cAn q N n sc r)
def cOr (q : Nat) (N : List Str) : Nat → Scope → List Expr → C
  | 0, _, _ => .stk
  | n + 1, sc, es => match es with
    | [] => .stk
    | [e] => cE q N n sc e
    | e :: r => .orr (cE q N n sc e) (cOr q N n sc r)
def cO (q : Nat) (N : List Str) : Nat → Scope → Option Expr → Option C
  | 0, _, _ => some .stk
  | n + 1, sc, o => match o with
    | none => none
    | some e => some (cE q N n sc e)
/-- what a for walks -/
def cW (q : Nat) (N : List Str) : Nat → Scope → Expr → Wk × C
  | 0, _, _ => (.val, .stk)
  | n + 1, sc, e => match e with
    | .Call (.Name x _) [a] [] _ => if bltB T sc x "range" && !isStarE a then (.rng, cE q N n sc a) else (match a with
      | .Call (.Name y _) [b] [] _ => if bltB T sc x "enumerate" && bltB T sc y "reversed" && !isStarE b then (.enr, cE q N n sc b) else (.val, cE q N n sc e)
      | _ => (.val, cE q N n sc e))
    | e => (.val, cE q N n sc e)
end
def slots (N : List Str) (sc : Scope) : List Expr → Option (List Nat)
  | [] => some []
  | .Name x _ :: r => (match locB sc x, ix N x with
    | true, some i => (slots N sc r).map (i :: ·)
    | _, _ => none)
  | _ => none
mutual
def cS (q : Nat) (N : List Str) : Nat → Scope → Stmt → Sm
  | 0, _, _ => .stk
  | n + 1, sc, s => match s with
    | .Expr (.Constant (.str _) _ _) _ => .pas
    | .Expr e _ => if isCompE e then .stk else .ex (cE T q N n sc e)
    | .Assign [.Name x px] e p => (match locB sc x, ix N x with
      | true, some i => (match isCompE e with
        | false => .asg (.nm i) (cE T q N n sc e)
        | true => (match e, decide (sc.names.lookup x = some .local) with
          | .ListComp _ [_] s2 lp, true => if px.line == lp.line && !(s2.names.any fun (m, k) => m == x && (k == .local || k == .cell)) then .asg (.nm i) (cE T q N n sc e) else .stk
          | _, _ => .stk))
      | _, _ => .stk)
    | .Assign [.Tuple [.Name x px, .Name y py] _ _] (.Tuple [a, b] _ _) _ => (match q != 0 && px.line == py.line && decide (sc.names.lookup x = some .local) && decide (sc.names.lookup y = some .local) && !decide (x = y) && !isStarE a && !isStarE b
          && !((foldedForSure 8 a) && (foldedForSure 8 b)) && !((constantsAlone 8 a) && (constantsAlone 8 b)), ix N x, ix N y with
      | true, some i, some j => if i == j then .stk else .par i j (cE T q N n sc a) (cE T q N n sc b)
      | _, _, _ => .stk)
    | .Assign [.Tuple ts _ _] (.Tuple ..) _ => .stk
    | .Assign [.Tuple ts _ _] e _ => (match q != 0 && !isCompE e, slots N sc ts with
      | true, some is => .asg (.tp is) (cE T q N n sc e)
      | _, _ => .stk)
    | .Assign [.Subscript o i _] e _ => if isCompE e || isSliceE i then .stk else .setI (cE T q N n sc o) (cE T q N n sc i) (cE T q N n sc e)
    | .AugAssign (.Name x _) op e _ => (match locB sc x, ix N x, opOf op with
      | true, some i, some o => (match o with
        | .add => .aug i o (cE T q N n sc e)
        | .sub => .aug i o (cE T q N n sc e)
        | _ => .stk)
      | _, _, _ => .stk)
    | .Return none _ => .retN
    | .Return (some e) _ => .ret (cE T q N n sc e)
    | .If t a b _ => .ifs (cE T q N n sc t) (cSs q N n sc a) (cSs q N n sc b)
    | .While t body [] _ => if q != 0 then .whl (cE T q N n sc t) (cSs q N n sc body) else .stk
    | .For tg iter body [] _ => if q != 0 && !isSetE iter then (match tg with
        | .Name x _ => (match locB sc x, ix N x with
          | true, some i => let (kd, it) := cW T q N n sc iter
            (match kd with
            | .enr => .stk
            | kd => .fors (.nm i) kd it (cSs q N n sc body))
          | _, _ => .stk)
        | .Tuple ts _ _ => (match slots N sc ts with
          | some is => let (kd, it) := cW T q N n sc iter
            (match kd with
            | .rng => .stk
            | kd => .fors (.tp is) kd it (cSs q N n sc body))
          | none => .stk)
        | _ => .stk) else .stk
    | .Break _ => .brk
    | .Continue _ => .cnt
    | .Pass _ => .pas
    | .Raise (some (.Call (.Name x _) es [] _)) none _ => (match q != 0 && okName x && glB sc x && !es.any isStarE, ix T.excs x with
      | true, some k => .rai k (cEs T q N n sc es)
      | _, _ => .stk)
    | .Try body [.ExceptHandler (some (.Name x _)) (some m) (b :: suite) _] [] [] _ => (match q != 0 && okName x && glB sc x && decide (sc.names.lookup m = some .local), ix T.excs x, ix N m with
      | true, some k, some i => .tryA (cSs q N n sc body) k i (cSs 0 N n sc (b :: suite))
      | _, _, _ => .stk)
    | _ => .stk
def cSs (q : Nat) (N : List Str) : Nat → Scope → List Stmt → List Sm
  | 0, _, _ => [.stk]
  | n + 1, sc, ss => match ss with
    | [] => []
    | s :: r => cS q N n sc s :: cSs q N n sc r
end
end
end QV
set_option maxRecDepth 100000
set_option maxHeartbeats 2000000
/-! Q1: how trees and stores stand in the abstract heap. -/
namespace QV
open PySem PySem.Spec PyProof.Rows L2

/-- the names of the defs, of the exceptions' classes -/
structure Nms where
  defs : List Str
  excs : List Str
  /-- the lambdas' makers: where their table of code objects stands, the lambdas' name -/
  tabs : List (Addr × Str)
  /-- what else is known of the module -/
  mor : Program → PySem.W.Frag → (Str → Option Value) → Prop
section
variable (K : PySem.W.Frag) (NM : Nms)
def fnA (k : Nat) : Addr := He.ga K (NM.defs.getD k Str.empty)
def clA (k : Nat) : Addr := He.ga K (NM.excs.getD k Str.empty)
section
variable (ρ : List Addr) (H : Hp)
mutual
/-- the value v is the tree d; no closure in it -/
def Rep : D → V → Prop
  | .non, v => v = .non
  | .bl b, v => v = .bl b
  | .int i, v => v = .int i
  | .str x, v => v = .str x
  | .tup xs, v => ∃ a vs, v = .ref a ∧ SqT K H a vs ∧ RepL xs vs
  | .loc n, v => ∃ a, v = .ref a ∧ ρ[n]? = some a
  | .fn k, v => v = .ref (fnA K NM k)
  | .exc k fs, v => k < NM.excs.length ∧ ∃ a oe us, v = .ref a ∧ H a = some (.frz oe (.own 0)) ∧ oe.cls = .ref (clA K NM k) ∧ oe.data = .fields us ∧
      ((fs = [] ∧ oe.dict = none) ∨ ∃ d gs, oe.dict = some d ∧ H d = some (.xd gs) ∧ RepF fs gs)
  | .clo _ _, _ => False
def RepL : List D → List V → Prop
  | [], vs => vs = []
  | x :: xs, vs => ∃ v r, vs = v :: r ∧ Rep x v ∧ RepL xs r
def RepF : List (Str × D) → List (Str × V) → Prop
  | [], gs => gs = []
  | (f, x) :: xs, gs => ∃ v r, gs = (f, v) :: r ∧ Rep x v ∧ RepF xs r
end
/-- the pairs of a dict with texts as keys -/
def RepK : List (Str × D) → List (Key × V) → Prop
  | [], gs => gs = []
  | (f, x) :: xs, gs => ∃ v r, gs = (Sum.inr f, v) :: r ∧ Rep K NM ρ H x v ∧ RepK xs r
def SqRo (a : Addr) (vs : List V) : Prop := (∃ o, H a = some (.frz o (.lst vs))) ∨
  ∃ (o : Obj) (its : Array Value) (n : Nat), K.lookup a = some o ∧ o.cls = .type "list" ∧ o.dict = none ∧ o.data = .seq its n ∧ its.size ≤ sizeLine ∧ Vals vs its.toList
def Cell (a : Addr) : SC → Prop
  | .lst xs => ∃ vs, H a = some (.lst vs) ∧ RepL K NM ρ H xs vs
  | .ro xs => ∃ vs, SqRo K H a vs ∧ RepL K NM ρ H xs vs
  | .dic kvs => ∃ gs, H a = some (.dK gs) ∧ RepK K NM ρ H kvs gs
end
def SC.mut : SC → Bool
  | .ro _ => false
  | _ => true
structure Gd (ρ : List Addr) (S : Sto) (H : Hp) : Prop where
  len : ρ.length = S.length
  inj : ∀ (n m : Nat) (c c' : SC) (a : Addr), S[n]? = some c → S[m]? = some c' → c.mut = true → c'.mut = true → ρ[n]? = some a → ρ[m]? = some a → n = m
  cell : ∀ (n : Nat) (c : SC) (a : Addr), S[n]? = some c → ρ[n]? = some a → Cell K NM ρ H a c
  tabs : LamX.Tabs NM.tabs H
/-- what never changes -/
def Imm : HO → Prop
  | .tup _ => True
  | .frz _ _ => True
  | .xd _ => True
  | _ => False
structure HExt (H H' : Hp) : Prop where
  imm : ∀ a o, Imm o → H a = some o → H' a = some o
  code : ∀ c q, H c = some (LamX.CodeO c q) → H' c = some (LamX.CodeO c q)
structure Le (ρ : List Addr) (H : Hp) (ρ' : List Addr) (H' : Hp) : Prop where
  pre : ∃ t, ρ' = ρ ++ t
  ext : HExt H H'
end
theorem HExt.refl (H : Hp) : HExt H H := ⟨fun _ _ _ h => h, fun _ _ h => h⟩
theorem HExt.trans {H H1 H2 : Hp} (a : HExt H H1) (b : HExt H1 H2) : HExt H H2 :=
  ⟨fun x o i h => b.imm x o i (a.imm x o i h), fun c q h => b.code c q (a.code c q h)⟩
theorem HExt.new {H : Hp} {p : Addr} {o : HO} (h : H p = none) : HExt H (upd H p o) :=
  ⟨fun a u _ e => by rw [upd_ne (ne_of_none e h)]; exact e, fun c q e => by rw [upd_ne (ne_of_none e h)]; exact e⟩
theorem HExt.all {H H' : Hp} (h : ∀ a o, H a = some o → H' a = some o) : HExt H H' := ⟨fun a o _ e => h a o e, fun c q e => h c _ e⟩
theorem Le.refl (ρ : List Addr) (H : Hp) : Le ρ H ρ H := ⟨⟨[], by simp⟩, HExt.refl H⟩
theorem Le.trans {ρ ρ1 ρ2 : List Addr} {H H1 H2 : Hp} (a : Le ρ H ρ1 H1) (b : Le ρ1 H1 ρ2 H2) : Le ρ H ρ2 H2 := by
  obtain ⟨t, e⟩ := a.pre
  obtain ⟨u, e'⟩ := b.pre
  exact ⟨⟨t ++ u, by rw [e', e, List.append_assoc]⟩, a.ext.trans b.ext⟩
theorem Le.get {ρ ρ' : List Addr} {H H' : Hp} (l : Le ρ H ρ' H') {n : Nat} {a : Addr} (h : ρ[n]? = some a) : ρ'[n]? = some a := by
  obtain ⟨t, e⟩ := l.pre
  rw [e]
  have hn : n < ρ.length := (List.getElem?_eq_some_iff.mp h).1
  rw [List.getElem?_append_left hn]
  exact h
theorem Le.heap {ρ : List Addr} {H H' : Hp} (x : HExt H H') : Le ρ H ρ H' := ⟨⟨[], by simp⟩, x⟩
theorem sqT_ext {K : PySem.W.Frag} {H H' : Hp} {a : Addr} {vs : List V} (x : HExt H H') (h : SqT K H a vs) : SqT K H' a vs := by
  rcases h with (h | ⟨o, h⟩) | h
  · exact .inl (.inl (x.imm _ _ trivial h))
  · exact .inl (.inr ⟨o, x.imm _ _ trivial h⟩)
  · exact .inr h
theorem sqRo_ext {K : PySem.W.Frag} {H H' : Hp} {a : Addr} {vs : List V} (x : HExt H H') (h : SqRo K H a vs) : SqRo K H' a vs := by
  rcases h with ⟨o, h⟩ | h
  · exact .inl ⟨o, x.imm _ _ trivial h⟩
  · exact .inr h
theorem SqRo.sq {K : PySem.W.Frag} {H : Hp} {a : Addr} {vs : List V} (h : SqRo K H a vs) : SqL K H a vs := by
  rcases h with ⟨o, h⟩ | h
  · exact .inl (.inr ⟨o, h⟩)
  · exact .inr h
section
variable {K : PySem.W.Frag} {NM : Nms} {ρ ρ' : List Addr} {H H' : Hp}
mutual
theorem Rep.le (l : Le ρ H ρ' H') : ∀ {d : D} {v : V}, Rep K NM ρ H d v → Rep K NM ρ' H' d v
  | .non, _, h => by simpa only [Rep] using h
  | .bl _, _, h => by simpa only [Rep] using h
  | .int _, _, h => by simpa only [Rep] using h
  | .str _, _, h => by simpa only [Rep] using h
  | .tup xs, v, h => by
    simp only [Rep] at h ⊢
    obtain ⟨a, vs, e, s, r⟩ := h
    exact ⟨a, vs, e, sqT_ext l.ext s, RepL.le l r⟩
  | .loc n, v, h => by
    simp only [Rep] at h ⊢
    obtain ⟨a, e, r⟩ := h
    exact ⟨a, e, l.get r⟩
  | .fn _, _, h => by simpa only [Rep] using h
  | .exc k fs, v, h => by
    simp only [Rep] at h ⊢
    obtain ⟨hk, a, oe, us, e, h1, h2, h3, h4⟩ := h
    refine ⟨hk, a, oe, us, e, l.ext.imm _ _ trivial h1, h2, h3, ?_⟩
    rcases h4 with h4 | ⟨d, gs, e1, e2, e3⟩
    · exact .inl h4
    · exact .inr ⟨d, gs, e1, l.ext.imm _ _ trivial e2, RepF.le l e3⟩
  | .clo _ _, _, h => by simp only [Rep] at h
theorem RepL.le (l : Le ρ H ρ' H') : ∀ {ds : List D} {vs : List V}, RepL K NM ρ H ds vs → RepL K NM ρ' H' ds vs
  | [], _, h => by simpa only [RepL] using h
  | x :: xs, _, h => by
    simp only [RepL] at h ⊢
    obtain ⟨v, r, e, h1, h2⟩ := h
    exact ⟨v, r, e, Rep.le l h1, RepL.le l h2⟩
theorem RepF.le (l : Le ρ H ρ' H') : ∀ {ds : List (Str × D)} {vs : List (Str × V)}, RepF K NM ρ H ds vs → RepF K NM ρ' H' ds vs
  | [], _, h => by simpa only [RepF] using h
  | (f, x) :: xs, _, h => by
    simp only [RepF] at h ⊢
    obtain ⟨v, r, e, h1, h2⟩ := h
    exact ⟨v, r, e, Rep.le l h1, RepF.le l h2⟩
end
theorem RepK.le (l : Le ρ H ρ' H') : ∀ {ds : List (Str × D)} {vs : List (Key × V)}, RepK K NM ρ H ds vs → RepK K NM ρ' H' ds vs
  | [], _, h => by simpa only [RepK] using h
  | (f, x) :: xs, _, h => by
    simp only [RepK] at h ⊢
    obtain ⟨v, r, e, h1, h2⟩ := h
    exact ⟨v, r, e, Rep.le l h1, RepK.le l h2⟩
theorem RepL.length : ∀ {ds : List D} {vs : List V}, RepL K NM ρ H ds vs → vs.length = ds.length
  | [], _, h => by simp only [RepL] at h; simp [h]
  | x :: xs, _, h => by
    simp only [RepL] at h
    obtain ⟨v, r, e, h1, h2⟩ := h
    simp [e, RepL.length h2]
theorem RepL.get : ∀ {ds : List D} {vs : List V} {i : Nat} {d : D}, RepL K NM ρ H ds vs → ds[i]? = some d → ∃ v, vs[i]? = some v ∧ Rep K NM ρ H d v
  | [], _, _, _, _, e => by simp at e
  | x :: xs, _, 0, d, h, e => by
    simp only [RepL] at h
    obtain ⟨v, r, e', h1, h2⟩ := h
    simp at e
    subst e e'
    exact ⟨v, rfl, h1⟩
  | x :: xs, _, i + 1, d, h, e => by
    simp only [RepL] at h
    obtain ⟨v, r, e', h1, h2⟩ := h
    subst e'
    simpa using RepL.get (i := i) h2 (by simpa using e)
theorem RepL.append : ∀ {ds es : List D} {vs ws : List V}, RepL K NM ρ H ds vs → RepL K NM ρ H es ws → RepL K NM ρ H (ds ++ es) (vs ++ ws)
  | [], _, _, _, h, h' => by simp only [RepL] at h; simpa [h] using h'
  | x :: xs, _, _, _, h, h' => by
    simp only [RepL] at h
    obtain ⟨v, r, e', h1, h2⟩ := h
    subst e'
    simp only [List.cons_append, RepL]
    exact ⟨v, _, rfl, h1, RepL.append h2 h'⟩
theorem RepL.nil : RepL K NM ρ H [] [] := by simp [RepL]
theorem RepL.cons {d : D} {v : V} {ds : List D} {vs : List V} (h : Rep K NM ρ H d v) (h' : RepL K NM ρ H ds vs) : RepL K NM ρ H (d :: ds) (v :: vs) := by
  simp only [RepL]
  exact ⟨v, vs, rfl, h, h'⟩
theorem RepL.take : ∀ {ds : List D} {vs : List V} (n : Nat), RepL K NM ρ H ds vs → RepL K NM ρ H (ds.take n) (vs.take n)
  | [], _, n, h => by simp only [RepL] at h; subst h; simp [RepL.nil]
  | x :: xs, _, 0, h => by simp [RepL.nil]
  | x :: xs, _, n + 1, h => by
    simp only [RepL] at h
    obtain ⟨v, r, e', h1, h2⟩ := h
    subst e'
    exact RepL.cons h1 (RepL.take n h2)
theorem RepL.drop : ∀ {ds : List D} {vs : List V} (n : Nat), RepL K NM ρ H ds vs → RepL K NM ρ H (ds.drop n) (vs.drop n)
  | [], _, n, h => by simp only [RepL] at h; subst h; simp [RepL.nil]
  | x :: xs, _, 0, h => h
  | x :: xs, _, n + 1, h => by
    simp only [RepL] at h
    obtain ⟨v, r, e', h1, h2⟩ := h
    subst e'
    exact RepL.drop n h2
theorem RepL.dropLast {ds : List D} {vs : List V} (h : RepL K NM ρ H ds vs) : RepL K NM ρ H ds.dropLast vs.dropLast := by
  rw [List.dropLast_eq_take, List.dropLast_eq_take, h.length]
  exact h.take _
theorem RepL.reverse : ∀ {ds : List D} {vs : List V}, RepL K NM ρ H ds vs → RepL K NM ρ H ds.reverse vs.reverse
  | [], _, h => by simp only [RepL] at h; subst h; simp [RepL.nil]
  | x :: xs, _, h => by
    simp only [RepL] at h
    obtain ⟨v, r, e', h1, h2⟩ := h
    subst e'
    rw [List.reverse_cons, List.reverse_cons]
    exact RepL.append (RepL.reverse h2) (RepL.cons h1 RepL.nil)
theorem Cell.le (l : Le ρ H ρ' H') {a : Addr} {c : SC} (h : Cell K NM ρ H a c) (k : c.mut = true → H' a = H a) : Cell K NM ρ' H' a c := by
  cases c with
  | lst xs => obtain ⟨vs, h1, h2⟩ := h; exact ⟨vs, by rw [k rfl]; exact h1, h2.le l⟩
  | ro xs => obtain ⟨vs, h1, h2⟩ := h; exact ⟨vs, sqRo_ext l.ext h1, h2.le l⟩
  | dic kvs => obtain ⟨gs, h1, h2⟩ := h; exact ⟨gs, by rw [k rfl]; exact h1, h2.le l⟩
theorem Cell.some {a : Addr} {c : SC} (h : Cell K NM ρ H a c) (m : c.mut = true) : ∃ o, H a = some o ∧ ¬ Imm o ∧ Mut (some o) ∧ ∀ q c', o ≠ LamX.CodeO c' q := by
  cases c with
  | lst xs => obtain ⟨vs, h1, h2⟩ := h; exact ⟨_, h1, fun z => z, trivial, fun q c' z => by unfold LamX.CodeO at z; cases z⟩
  | ro xs => cases m
  | dic kvs => obtain ⟨gs, h1, h2⟩ := h; exact ⟨_, h1, fun z => z, trivial, fun q c' z => by unfold LamX.CodeO at z; cases z⟩
variable {S : Sto}
theorem Gd.at (g : Gd K NM ρ S H) {n : Nat} {c : SC} (h : S[n]? = some c) : ∃ a, ρ[n]? = some a ∧ Cell K NM ρ H a c := by
  have hn : n < S.length := (List.getElem?_eq_some_iff.mp h).1
  have hr : n < ρ.length := by rw [g.len]; exact hn
  exact ⟨ρ[n], List.getElem?_eq_getElem hr, g.cell n c _ h (List.getElem?_eq_getElem hr)⟩
/-- the tables stay where all but tracked lists and the like stay -/
theorem tabs_upd {T : List (Addr × Str)} {p : Addr} {o : HO} (t : LamX.Tabs T H) (h : (∀ ps, H p ≠ some (.tbl ps)) ∧ ∀ c q, c = p → H c ≠ some (LamX.CodeO c q)) : LamX.Tabs T (upd H p o) := by
  intro q hq
  obtain ⟨ps, h1, h2, h3⟩ := t q hq
  refine ⟨ps, ?_, h2, fun pos cv hc => ?_⟩
  · rw [upd_ne (fun e => h.1 ps (by rw [← e]; exact h1))]; exact h1
  · obtain ⟨c, e1, e2⟩ := h3 pos cv hc
    refine ⟨c, e1, ?_⟩
    rw [upd_ne (fun e => h.2 c q.2 e e2)]
    exact e2
/-- a new thing beside the store -/
theorem Gd.beside (g : Gd K NM ρ S H) {p : Addr} {o : HO} (h : H p = none) : Gd K NM ρ S (upd H p o) where
  len := g.len
  inj := g.inj
  cell := fun n c a h1 h2 => (g.cell n c a h1 h2).le (Le.heap (HExt.new h)) fun m => by
    obtain ⟨u, hu, _⟩ := (g.cell n c a h1 h2).some m
    rw [upd_ne (ne_of_none hu h)]
  tabs := tabs_upd g.tabs ⟨fun ps e => (by rw [h] at e; cases e), fun c q e e' => (by rw [e, h] at e'; cases e')⟩
/-- a new cell -/
theorem Gd.new (g : Gd K NM ρ S H) {p : Addr} {o : HO} {c : SC} (h : H p = none) (hc : Cell K NM (ρ ++ [p]) (upd H p o) p c) : Gd K NM (ρ ++ [p]) (S ++ [c]) (upd H p o) ∧ Le ρ H (ρ ++ [p]) (upd H p o) := by
  have le : Le ρ H (ρ ++ [p]) (upd H p o) := ⟨⟨[p], rfl⟩, HExt.new h⟩
  have g1 := g.beside (o := o) h
  have at_ : ∀ n c', (S ++ [c])[n]? = some c' → ∀ a, (ρ ++ [p])[n]? = some a → (S[n]? = some c' ∧ ρ[n]? = some a) ∨ (n = S.length ∧ c' = c ∧ a = p) := fun n c' h1 a h2 => by
    rcases Nat.lt_or_ge n S.length with hn | hn
    · rw [List.getElem?_append_left hn] at h1
      rw [List.getElem?_append_left (by rw [g.len]; exact hn)] at h2
      exact .inl ⟨h1, h2⟩
    · rw [List.getElem?_append_right hn] at h1
      rw [List.getElem?_append_right (by rw [g.len]; exact hn)] at h2
      have e : n - S.length = 0 := by
        have := (List.getElem?_eq_some_iff.mp h1).1
        simp at this
        omega
      rw [g.len, e] at h2
      rw [e] at h1
      simp at h1 h2
      exact .inr ⟨by omega, h1.symm, h2.symm⟩
  have old : ∀ (n : Nat) (c' : SC) (a : Addr), S[n]? = some c' → ρ[n]? = some a → c'.mut = true → a ≠ p := fun n c' a h1 h2 m => by
    obtain ⟨u, hu, _⟩ := (g.cell n c' a h1 h2).some m
    exact ne_of_none hu h
  refine ⟨⟨by simp [g.len], fun n m c1 c2 a h1 h2 m1 m2 r1 r2 => ?_, fun n c' a h1 h2 => ?_, g1.tabs⟩, le⟩
  · rcases at_ n c1 h1 a r1 with ⟨x1, x2⟩ | ⟨x1, x2, x3⟩
    · rcases at_ m c2 h2 a r2 with ⟨y1, y2⟩ | ⟨y1, y2, y3⟩
      · exact g.inj n m c1 c2 a x1 y1 m1 m2 x2 y2
      · exact absurd y3 (old n c1 a x1 x2 m1)
    · rcases at_ m c2 h2 a r2 with ⟨y1, y2⟩ | ⟨y1, y2, y3⟩
      · exact absurd x3 (old m c2 a y1 y2 m2)
      · omega
  · rcases at_ n c' h1 a h2 with ⟨x1, x2⟩ | ⟨x1, x2, x3⟩
    · exact (g1.cell n c' a x1 x2).le ⟨⟨[p], rfl⟩, HExt.refl _⟩ fun _ => rfl
    · rw [x2, x3]
      exact hc
/-- a cell is written -/
theorem Gd.put (g : Gd K NM ρ S H) {n : Nat} {a : Addr} {c c' : SC} {o : HO} (h : S[n]? = some c) (m : c.mut = true) (m' : c'.mut = true) (ha : ρ[n]? = some a)
    (hc : Cell K NM ρ (upd H a o) a c') : Gd K NM ρ (S.set n c') (upd H a o) ∧ Le ρ H ρ (upd H a o) := by
  obtain ⟨u, hu, ni, _, nc⟩ := (g.cell n c a h ha).some m
  have hn : n < S.length := (List.getElem?_eq_some_iff.mp h).1
  have ext : HExt H (upd H a o) := ⟨fun b w i e => by
      rw [upd_ne (fun z => ni (by rw [z, hu] at e; cases e; exact i))]; exact e,
    fun b q e => by rw [upd_ne (fun z => nc q b (by rw [z, hu] at e; rw [z]; exact Option.some.inj e))]; exact e⟩
  have get : ∀ k c1, (S.set n c')[k]? = some c1 → (k = n ∧ c1 = c') ∨ (k ≠ n ∧ S[k]? = some c1) := fun k c1 e => by
    by_cases hk : k = n
    · subst hk
      rw [List.getElem?_set_self hn] at e
      exact .inl ⟨rfl, (Option.some.inj e).symm⟩
    · rw [List.getElem?_set_ne (Ne.symm hk)] at e
      exact .inr ⟨hk, e⟩
  refine ⟨⟨by rw [List.length_set]; exact g.len, fun i j c1 c2 b h1 h2 m1 m2 r1 r2 => ?_, fun i c1 b h1 h2 => ?_, tabs_upd g.tabs ⟨fun ps e => ?_, fun c q e e' => ?_⟩⟩, Le.heap ext⟩
  · rcases get i c1 h1 with ⟨x1, x2⟩ | ⟨x1, x2⟩
    · rcases get j c2 h2 with ⟨y1, y2⟩ | ⟨y1, y2⟩
      · omega
      · exact x1 ▸ g.inj n j c c2 b h y2 m m2 (x1 ▸ r1) r2
    · rcases get j c2 h2 with ⟨y1, y2⟩ | ⟨y1, y2⟩
      · exact y1 ▸ g.inj i n c1 c b x2 h m1 m r1 (y1 ▸ r2)
      · exact g.inj i j c1 c2 b x2 y2 m1 m2 r1 r2
  · rcases get i c1 h1 with ⟨x1, x2⟩ | ⟨x1, x2⟩
    · subst x1 x2
      rw [ha] at h2
      cases h2
      exact hc
    · refine (g.cell i c1 b x2 h2).le (Le.heap ext) fun m1 => ?_
      rw [upd_ne]
      intro z
      subst z
      exact x1 (g.inj i n c1 c b x2 h m1 m h2 ha)
  · rw [hu] at e
    cases e
    cases c with
    | lst xs => obtain ⟨vs, h1, _⟩ := g.cell n _ a h ha; rw [hu] at h1; cases h1
    | ro xs => cases m
    | dic kvs => obtain ⟨gs, h1, _⟩ := g.cell n _ a h ha; rw [hu] at h1; cases h1
  · subst e
    rw [hu] at e'
    exact nc q c (Option.some.inj e')
end
end QV
set_option maxRecDepth 100000
set_option maxHeartbeats 2000000
/-! Q2: readings by the evaluator; operators. -/
namespace QV
open PySem PySem.Spec PyProof.Rows L2

section
variable (K : PySem.W.Frag) (NM : Nms)
/-- an exception in the air -/
def ExR (ρ : List Addr) (H : Hp) (e : D) (cls : Value) (dd : Option Addr) : Prop := match e with
  | .exc k fs => k < NM.excs.length ∧ cls = .ref (clA K NM k) ∧ ((fs = [] ∧ dd = none) ∨ ∃ d gs, dd = some d ∧ H d = some (.xd gs) ∧ RepF K NM ρ H fs gs)
  | _ => False
abbrev RL (α β : Type) := List Addr → Hp → α → β → Prop
def Run {α β : Type} (R : RL α β) (W : WX) (ρ : List Addr) (H : Hp) (σ : L2.St) (o : Out α) (Q : β → Hp → Prop) : Prop := match o with
  | .stk => False
  | .ok a S' => ∀ ρ' H' b, Le ρ H ρ' H' → Gd K NM ρ' S' H' → R ρ' H' a b → Q b H'
  | .ex e S' => ∀ ρ' H' cls dd, Le ρ H ρ' H' → Gd K NM ρ' S' H' → ExR K NM ρ' H' e cls dd → W cls dd σ H'
def rD1 : RL D V := fun ρ H d v => Rep K NM ρ H d v
def rDL : RL (List D) (List V) := fun ρ H d v => RepL K NM ρ H d v
def rEq {α : Type} : RL α α := fun _ _ a b => a = b
abbrev WF : WX := fun _ _ _ _ => False
end
section
variable {K : PySem.W.Frag} {NM : Nms} {α β γ δ : Type} {R : RL α β} {R2 : RL γ δ} {W : WX} {ρ ρ1 : List Addr} {H H1 : Hp} {σ : L2.St} {o : Out α} {Q Q' : β → Hp → Prop}
theorem Run.base (h : Run K NM R W ρ H σ o Q) (l : Le ρ H ρ1 H1) : Run K NM R W ρ1 H1 σ o Q := by
  cases o with
  | stk => exact h
  | ok a S' => exact fun ρ' H' b l' g r => h ρ' H' b (l.trans l') g r
  | ex e S' => exact fun ρ' H' c d l' g r => h ρ' H' c d (l.trans l') g r
theorem Run.imp (h : Run K NM R W ρ H σ o Q) (q : ∀ b H', Q b H' → Q' b H') : Run K NM R W ρ H σ o Q' := by
  cases o with
  | stk => exact h
  | ok a S' => exact fun ρ' H' b l' g r => q _ _ (h ρ' H' b l' g r)
  | ex e S' => exact h
theorem Run.bind {m : Ev α} {f : α → Ev γ} {S : Sto} {Q : δ → Hp → Prop} (h : Run K NM R2 W ρ H σ ((Ev.bind (m) (f)) S) Q) :
    Run K NM R W ρ H σ (m S) (fun b H1 => ∃ ρ1 S1 a, Le ρ H ρ1 H1 ∧ Gd K NM ρ1 S1 H1 ∧ R ρ1 H1 a b ∧ Run K NM R2 W ρ1 H1 σ (f a S1) Q) := by
  unfold Ev.bind at h
  cases e : m S with
  | stk => rw [e] at h; exact h
  | ok a S' =>
    rw [e] at h
    exact fun ρ' H' b l g r => ⟨ρ', S', a, l, g, r, Run.base h l⟩
  | ex x S' => rw [e] at h; exact h
theorem Run.ret {a : α} {S : Sto} {b : β} (h : Run K NM R W ρ H σ (Ev.ret a S) Q) (g : Gd K NM ρ S H) (r : R ρ H a b) : Q b H := h ρ H b (Le.refl ρ H) g r
theorem Run.noex (h : Run K NM R W ρ H σ o Q) (n : ∀ e S, o ≠ .ex e S) (σ' : L2.St) : Run K NM R WF ρ H σ' o Q := by
  cases o with
  | stk => exact h
  | ok a S' => exact h
  | ex e S' => exact absurd rfl (n e S')
end
section
variable (K : PySem.W.Frag) (NM : Nms)
/-- an operator by trees -/
def rD (f : D → D → Ev D) : R2 := fun x y H Q => ∃ ρ S a b, Gd K NM ρ S H ∧ Rep K NM ρ H a x ∧ Rep K NM ρ H b y ∧ Run K NM (rD1 K NM) WF ρ H ([] : L2.St) (f a b S) Q
end
theorem ofOpt_noex {α : Type} {o : Option α} {S : Sto} : ∀ e S', ofOpt o S ≠ .ex e S' := by
  intro e S' h
  cases o <;> simp [ofOpt, Ev.ret, Ev.stuck] at h
theorem onlyIf_noex {α : Type} {b : Bool} {m : Ev α} {S : Sto} (h : ∀ e S', m S ≠ .ex e S') : ∀ e S', onlyIf b m S ≠ .ex e S' := by
  intro e S' z
  cases b with
  | true => exact h e S' z
  | false => cases z
theorem ret_noex {α : Type} {a : α} {S : Sto} : ∀ e S', (Ev.ret a : Ev α) S ≠ .ex e S' := by
  intro e S' h
  cases h
theorem stuck_noex {α : Type} {S : Sto} : ∀ e S', (Ev.stuck : Ev α) S ≠ .ex e S' := by
  intro e S' h
  cases h
theorem opD_noex {op : Op} {a b : D} {S : Sto} : ∀ e S', opD op a b S ≠ .ex e S' := by
  unfold opD
  split <;> first
    | exact ret_noex
    | exact stuck_noex
    | exact onlyIf_noex ret_noex
theorem cmD_noex {op : Cm} {a b : D} {S : Sto} : ∀ e S', cmD op a b S ≠ .ex e S' := by
  unfold cmD
  split <;> first
    | exact ret_noex
    | exact stuck_noex
    | exact ofOpt_noex
theorem onlyIf_run {K : PySem.W.Frag} {NM : Nms} {α β : Type} {R : RL α β} {W : WX} {ρ : List Addr} {H : Hp} {σ : L2.St} {b : Bool} {m : Ev α} {S : Sto} {Q : β → Hp → Prop} (h : Run K NM R W ρ H σ (onlyIf b m S) Q) : b = true ∧ Run K NM R W ρ H σ (m S) Q := by
  cases b with
  | true => exact ⟨rfl, h⟩
  | false => exact h.elim
section
variable {K : PySem.W.Frag} {NM : Nms} {ρ : List Addr} {H : Hp} {v : V}
theorem rep_int {i : Int} (h : Rep K NM ρ H (.int i) v) : v = .int i := by simpa only [Rep] using h
theorem rep_bl {i : Bool} (h : Rep K NM ρ H (.bl i) v) : v = .bl i := by simpa only [Rep] using h
theorem rep_str {i : Str} (h : Rep K NM ρ H (.str i) v) : v = .str i := by simpa only [Rep] using h
theorem rep_non (h : Rep K NM ρ H .non v) : v = .non := by simpa only [Rep] using h
theorem rep_loc {n : Nat} (h : Rep K NM ρ H (.loc n) v) : ∃ a, v = .ref a ∧ ρ[n]? = some a := by simpa only [Rep] using h
theorem mk_int (i : Int) : Rep K NM ρ H (.int i) (.int i) := by simp only [Rep]
theorem mk_bl (i : Bool) : Rep K NM ρ H (.bl i) (.bl i) := by simp only [Rep]
theorem mk_str (i : Str) : Rep K NM ρ H (.str i) (.str i) := by simp only [Rep]
theorem mk_non : Rep K NM ρ H .non .non := by simp only [Rep]
theorem mk_tup {a : Addr} {ds : List D} {vs : List V} (h : SqT K H a vs) (r : RepL K NM ρ H ds vs) : Rep K NM ρ H (.tup ds) (.ref a) := by
  simp only [Rep]
  exact ⟨a, vs, rfl, h, r⟩
theorem mk_loc {a : Addr} {n : Nat} (h : ρ[n]? = some a) : Rep K NM ρ H (.loc n) (.ref a) := by
  simp only [Rep]
  exact ⟨a, rfl, h⟩
theorem rep_tup {ds : List D} (h : Rep K NM ρ H (.tup ds) v) : ∃ a vs, v = .ref a ∧ SqT K H a vs ∧ RepL K NM ρ H ds vs := by simpa only [Rep] using h
end
/-! ### arithmetic -/
theorem line_eq : line = sizeLine := by rw [sizeLine_eq]; rfl
section
variable {X : Cx} {NM : Nms}
theorem op_addD : OpR X (binaryOp .Add) (rD X.K NM (opD .add)) := by
  intro pins s σ H x y v u Q I rx ry h
  obtain ⟨ρ, S, a, b, g, ra, rb, q⟩ := h
  cases a <;> cases b <;> first | exact q.elim | skip
  · have e1 := rep_int ra
    have e2 := rep_int rb
    subst e1 e2
    exact op_add pins s σ H _ _ v u Q I rx ry ⟨_, _, rfl, rfl, q.ret g (mk_int _)⟩
  · have e1 := rep_str ra
    have e2 := rep_str rb
    subst e1 e2
    obtain ⟨c, q⟩ := onlyIf_run q
    exact op_add_str pins s σ H _ _ v u Q I rx ry ⟨_, _, rfl, rfl, by rw [← line_eq]; exact of_decide_eq_true c, q.ret g (mk_str _)⟩

theorem op_subD : OpR X (binaryOp .Sub) (rD X.K NM (opD .sub)) := by
  intro pins s σ H x y v u Q I rx ry h
  obtain ⟨ρ, S, a, b, g, ra, rb, q⟩ := h
  cases a <;> cases b <;> first | exact q.elim | skip
  have e1 := rep_int ra
  have e2 := rep_int rb
  subst e1 e2
  exact op_sub pins s σ H _ _ v u Q I rx ry ⟨_, _, rfl, rfl, q.ret g (mk_int _)⟩
theorem mulOk_ok {i j : Int} (h : mulOk i j = true) : CMul i j := by
  unfold mulOk at h
  simp only [Bool.or_eq_true, Bool.and_eq_true, decide_eq_true_eq] at h
  exact h
theorem foldl_cat : ∀ (l : List (Array Nat)) (acc : Array Nat), (l.foldl (fun a b => a ++ b) acc).toList = acc.toList ++ (l.map Array.toList).flatten
  | [], acc => by simp
  | a :: r, acc => by
    rw [List.foldl_cons, foldl_cat r (acc ++ a)]
    simp
theorem repS_eq {x : Str} {n : Int} (h1 : 1 < n) (h2 : 0 < x.length) : Txt.mul x n = repS x n.toNat := by
  unfold Txt.mul repS
  rw [if_neg (by omega)]
  have e1 : (n == 1) = false := by simp; omega
  have e2 : (x.length == 0) = false := by simp; omega
  rw [e1, e2]
  simp only [Bool.or_false, Bool.false_eq_true, if_false]
  have e := foldl_cat (List.replicate n.toNat x.cps) #[]
  rw [List.map_replicate] at e
  congr 1
  apply Array.ext'
  simpa using e
theorem op_mulD : OpR X (binaryOp .Mult) (rD X.K NM (opD .mul)) := by
  intro pins s σ H x y v u Q I rx ry h
  obtain ⟨ρ, S, a, b, g, ra, rb, q⟩ := h
  cases a <;> cases b <;> first | exact q.elim | skip
  · have e1 := rep_int ra
    have e2 := rep_int rb
    subst e1 e2
    obtain ⟨c, q⟩ := onlyIf_run q
    exact op_mul pins s σ H _ _ v u Q I rx ry ⟨_, _, rfl, rfl, mulOk_ok c, q.ret g (mk_int _)⟩
  · rename_i z n
    have e1 := rep_str ra
    have e2 := rep_int rb
    subst e1 e2
    obtain ⟨c, q⟩ := onlyIf_run q
    simp only [Bool.and_eq_true, decide_eq_true_eq] at c
    obtain ⟨⟨⟨c1, c2⟩, c3⟩, c4⟩ := c
    obtain ⟨t, rfl⟩ := rx
    obtain ⟨t', rfl⟩ := ry
    have q2 : Q (.str (Txt.mul z n)) H := by rw [repS_eq c1 c3]; exact q.ret g (mk_str _)
    refine SB.mul ⟨?_, fun _ _ => ?_, fun _ _ => ?_⟩ fun t' k => ⟨V.str (Txt.mul z n), H, I.tok _, ⟨_, rfl⟩, q2⟩
    · simp; omega
    · have h3 : (2 ^ 63 - 1 : Int) / 1000 ≤ (2 ^ 63 - 1 : Int) / n := by
        apply Int.le_ediv_of_mul_le (by omega)
        omega
      omega
    · have h3 : z.length * n.toNat ≤ 1000 * 1000 := Nat.mul_le_mul c4 (by omega)
      have h4 : sizeLine = 16777216 := sizeLine_eq
      simp only [PySem.Builtin.Str.tooLong, decide_eq_false_iff_not]
      omega
theorem op_fdivD : OpR X (binaryOp .FloorDiv) (rD X.K NM (opD .fdiv)) := by
  intro pins s σ H x y v u Q I rx ry h
  obtain ⟨ρ, S, a, b, g, ra, rb, q⟩ := h
  cases a <;> cases b <;> first | exact q.elim | skip
  have e1 := rep_int ra
  have e2 := rep_int rb
  subst e1 e2
  obtain ⟨c, q⟩ := onlyIf_run q
  simp only [Bool.and_eq_true, decide_eq_true_eq] at c
  exact op_fdiv pins s σ H _ _ v u Q I rx ry ⟨_, _, rfl, rfl, c, q.ret g (mk_int _)⟩
theorem op_modD : OpR X (binaryOp .Mod) (rD X.K NM (opD .mod)) := by
  intro pins s σ H x y v u Q I rx ry h
  obtain ⟨ρ, S, a, b, g, ra, rb, q⟩ := h
  cases a <;> cases b <;> first | exact q.elim | skip
  have e1 := rep_int ra
  have e2 := rep_int rb
  subst e1 e2
  obtain ⟨c, q⟩ := onlyIf_run q
  exact op_mod pins s σ H _ _ v u Q I rx ry ⟨_, _, rfl, rfl, of_decide_eq_true c, q.ret g (mk_int _)⟩
theorem op_powD : OpR X (binaryOp .Pow) (rD X.K NM (opD .pow)) := by
  intro pins s σ H x y v u Q I rx ry h
  obtain ⟨ρ, S, a, b, g, ra, rb, q⟩ := h
  cases a <;> cases b <;> first | exact q.elim | skip
  have e1 := rep_int ra
  have e2 := rep_int rb
  subst e1 e2
  obtain ⟨c, q⟩ := onlyIf_run q
  simp only [Bool.and_eq_true, decide_eq_true_eq] at c
  exact op_pow pins s σ H _ _ v u Q I rx ry ⟨_, _, rfl, rfl, ⟨c.1.1, c.1.2, c.2⟩, q.ret g (mk_int _)⟩
/-! ### comparisons -/
theorem op_ltD : OpR X (compareOp .Lt) (rD X.K NM (cmD .lt)) := by
  intro pins s σ H x y v u Q I rx ry h
  obtain ⟨ρ, S, a, b, g, ra, rb, q⟩ := h
  cases a <;> cases b <;> first | exact q.elim | skip
  have e1 := rep_int ra
  have e2 := rep_int rb
  subst e1 e2
  exact op_lt pins s σ H _ _ v u Q I rx ry ⟨_, _, rfl, rfl, q.ret g (mk_bl _)⟩
theorem op_leD : OpR X (compareOp .LtE) (rD X.K NM (cmD .le)) := by
  intro pins s σ H x y v u Q I rx ry h
  obtain ⟨ρ, S, a, b, g, ra, rb, q⟩ := h
  cases a <;> cases b <;> first | exact q.elim | skip
  have e1 := rep_int ra
  have e2 := rep_int rb
  subst e1 e2
  exact op_le pins s σ H _ _ v u Q I rx ry ⟨_, _, rfl, rfl, q.ret g (mk_bl _)⟩
theorem op_gtD : OpR X (compareOp .Gt) (rD X.K NM (cmD .gt)) := by
  intro pins s σ H x y v u Q I rx ry h
  obtain ⟨ρ, S, a, b, g, ra, rb, q⟩ := h
  cases a <;> cases b <;> first | exact q.elim | skip
  have e1 := rep_int ra
  have e2 := rep_int rb
  subst e1 e2
  exact op_gt pins s σ H _ _ v u Q I rx ry ⟨_, _, rfl, rfl, q.ret g (mk_bl _)⟩
theorem op_geD : OpR X (compareOp .GtE) (rD X.K NM (cmD .ge)) := by
  intro pins s σ H x y v u Q I rx ry h
  obtain ⟨ρ, S, a, b, g, ra, rb, q⟩ := h
  cases a <;> cases b <;> first | exact q.elim | skip
  have e1 := rep_int ra
  have e2 := rep_int rb
  subst e1 e2
  exact op_ge pins s σ H _ _ v u Q I rx ry ⟨_, _, rfl, rfl, q.ret g (mk_bl _)⟩
theorem ofOpt_run {K : PySem.W.Frag} {NM : Nms} {α β : Type} {R : RL α β} {W : WX} {ρ : List Addr} {H : Hp} {σ : L2.St} {o : Option α} {S : Sto} {Q : β → Hp → Prop} (h : Run K NM R W ρ H σ (ofOpt o S) Q) : ∃ a, o = some a ∧ Run K NM R W ρ H σ (Ev.ret a S) Q := by
  cases o with
  | none => exact h.elim
  | some a => exact ⟨a, rfl, h⟩
theorem one_sign {x : Str} {c : Nat} (h : x.cps.toList = [c]) : x = ⟨#[c]⟩ := by
  obtain ⟨a⟩ := x
  have e : a = #[c] := by apply Array.ext'; simpa using h
  rw [e]
theorem op_inD : OpR X (compareOp .In) (rD X.K NM (cmD .isin)) := by
  intro pins s σ H x y v u Q I rx ry h
  obtain ⟨ρ, S, a, b, g, ra, rb, q⟩ := h
  cases a <;> cases b <;> first | exact q.elim | skip
  rename_i z w
  have e1 := rep_str ra
  have e2 := rep_str rb
  subst e1 e2
  obtain ⟨d, e, q⟩ := ofOpt_run q
  unfold in1 at e
  split at e
  · rename_i c hc
    cases e
    rw [one_sign hc] at rx
    exact op_in_sign pins s σ H _ _ v u Q I rx ry ⟨_, _, rfl, rfl, q.ret g (mk_bl _)⟩
  · cases e
theorem op_notinD : OpR X (compareOp .NotIn) (rD X.K NM (cmD .notin)) := by
  intro pins s σ H x y v u Q I rx ry h
  obtain ⟨ρ, S, a, b, g, ra, rb, q⟩ := h
  cases a <;> cases b <;> first | exact q.elim | skip
  rename_i z w
  have e1 := rep_str ra
  have e2 := rep_str rb
  subst e1 e2
  obtain ⟨d, e, q⟩ := ofOpt_run q
  unfold in1 at e
  split at e
  · rename_i c hc
    cases e
    rw [one_sign hc] at rx
    exact op_notIn_sign pins s σ H _ _ v u Q I rx ry ⟨_, _, rfl, rfl, q.ret g (mk_bl _)⟩
  · cases e
end
/-! ### == -/
mutual
theorem eqv_py : ∀ a b : D, a.flat = true → b.flat = true → PyData.eqv a.py b.py = D.beq a b
  | .non, b, _, hb => by cases b <;> first | rfl | cases hb
  | .bl x, b, _, hb => by cases b <;> first | rfl | cases hb | (simp only [D.py, PyData.eqv, D.beq]; try exact beq_eq_decide _ _)
  | .int x, b, _, hb => by cases b <;> first | rfl | cases hb | (simp only [D.py, PyData.eqv, D.beq]; try exact beq_eq_decide _ _)
  | .str x, b, _, hb => by cases b <;> first | rfl | cases hb | (simp only [D.py, PyData.eqv, D.beq]; try exact beq_eq_decide _ _)
  | .tup xs, b, ha, hb => by
    cases b with
    | tup ys =>
      simp only [D.flat] at ha hb
      simp only [D.py, PyData.eqv, D.beq]
      exact eqv_pyL xs ys ha hb
    | _ => first | rfl | cases hb
  | .loc _, _, h, _ => by cases h
  | .fn _, _, h, _ => by cases h
  | .exc _ _, _, h, _ => by cases h
  | .clo _ _, _, h, _ => by cases h
theorem eqv_pyL : ∀ a b : List D, D.flatL a = true → D.flatL b = true → PyData.eqvAll (D.pyL a) (D.pyL b) = D.beqL a b
  | [], [], _, _ => rfl
  | [], _ :: _, _, _ => rfl
  | _ :: _, [], _, _ => rfl
  | a :: as, b :: bs, ha, hb => by
    simp only [D.flatL, Bool.and_eq_true] at ha hb
    simp only [D.pyL, PyData.eqvAll, D.beqL, eqv_py a b ha.1 hb.1, eqv_pyL as bs ha.2 hb.2]
end
mutual
theorem plain_py : ∀ a : D, a.py.plain = true
  | .non => rfl
  | .bl _ => rfl
  | .int _ => rfl
  | .str _ => rfl
  | .tup xs => by simp only [D.py, PyData.plain]; exact plain_pyL xs
  | .loc _ => rfl
  | .fn _ => rfl
  | .exc _ _ => rfl
  | .clo _ _ => rfl
theorem plain_pyL : ∀ a : List D, PyData.plainAll (D.pyL a) = true
  | [] => rfl
  | a :: as => by simp only [D.pyL, PyData.plainAll, plain_py a, plain_pyL as]; rfl
end
mutual
theorem depth_py : ∀ a : D, a.py.depth = a.depth
  | .non => rfl
  | .bl _ => rfl
  | .int _ => rfl
  | .str _ => rfl
  | .tup xs => by simp only [D.py, PyData.depth, D.depth, depth_pyL xs]
  | .loc _ => rfl
  | .fn _ => rfl
  | .exc _ _ => rfl
  | .clo _ _ => rfl
theorem depth_pyL : ∀ a : List D, PyData.depthAll (D.pyL a) = D.depthL a
  | [] => rfl
  | a :: as => by simp only [D.pyL, PyData.depthAll, D.depthL, depth_py a, depth_pyL as]
end
section
variable {K : PySem.W.Frag} {NM : Nms} {ρ : List Addr} {H : Hp}
mutual
theorem dp_of : ∀ {d : D} {v : V}, d.flat = true → Rep K NM ρ H d v → Dp K H v d.py
  | .non, v, _, h => by rw [rep_non h]; exact .non
  | .bl b, v, _, h => by rw [rep_bl h]; exact .bl b
  | .int i, v, _, h => by rw [rep_int h]; exact .int i
  | .str x, v, _, h => by rw [rep_str h]; exact .str x
  | .tup xs, v, f, h => by
    obtain ⟨a, vs, rfl, s, r⟩ := rep_tup h
    simp only [D.flat] at f
    simp only [D.py]
    exact .tup s (dp_ofL f r)
  | .loc _, _, f, _ => by cases f
  | .fn _, _, f, _ => by cases f
  | .exc _ _, _, f, _ => by cases f
  | .clo _ _, _, f, _ => by cases f
theorem dp_ofL : ∀ {d : List D} {v : List V}, D.flatL d = true → RepL K NM ρ H d v → DpAll K H v (D.pyL d)
  | [], v, _, h => by
    simp only [RepL] at h
    subst h
    simp only [D.pyL]
    exact .nil
  | a :: as, v, f, h => by
    simp only [RepL] at h
    obtain ⟨w, r, rfl, h1, h2⟩ := h
    simp only [D.flatL, Bool.and_eq_true] at f
    simp only [D.pyL]
    exact .cons (dp_of f.1 h1) (dp_ofL f.2 h2)
end
variable {S : Sto}
theorem asL_some {d : D} {v : V} {xs : List D} (g : Gd K NM ρ S H) (h : asL S d = some xs) (r : Rep K NM ρ H d v) : ∃ a vs, v = .ref a ∧ SqL K H a vs ∧ RepL K NM ρ H xs vs := by
  cases d with
  | loc n =>
    obtain ⟨a, rfl, ha⟩ := rep_loc r
    simp only [asL] at h
    cases e : S[n]? with
    | none => rw [e] at h; cases h
    | some c =>
      rw [e] at h
      have c1 := g.cell n c a e ha
      cases c with
      | lst ys => cases h; obtain ⟨vs, h1, h2⟩ := c1; exact ⟨a, vs, rfl, .of h1, h2⟩
      | ro ys => cases h; obtain ⟨vs, h1, h2⟩ := c1; exact ⟨a, vs, rfl, h1.sq, h2⟩
      | dic _ => cases h
  | _ => cases h
end
section
variable {X : Cx} {NM : Nms}
/-- == by trees: the answer, with its run over any value -/
theorem eq_core {pins : List (Addr × Obj)} {s : Shared} {σ : L2.St} {H : Hp} {x y : V} {v u : Value} {ρ : List Addr} {S : Sto} {a b : D} {k : Bool} (hu : X.A.units + 100 < cLine) (I : Inv X pins σ H s) (rx : RelV x v) (ry : RelV y u)
    (g : Gd X.K NM ρ S H) (ra : Rep X.K NM ρ H a x) (rb : Rep X.K NM ρ H b y) (e : eqD S a b = some k) : SeqAt.RcAt X.A s v u k ∧ SeqAt.RcNeAt X.A s v u (!k) := by
  unfold eqD at e
  cases ea : asL S a with
  | none =>
    rw [ea] at e
    cases eb : asL S b with
    | some ys => rw [eb] at e; cases e
    | none =>
      rw [eb] at e
      simp only at e
      split at e
      · rename_i c
        simp only [Bool.and_eq_true, decide_eq_true_eq] at c
        cases e
        obtain ⟨as, r1⟩ := Dp.reads I _ x v (dp_of c.1.1.1 ra) rx
        obtain ⟨bs, r2⟩ := Dp.reads I _ y u (dp_of c.1.1.2 rb) ry
        have hd : X.A.units + min a.py.depth b.py.depth < cLine := by
          rw [depth_py, depth_py]
          omega
        rw [← eqv_py a b c.1.1.1 c.1.1.2]
        exact ⟨SeqAt.rcAt_plain r1 r2 (plain_py _) (plain_py _) hd, SeqAt.rcNe_plain r1 r2 (plain_py _) (plain_py _) hd⟩
      · cases e
  | some xs =>
    rw [ea] at e
    cases eb : asL S b with
    | none => rw [eb] at e; cases e
    | some ys =>
      rw [eb] at e
      have e' : eqL xs ys = some k := e
      obtain ⟨p, vs, rfl, s1, r1⟩ := asL_some g ea ra
      obtain ⟨p', vs', rfl, s2, r2⟩ := asL_some g eb rb
      cases rx
      cases ry
      obtain ⟨its, rv, pl, _⟩ := I.list s1
      obtain ⟨its', rv', pl', _⟩ := I.list s2
      have l1 : its.length = xs.length := by rw [← rv.length, r1.length]
      have l2 : its'.length = ys.length := by rw [← rv'.length, r2.length]
      unfold eqL at e'
      split at e'
      · rename_i hl
        split at e'
        · rename_i c
          simp only [Bool.and_eq_true, decide_eq_true_eq] at c
          cases e'
          have d1 : Dp X.K H (.ref p) (.list (D.pyL xs)) := .lst s1 (dp_ofL c.1.1.1 r1)
          have d2 : Dp X.K H (.ref p') (.list (D.pyL ys)) := .lst s2 (dp_ofL c.1.1.2 r2)
          obtain ⟨as, q1⟩ := Dp.reads I _ _ (.ref p) d1 rfl
          obtain ⟨bs, q2⟩ := Dp.reads I _ _ (.ref p') d2 rfl
          have hd : X.A.units + min (PyData.list (D.pyL xs)).depth (PyData.list (D.pyL ys)).depth < cLine := by
            simp only [PyData.depth, depth_pyL]
            omega
          have p1 : (PyData.list (D.pyL xs)).plain = true := by simp only [PyData.plain]; exact plain_pyL xs
          have p2 : (PyData.list (D.pyL ys)).plain = true := by simp only [PyData.plain]; exact plain_pyL ys
          have ee : PyData.eqv (.list (D.pyL xs)) (.list (D.pyL ys)) = D.beqL xs ys := by
            simp only [PyData.eqv]
            exact eqv_pyL xs ys c.1.1.1 c.1.1.2
          rw [← ee]
          exact ⟨SeqAt.rcAt_plain q1 q2 p1 p2 hd, SeqAt.rcNe_plain q1 q2 p1 p2 hd⟩
        · cases e'
      · rename_i hl
        cases e'
        have ne : (its.toArray.size != its'.toArray.size) = true := by
          simp only [List.size_toArray, bne_iff_ne]
          omega
        exact ⟨SeqAt.RcAt.lists_lengths pl.isList pl'.isList ne (by omega), SeqAt.RcNeAt.lists_lengths pl.isList pl'.isList ne (by omega)⟩
theorem map_some {α β : Type} {f : α → β} {o : Option α} {b : β} (h : o.map f = some b) : ∃ a, o = some a ∧ f a = b := Option.map_eq_some_iff.mp h
theorem op_eqDD (hu : X.A.units + 100 < cLine) : OpR X (compareOp .Eq) (rD X.K NM (cmD .eq)) := by
  intro pins s σ H x y v u Q I rx ry h
  obtain ⟨ρ, S, a, b, g, ra, rb, q⟩ := h
  have q : Run X.K NM (rD1 X.K NM) WF ρ H ([] : L2.St) (ofOpt ((eqD S a b).map D.bl) S) Q := by
    cases a <;> cases b <;> exact q
  obtain ⟨d, e, q⟩ := ofOpt_run q
  obtain ⟨k, e1, rfl⟩ := map_some e
  exact (eq_core hu I rx ry g ra rb e1).1 _ _ _ _ ⟨.bl k, H, I, rfl, q.ret g (mk_bl k)⟩
theorem op_neDD (hu : X.A.units + 100 < cLine) : OpR X (compareOp .NotEq) (rD X.K NM (cmD .ne)) := by
  intro pins s σ H x y v u Q I rx ry h
  obtain ⟨ρ, S, a, b, g, ra, rb, q⟩ := h
  have q : Run X.K NM (rD1 X.K NM) WF ρ H ([] : L2.St) (ofOpt ((eqD S a b).map fun k => D.bl (!k)) S) Q := by
    cases a <;> cases b <;> exact q
  obtain ⟨d, e, q⟩ := ofOpt_run q
  obtain ⟨k, e1, rfl⟩ := map_some e
  exact (eq_core hu I rx ry g ra rb e1).2 _ _ _ _ ⟨.bl (!k), H, I, rfl, q.ret g (mk_bl (!k))⟩
end
end QV
set_option maxRecDepth 100000
set_option maxHeartbeats 2000000
/-! Q3: slots, closures; things known for a while. -/
namespace QV
open PySem PySem.Spec PyProof.Rows L2

/-- the things at C forgotten -/
def delC (C : List Addr) (H : Hp) : Hp := fun b => if b ∈ C then none else H b
/-- the things at C known again, as G has them -/
def addC (C : List Addr) (G H : Hp) : Hp := fun b => if b ∈ C then G b else H b
theorem delC_in {C : List Addr} {H : Hp} {b : Addr} (h : b ∈ C) : delC C H b = none := by unfold delC; rw [if_pos h]
theorem delC_out {C : List Addr} {H : Hp} {b : Addr} (h : b ∉ C) : delC C H b = H b := by unfold delC; rw [if_neg h]
theorem addC_in {C : List Addr} {G H : Hp} {b : Addr} (h : b ∈ C) : addC C G H b = G b := by unfold addC; rw [if_pos h]
theorem addC_out {C : List Addr} {G H : Hp} {b : Addr} (h : b ∉ C) : addC C G H b = H b := by unfold addC; rw [if_neg h]
/-- what is known for a while stands so -/
def Tmp (C : List Addr) (H : Hp) : Prop := ∀ c ∈ C, ∃ o, H c = some (.frz o (.own 1))
theorem delC_some {C : List Addr} {H : Hp} {a : Addr} {o : HO} (t : Tmp C H) (h : H a = some o) (n : ∀ u, o ≠ .frz u (.own 1)) : delC C H a = some o := by
  rw [delC_out]
  · exact h
  · intro hc
    obtain ⟨u, e⟩ := t a hc
    rw [h] at e
    exact n u (Option.some.inj e)
theorem of_delC {C : List Addr} {H : Hp} {a : Addr} {o : HO} (h : delC C H a = some o) : H a = some o ∧ a ∉ C := by
  unfold delC at h
  split at h
  · cases h
  · exact ⟨h, by assumption⟩
theorem addC_sub {C : List Addr} {G H : Hp} (n : ∀ c ∈ C, H c = none) {a : Addr} {o : HO} (h : H a = some o) : addC C G H a = some o := by
  rw [addC_out]
  · exact h
  · intro hc
    rw [n a hc] at h
    cases h
theorem codeO_frz {c : Addr} {q : Str} {o : Obj} {u : HO} : LamX.CodeO c q ≠ .frz o u := by unfold LamX.CodeO; intro h; cases h
theorem Le.del {ρ ρ' : List Addr} {H H' : Hp} (C : List Addr) (l : Le ρ H ρ' H') : Le ρ (delC C H) ρ' (delC C H') := ⟨l.pre,
  fun a o i e => (of_delC e).elim fun e n => by rw [delC_out n]; exact l.ext.imm a o i e,
  fun c q e => (of_delC e).elim fun e n => by rw [delC_out n]; exact l.ext.code c q e⟩
theorem Le.add {ρ ρ' : List Addr} {H H' : Hp} {C : List Addr} (l : Le ρ (delC C H) ρ' H') : Le ρ H ρ' (addC C H H') := by
  refine ⟨l.pre, fun a o i e => ?_, fun c q e => ?_⟩
  · by_cases h : a ∈ C
    · rw [addC_in h]; exact e
    · rw [addC_out h]; exact l.ext.imm a o i (by rw [delC_out h]; exact e)
  · by_cases h : c ∈ C
    · rw [addC_in h]; exact e
    · rw [addC_out h]; exact l.ext.code c q (by rw [delC_out h]; exact e)
/-- a callee knew the things at C as well -/
theorem Le.undel {ρ ρ' : List Addr} {H G H' : Hp} {C : List Addr} (n : ∀ c ∈ C, H c = none) (k : ∀ b, b ∉ C → G b = H b) (l : Le ρ G ρ' H') : Le ρ H ρ' (delC C H') := by
  have out : ∀ {a o}, H a = some o → a ∉ C := fun {a o} e hc => by rw [n a hc] at e; cases e
  exact ⟨l.pre, fun a o i e => by rw [delC_out (out e)]; exact l.ext.imm a o i (by rw [k a (out e)]; exact e),
    fun c q e => by rw [delC_out (out e)]; exact l.ext.code c q (by rw [k c (out e)]; exact e)⟩
section
variable {K : PySem.W.Frag} {NM : Nms} {ρ : List Addr} {H H' : Hp} {C : List Addr} {S : Sto}
theorem sqT_del (t : Tmp C H) {a : Addr} {vs : List V} (h : SqT K H a vs) : SqT K (delC C H) a vs := by
  rcases h with (h | ⟨o, h⟩) | h
  · exact .inl (.inl (delC_some t h fun u z => (by cases z)))
  · exact .inl (.inr ⟨o, delC_some t h fun u z => (by cases z)⟩)
  · exact .inr h
mutual
theorem Rep.del (t : Tmp C H) : ∀ {d : D} {v : V}, Rep K NM ρ H d v → Rep K NM ρ (delC C H) d v
  | .non, _, h => by simpa only [Rep] using h
  | .bl _, _, h => by simpa only [Rep] using h
  | .int _, _, h => by simpa only [Rep] using h
  | .str _, _, h => by simpa only [Rep] using h
  | .tup xs, v, h => by
    simp only [Rep] at h ⊢
    obtain ⟨a, vs, e, s, r⟩ := h
    exact ⟨a, vs, e, sqT_del t s, RepL.del t r⟩
  | .loc n, v, h => by simpa only [Rep] using h
  | .fn _, _, h => by simpa only [Rep] using h
  | .exc k fs, v, h => by
    simp only [Rep] at h ⊢
    obtain ⟨hk, a, oe, us, e, h1, h2, h3, h4⟩ := h
    refine ⟨hk, a, oe, us, e, delC_some t h1 fun u z => (by cases z), h2, h3, ?_⟩
    rcases h4 with h4 | ⟨d, gs, e1, e2, e3⟩
    · exact .inl h4
    · exact .inr ⟨d, gs, e1, delC_some t e2 fun u z => (by cases z), RepF.del t e3⟩
  | .clo _ _, _, h => by simp only [Rep] at h
theorem RepL.del (t : Tmp C H) : ∀ {ds : List D} {vs : List V}, RepL K NM ρ H ds vs → RepL K NM ρ (delC C H) ds vs
  | [], _, h => by simpa only [RepL] using h
  | x :: xs, _, h => by
    simp only [RepL] at h
    obtain ⟨v, r, e, h1, h2⟩ := h
    subst e
    exact RepL.cons (Rep.del t h1) (RepL.del t h2)
theorem RepF.del (t : Tmp C H) : ∀ {ds : List (Str × D)} {vs : List (Str × V)}, RepF K NM ρ H ds vs → RepF K NM ρ (delC C H) ds vs
  | [], _, h => by simpa only [RepF] using h
  | (f, x) :: xs, _, h => by
    simp only [RepF] at h ⊢
    obtain ⟨v, r, e, h1, h2⟩ := h
    exact ⟨v, r, e, Rep.del t h1, RepF.del t h2⟩
end
theorem RepK.del (t : Tmp C H) : ∀ {ds : List (Str × D)} {vs : List (Key × V)}, RepK K NM ρ H ds vs → RepK K NM ρ (delC C H) ds vs
  | [], _, h => by simpa only [RepK] using h
  | (f, x) :: xs, _, h => by
    simp only [RepK] at h ⊢
    obtain ⟨v, r, e, h1, h2⟩ := h
    exact ⟨v, r, e, Rep.del t h1, RepK.del t h2⟩
theorem Gd.del (g : Gd K NM ρ S H) (t : Tmp C H) : Gd K NM ρ S (delC C H) where
  len := g.len
  inj := g.inj
  cell := fun n c a h1 h2 => by
    have := g.cell n c a h1 h2
    cases c with
    | lst xs => obtain ⟨vs, e1, e2⟩ := this; exact ⟨vs, delC_some t e1 fun u z => (by cases z), e2.del t⟩
    | ro xs =>
      obtain ⟨vs, e1, e2⟩ := this
      refine ⟨vs, ?_, e2.del t⟩
      rcases e1 with ⟨o, e1⟩ | e1
      · exact .inl ⟨o, delC_some t e1 fun u z => (by cases z)⟩
      · exact .inr e1
    | dic kvs => obtain ⟨gs, e1, e2⟩ := this; exact ⟨gs, delC_some t e1 fun u z => (by cases z), e2.del t⟩
  tabs := fun q hq => by
    obtain ⟨ps, h1, h2, h3⟩ := g.tabs q hq
    refine ⟨ps, delC_some t h1 fun u z => (by cases z), h2, fun pos cv hc => ?_⟩
    obtain ⟨c, e1, e2⟩ := h3 pos cv hc
    exact ⟨c, e1, delC_some t e2 fun u z => codeO_frz z⟩
/-- more is known -/
theorem Gd.more (g : Gd K NM ρ S H) (k : ∀ a o, H a = some o → H' a = some o) : Gd K NM ρ S H' where
  len := g.len
  inj := g.inj
  cell := fun n c a h1 h2 => (g.cell n c a h1 h2).le (Le.heap (HExt.all k)) fun m => by
    obtain ⟨u, hu, _⟩ := (g.cell n c a h1 h2).some m
    rw [hu]
    exact k _ _ hu
  tabs := g.tabs.ext k
end
/-! ### slots, closures -/
abbrev noArgs : Arguments := ⟨[], [], none, [], [], none, []⟩
abbrev lamName : Str := "<lambda>"
section
variable (K : PySem.W.Frag) (NM : Nms) (base : Heap) (T : CT) (ρ : List Addr)
/-- what a function object of a lambda is, but for what it has captured -/
structure LamAt (H : Hp) (body : C) (n : Nat) (f : Addr) (q : Str) (scope : Scope) (be : Expr) (N : List Str) (cl : List (Str × Addr)) (pm : Value) (c' : Addr) (ctv : Value) : Prop where
  obj : H f = some (.frz (PySem.W.kla_obj lamName q noArgs be scope cl pm c' ctv) (.own 1))
  code : H c' = some (LamX.CodeO c' q)
  kind : scope.kind = .function
  co : scope.isCoroutine = false
  gen : scope.isGenerator = false
  own : ∀ y ∈ scope.names, y.2 ≠ .local ∧ y.2 ≠ .cell
  nd : N.Nodup
  com : ∃ m, body = cE T 1 N m scope be
  len : n = N.length
  nf : base.get? f = none
  cell : ∀ p ∈ cl, base.get? p.2 = none ∧ p.2 ≠ f ∧ ∃ oc uv, H p.2 = some (.frz oc (.own 1)) ∧ oc.data = .cell uv
  inj : ∀ x y c, cl.lookup x = some c → cl.lookup y = some c → x = y
  has : ∀ y ∈ scope.names, y.2 = .free → ∃ c, cl.lookup y.1 = some c
mutual
/-- the value v is the tree d, a closure or not -/
def AR : Hp → D → V → Prop
  | H, .clo body env, v => ∃ (f : Addr) (q : Str) (scope : Scope) (be : Expr) (N : List Str) (cl : List (Str × Addr)) (pm : Value) (c' : Addr) (ctv : Value) (σ : L2.St),
      v = .ref f ∧ LamAt base T H body env.length f q scope be N cl pm c' ctv ∧ EnvR (delC (f :: cl.map (·.2)) H) env σ ∧
      ∀ (i : Nat) (y : Str) (u : V), N[i]? = some y → σ[i]? = some (some u) → scope.names.lookup y = some .free → ∃ c oc w, cl.lookup y = some c ∧ H c = some (.frz oc (.own 1)) ∧ oc.data = .cell (some w) ∧ RelV u w
  | H, .non, v => Rep K NM ρ H .non v
  | H, .bl b, v => Rep K NM ρ H (.bl b) v
  | H, .int i, v => Rep K NM ρ H (.int i) v
  | H, .str x, v => Rep K NM ρ H (.str x) v
  | H, .tup xs, v => Rep K NM ρ H (.tup xs) v
  | H, .loc n, v => Rep K NM ρ H (.loc n) v
  | H, .fn k, v => Rep K NM ρ H (.fn k) v
  | H, .exc k fs, v => Rep K NM ρ H (.exc k fs) v
def EnvR : Hp → List (Option D) → L2.St → Prop
  | _, [], σ => σ = []
  | H, o :: r, σ => ∃ z t, σ = z :: t ∧ SlotR H o z ∧ EnvR H r t
def SlotR : Hp → Option D → Option V → Prop
  | H, some d, z => ∃ v, z = some v ∧ AR H d v
  | _, none, _ => True
end
end
section
variable {K : PySem.W.Frag} {NM : Nms} {base : Heap} {T : CT} {ρ ρ' : List Addr} {H H' : Hp}
theorem LamAt.le {body : C} {n : Nat} {f : Addr} {q : Str} {scope : Scope} {be : Expr} {N : List Str} {cl : List (Str × Addr)} {pm : Value} {c' : Addr} {ctv : Value} (x : HExt H H') (h : LamAt base T H body n f q scope be N cl pm c' ctv) :
    LamAt base T H' body n f q scope be N cl pm c' ctv :=
  { h with obj := x.imm _ _ trivial h.obj, code := x.code _ _ h.code, cell := fun p e => (h.cell p e).elim fun e1 e2 => e2.elim fun e0 e2 => ⟨e1, e0, e2.elim fun oc e3 => e3.elim fun uv e4 => ⟨oc, uv, x.imm _ _ trivial e4.1, e4.2⟩⟩ }
mutual
theorem AR.le : ∀ {d : D} {v : V} {H H' : Hp}, Le ρ H ρ' H' → AR K NM base T ρ H d v → AR K NM base T ρ' H' d v
  | .clo body env, v, H, H', l, h => by
    simp only [AR] at h ⊢
    obtain ⟨f, q, scope, be, N, cl, pm, c', ctv, σ, e, a, r, k⟩ := h
    refine ⟨f, q, scope, be, N, cl, pm, c', ctv, σ, e, a.le l.ext, EnvR.le (l.del _) r, fun i y u h1 h2 h3 => ?_⟩
    obtain ⟨c, oc, w, e1, e2, e3⟩ := k i y u h1 h2 h3
    exact ⟨c, oc, w, e1, l.ext.imm _ _ trivial e2, e3⟩
  | .non, _, _, _, l, h => by simp only [AR] at h ⊢; exact h.le l
  | .bl _, _, _, _, l, h => by simp only [AR] at h ⊢; exact h.le l
  | .int _, _, _, _, l, h => by simp only [AR] at h ⊢; exact h.le l
  | .str _, _, _, _, l, h => by simp only [AR] at h ⊢; exact h.le l
  | .tup _, _, _, _, l, h => by simp only [AR] at h ⊢; exact h.le l
  | .loc _, _, _, _, l, h => by simp only [AR] at h ⊢; exact h.le l
  | .fn _, _, _, _, l, h => by simp only [AR] at h ⊢; exact h.le l
  | .exc _ _, _, _, _, l, h => by simp only [AR] at h ⊢; exact h.le l
theorem EnvR.le : ∀ {env : List (Option D)} {σ : L2.St} {H H' : Hp}, Le ρ H ρ' H' → EnvR K NM base T ρ H env σ → EnvR K NM base T ρ' H' env σ
  | [], _, _, _, _, h => by simpa only [EnvR] using h
  | o :: r, _, _, _, l, h => by
    simp only [EnvR] at h ⊢
    obtain ⟨z, t, e, h1, h2⟩ := h
    exact ⟨z, t, e, SlotR.le l h1, EnvR.le l h2⟩
theorem SlotR.le : ∀ {o : Option D} {z : Option V} {H H' : Hp}, Le ρ H ρ' H' → SlotR K NM base T ρ H o z → SlotR K NM base T ρ' H' o z
  | none, _, _, _, _, h => by simp only [SlotR]
  | some d, _, _, _, l, h => by
    simp only [SlotR] at h ⊢
    obtain ⟨v, e, r⟩ := h
    exact ⟨v, e, AR.le l r⟩
end
theorem AR.of : ∀ {d : D} {v : V}, Rep K NM ρ H d v → AR K NM base T ρ H d v
  | .clo _ _, _, h => by simp only [Rep] at h
  | .non, _, h => by simp only [AR]; exact h
  | .bl _, _, h => by simp only [AR]; exact h
  | .int _, _, h => by simp only [AR]; exact h
  | .str _, _, h => by simp only [AR]; exact h
  | .tup _, _, h => by simp only [AR]; exact h
  | .loc _, _, h => by simp only [AR]; exact h
  | .fn _, _, h => by simp only [AR]; exact h
  | .exc _ _, _, h => by simp only [AR]; exact h
theorem AR.rep : ∀ {d : D} {v : V}, (∀ b e, d ≠ .clo b e) → AR K NM base T ρ H d v → Rep K NM ρ H d v
  | .clo b e, _, n, _ => absurd rfl (n b e)
  | .non, _, _, h => by simpa only [AR] using h
  | .bl _, _, _, h => by simpa only [AR] using h
  | .int _, _, _, h => by simpa only [AR] using h
  | .str _, _, _, h => by simpa only [AR] using h
  | .tup _, _, _, h => by simpa only [AR] using h
  | .loc _, _, _, h => by simpa only [AR] using h
  | .fn _, _, _, h => by simpa only [AR] using h
  | .exc _ _, _, _, h => by simpa only [AR] using h
theorem EnvR.length : ∀ {env : List (Option D)} {σ : L2.St}, EnvR K NM base T ρ H env σ → σ.length = env.length
  | [], _, h => by simp only [EnvR] at h; rw [h]; rfl
  | o :: r, _, h => by
    simp only [EnvR] at h
    obtain ⟨z, t, e, h1, h2⟩ := h
    rw [e, List.length_cons, List.length_cons, EnvR.length h2]
theorem EnvR.get : ∀ {env : List (Option D)} {σ : L2.St} {i : Nat} {d : D}, EnvR K NM base T ρ H env σ → env[i]? = some (some d) → ∃ v, σ[i]? = some (some v) ∧ AR K NM base T ρ H d v
  | [], _, _, _, _, e => by simp at e
  | o :: r, _, 0, d, h, e => by
    simp only [EnvR] at h
    obtain ⟨z, t, e', h1, h2⟩ := h
    simp only [List.getElem?_cons_zero, Option.some.injEq] at e
    subst e e'
    simp only [SlotR] at h1
    obtain ⟨v, e, r⟩ := h1
    exact ⟨v, by rw [e]; rfl, r⟩
  | o :: r, _, i + 1, d, h, e => by
    simp only [EnvR] at h
    obtain ⟨z, t, e', h1, h2⟩ := h
    subst e'
    simpa using EnvR.get (i := i) h2 (by simpa using e)
theorem EnvR.set {d : D} {v : V} (hd : AR K NM base T ρ H d v) : ∀ {env : List (Option D)} {σ : L2.St} (i : Nat), EnvR K NM base T ρ H env σ → EnvR K NM base T ρ H (env.set i (some d)) (σ.set i (some v))
  | [], _, _, h => by simp only [EnvR] at h; subst h; simp [EnvR]
  | o :: r, _, 0, h => by
    simp only [EnvR] at h
    obtain ⟨z, t, e', h1, h2⟩ := h
    subst e'
    simp only [List.set_cons_zero, EnvR]
    exact ⟨_, _, rfl, by simp only [SlotR]; exact ⟨v, rfl, hd⟩, h2⟩
  | o :: r, _, i + 1, h => by
    simp only [EnvR] at h
    obtain ⟨z, t, e', h1, h2⟩ := h
    subst e'
    simp only [List.set_cons_succ, EnvR]
    exact ⟨_, _, rfl, h1, EnvR.set hd i h2⟩
theorem EnvR.unset {y : Option V} : ∀ {env : List (Option D)} {σ : L2.St} (i : Nat), EnvR K NM base T ρ H env σ → EnvR K NM base T ρ H (env.set i none) (σ.set i y)
  | [], _, _, h => by simp only [EnvR] at h; subst h; simp [EnvR]
  | o :: r, _, 0, h => by
    simp only [EnvR] at h
    obtain ⟨z, t, e', h1, h2⟩ := h
    subst e'
    simp only [List.set_cons_zero, EnvR]
    exact ⟨_, _, rfl, by simp only [SlotR], h2⟩
  | o :: r, _, i + 1, h => by
    simp only [EnvR] at h
    obtain ⟨z, t, e', h1, h2⟩ := h
    subst e'
    simp only [List.set_cons_succ, EnvR]
    exact ⟨_, _, rfl, h1, EnvR.unset i h2⟩
theorem EnvR.wipe {env : List (Option D)} {σ : L2.St} (h : EnvR K NM base T ρ H env σ) : ∀ vs : List Nat, EnvR K NM base T ρ H (wipeD env vs) (L2.wipe σ vs)
  | [] => h
  | v :: vs => EnvR.unset v (EnvR.wipe h vs)
/-- lists of arguments -/
def ARL (K : PySem.W.Frag) (NM : Nms) (base : Heap) (T : CT) (ρ : List Addr) (H : Hp) : List D → List V → Prop
  | [], vs => vs = []
  | d :: r, vs => ∃ v t, vs = v :: t ∧ AR K NM base T ρ H d v ∧ ARL K NM base T ρ H r t
theorem ARL.of : ∀ {ds : List D} {vs : List V}, RepL K NM ρ H ds vs → ARL K NM base T ρ H ds vs
  | [], _, h => by simp only [RepL] at h; exact h
  | d :: r, _, h => by
    simp only [RepL] at h
    obtain ⟨v, t, e, h1, h2⟩ := h
    exact ⟨v, t, e, AR.of h1, ARL.of h2⟩
theorem ARL.length : ∀ {ds : List D} {vs : List V}, ARL K NM base T ρ H ds vs → vs.length = ds.length
  | [], _, h => by rw [show _ = [] from h]; rfl
  | d :: r, _, h => by
    obtain ⟨v, t, e, h1, h2⟩ := h
    rw [e, List.length_cons, List.length_cons, ARL.length h2]
theorem EnvR.rep : ∀ n : Nat, EnvR K NM base T ρ H (List.replicate n none) (List.replicate n none)
  | 0 => by simp [EnvR]
  | n + 1 => by
    simp only [List.replicate_succ, EnvR]
    exact ⟨_, _, rfl, by simp only [SlotR], EnvR.rep n⟩
theorem EnvR.start : ∀ {ds : List D} {vs : List V} (n : Nat), ARL K NM base T ρ H ds vs → EnvR K NM base T ρ H (ds.map some ++ List.replicate n none) (vs.map some ++ List.replicate n none)
  | [], _, n, h => by rw [show _ = [] from h]; exact EnvR.rep n
  | d :: r, _, n, h => by
    obtain ⟨v, t, e, h1, h2⟩ := h
    subst e
    simp only [List.map_cons, List.cons_append, EnvR]
    exact ⟨_, _, rfl, by simp only [SlotR]; exact ⟨v, rfl, h1⟩, EnvR.start n h2⟩
end
end QV
set_option maxRecDepth 100000
set_option maxHeartbeats 2000000
/-! Q4: operations on values: subscripts, built-ins, methods. -/
namespace QV
open PySem PySem.Spec PyProof.Rows L2

theorem atD_get {α : Type} {xs : List α} {i : Int} {v : α} (h : atD xs i = some v) : ∃ j, ixN xs.length i = some j ∧ xs[j]? = some v := by
  unfold atD at h
  unfold ixN
  by_cases h0 : 0 ≤ i
  · rw [if_pos h0] at h ⊢
    have hl := (List.getElem?_eq_some_iff.mp h).1
    rw [if_pos (by omega)]
    exact ⟨_, rfl, h⟩
  · rw [if_neg h0] at h ⊢
    by_cases h1 : -(xs.length : Int) ≤ i
    · rw [if_pos h1] at h ⊢
      exact ⟨_, rfl, h⟩
    · rw [if_neg h1] at h
      cases h
theorem atI_of {α : Type} {xs : List α} {i : Int} {j : Nat} {v : α} (h : ixN xs.length i = some j) (h' : xs[j]? = some v) : atI xs i = some v := by
  unfold atI
  rw [h]
  exact h'
theorem idxD_noex {a b : D} {S : Sto} : ∀ e S', idxD a b S ≠ .ex e S' := by
  unfold idxD
  split
  · exact ofOpt_noex
  · exact onlyIf_noex ofOpt_noex
  · exact ofOpt_noex
  · intro e S'
    split
    · exact ofOpt_noex e S'
    · intro h; cases h
  · exact stuck_noex
section
variable {K : PySem.W.Frag} {NM : Nms} {ρ : List Addr} {H : Hp}
theorem RepL.at {ds : List D} {vs : List V} {i : Int} {d : D} (r : RepL K NM ρ H ds vs) (h : atD ds i = some d) : ∃ v, atI vs i = some v ∧ Rep K NM ρ H d v := by
  obtain ⟨j, h1, h2⟩ := atD_get h
  obtain ⟨v, h3, h4⟩ := r.get h2
  exact ⟨v, atI_of (by rw [r.length]; exact h1) h3, h4⟩
theorem RepK.look : ∀ {kvs : List (Str × D)} {gs : List (Key × V)} {k : Str} {d : D}, RepK K NM ρ H kvs gs → look kvs k = some d → ∃ v, valV gs (Sum.inr k) = some v ∧ Rep K NM ρ H d v
  | [], _, _, _, _, h => by cases h
  | (f, x) :: r, _, k, d, h, e => by
    simp only [RepK] at h
    obtain ⟨v, t, rfl, h1, h2⟩ := h
    by_cases hk : f = k
    · subst hk
      rw [valV_pos (by rfl)]
      unfold QV.look at e
      rw [List.find?_cons] at e
      simp only [decide_true] at e
      cases e
      exact ⟨v, rfl, h1⟩
    · have e' : QV.look r k = some d := by
        unfold QV.look at e ⊢
        rw [List.find?_cons] at e
        simpa only [hk, decide_false] using e
      obtain ⟨w, h3, h4⟩ := RepK.look h2 e'
      refine ⟨w, ?_, h4⟩
      unfold valV at h3 ⊢
      rw [List.find?_cons]
      have : decide ((Sum.inr f : Key) = Sum.inr k) = false := by simpa using hk
      simp only [this]
      exact h3
theorem RepK.length : ∀ {kvs : List (Str × D)} {gs : List (Key × V)}, RepK K NM ρ H kvs gs → gs.length = kvs.length
  | [], _, h => by simp only [RepK] at h; rw [h]; rfl
  | (f, x) :: r, _, h => by
    simp only [RepK] at h
    obtain ⟨v, t, rfl, h1, h2⟩ := h
    rw [List.length_cons, List.length_cons, RepK.length h2]
theorem RepK.put {k : Str} {d : D} {v : V} (hv : Rep K NM ρ H d v) : ∀ {kvs : List (Str × D)} {gs : List (Key × V)}, RepK K NM ρ H kvs gs →
    RepK K NM ρ H (kvs.map fun p => if p.1 = k then (k, d) else p) (gs.map fun kv => if kv.1 = Sum.inr k then (kv.1, v) else kv)
  | [], _, h => by simp only [RepK] at h; subst h; simp only [List.map_nil, RepK]
  | (f, x) :: r, _, h => by
    simp only [RepK] at h
    obtain ⟨w, t, rfl, h1, h2⟩ := h
    simp only [List.map_cons]
    by_cases hk : f = k
    · subst hk
      rw [if_pos rfl, if_pos rfl]
      simp only [RepK]
      exact ⟨v, _, rfl, hv, RepK.put hv h2⟩
    · rw [if_neg hk, if_neg (by simpa using hk)]
      simp only [RepK]
      exact ⟨w, _, rfl, h1, RepK.put hv h2⟩
end
section
variable {X : Cx} {NM : Nms}
theorem ix_dK (hu : X.A.units + 1 < cLine) : IxR X (fun x y H Q => ∃ a v, x = .ref a ∧ DGet H a y (some v) ∧ Q v H) := by
  intro value slice pins s σ H x y v u Q I rx ry h hs
  obtain ⟨a, z, rfl, g, q⟩ := h
  cases rx
  exact tail_any (dict_typeIs I g) PySem.F.slot_dict_getitem.lookup (d_getItem hu I g ry fun w' s' I' r' => ⟨z, H, I', r', q⟩) hs
theorem ixD (hu : X.A.units + 100 < cLine) : IxR X (rD X.K NM idxD) := by
  intro value slice pins s σ H x y v u Q I rx ry h hs
  obtain ⟨ρ, S, a, b, g, ra, rb, q⟩ := h
  cases a <;> cases b <;> first | exact q.elim | skip
  · rename_i z i
    have e1 := rep_str ra
    have e2 := rep_int rb
    subst e1 e2
    obtain ⟨c, q⟩ := onlyIf_run q
    obtain ⟨d, e, q⟩ := ofOpt_run q
    obtain ⟨k, e1, rfl⟩ := map_some e
    obtain ⟨j, h1, h2⟩ := atD_get e1
    exact ix_str value slice pins s σ H _ _ v u Q I rx ry ⟨z, i, k, rfl, rfl, by rw [← line_eq]; exact of_decide_eq_true c, atI_of h1 h2, q.ret g (mk_str _)⟩ hs
  · rename_i xs i
    obtain ⟨p, vs, rfl, sq, r⟩ := rep_tup ra
    have e2 := rep_int rb
    subst e2
    obtain ⟨d, e, q⟩ := ofOpt_run q
    obtain ⟨z, h1, h2⟩ := r.at e
    exact ix_tup value slice pins s σ H _ _ v u Q I rx ry ⟨p, vs, i, z, rfl, rfl, sq, h1, q.ret g h2⟩ hs
  · rename_i n i
    have e2 := rep_int rb
    subst e2
    obtain ⟨d, e, q⟩ := ofOpt_run q
    obtain ⟨xs, e1, e3⟩ := Option.bind_eq_some_iff.mp e
    obtain ⟨p, vs, rfl, sq, r⟩ := asL_some g e1 ra
    obtain ⟨z, h1, h2⟩ := r.at e3
    exact ix_list value slice pins s σ H _ _ v u Q I rx ry ⟨p, vs, i, z, rfl, rfl, sq, h1, q.ret g h2⟩ hs
  · rename_i n k
    obtain ⟨p, rfl, hp⟩ := rep_loc ra
    have e2 := rep_str rb
    subst e2
    have q : Run X.K NM (rD1 X.K NM) WF ρ H ([] : L2.St) (match S[n]? with
      | some (.dic kvs) => ofOpt (look kvs k) S
      | _ => .stk) Q := q
    split at q
    · rename_i kvs hn
      obtain ⟨d, e, q⟩ := ofOpt_run q
      obtain ⟨gs, h1, h2⟩ := g.cell n _ p hn hp
      obtain ⟨z, h3, h4⟩ := h2.look e
      have dg : DGet H p (.str k) (some z) := by rw [← h3]; exact DGet.k (k := Sum.inr k) h1
      exact ix_dK (by omega) value slice pins s σ H _ _ v u Q I rx ry ⟨p, z, rfl, dg, q.ret g h4⟩ hs
    · exact q.elim
/-- o[k] = v -/
def rSet (K : PySem.W.Frag) (NM : Nms) : TSet := fun o i v H Q => ∃ ρ S a b c, Gd K NM ρ S H ∧ Rep K NM ρ H a o ∧ Rep K NM ρ H b i ∧ Rep K NM ρ H c v ∧
  Run K NM (fun _ _ (_ : Unit) (_ : Unit) => True) WF ρ H ([] : L2.St) (setD a b c S) fun _ H' => Q H'
theorem setD_noex {a b c : D} {S : Sto} : ∀ e S', setD a b c S ≠ .ex e S' := by
  unfold setD
  split
  · intro e S'
    split
    · split
      · exact onlyIf_noex (m := fun S => .ok () _) (fun e S' h => by cases h) e S'
      · intro h; cases h
    · intro h; cases h
  · exact stuck_noex
theorem set_dK (hu : X.A.units + 100 < cLine) : PSet X (rSet X.K NM) := by
  intro pins s σ H o i v ov iv u Q I ro ri rv h
  obtain ⟨ρ, S, a, b, c, g, ra, rb, rc, q⟩ := h
  cases a <;> cases b <;> first | exact q.elim | skip
  rename_i n k
  obtain ⟨p, rfl, hp⟩ := rep_loc ra
  have e2 := rep_str rb
  subst e2
  have q : Run X.K NM (fun _ _ (_ : Unit) (_ : Unit) => True) WF ρ H ([] : L2.St) (match S[n]? with
    | some (.dic kvs) => match look kvs k with
      | some _ => (onlyIf (decide (kvs.length < 1000)) fun S => .ok () (S.set n (.dic (kvs.map fun p => if p.1 = k then (k, c) else p)))) S
      | none => .stk
    | _ => .stk) fun _ H' => Q H' := q
  split at q
  · rename_i kvs hn
    split at q
    · rename_i d hl
      obtain ⟨gs, h1, h2⟩ := g.cell n _ p hn hp
      obtain ⟨z, h3, h4⟩ := h2.look hl
      obtain ⟨cl, q⟩ := onlyIf_run q
      have hlen : gs.length < sizeLine := by
        have h5 := h2.length
        have h6 := of_decide_eq_true cl
        have h7 : sizeLine = 16777216 := sizeLine_eq
        omega
      have hany : (gs.any fun kv => decide (kv.1 = Sum.inr k)) = true := by
        unfold valV at h3
        obtain ⟨w, hw, _⟩ := map_some h3
        rw [List.any_eq_true]
        exact ⟨w, List.mem_of_find?_eq_some hw, (by have h8 := List.find?_some hw; exact h8)⟩
      have hput : putK gs (Sum.inr k) v = gs.map fun kv => if kv.1 = Sum.inr k then (kv.1, v) else kv := by
        unfold putK
        rw [if_pos hany]
      have ni : HExt H (upd H p (.dK (putK gs (Sum.inr k) v))) := ⟨fun b w i e => by
          rw [upd_ne (fun z => by rw [z, h1] at e; cases e; exact i)]; exact e,
        fun b q' e => by rw [upd_ne (fun z => by rw [z, h1] at e; unfold LamX.CodeO at e; cases e)]; exact e⟩
      obtain ⟨g', l'⟩ := g.put (c' := .dic (kvs.map fun p => if p.1 = k then (k, c) else p)) (o := .dK (putK gs (Sum.inr k) v)) hn rfl rfl hp
        ⟨_, upd_same, by rw [hput] at ni ⊢; exact RepK.put (k := k) (rc.le (Le.heap ni)) (h2.le (Le.heap ni))⟩
      have hQ := q ρ _ () l' g' trivial
      exact set_dict (by omega) pins s σ H _ _ v ov iv u Q I ro ri rv ⟨p, _, rfl, DPut.k (k := Sum.inr k) h1 hlen, hQ⟩
    · exact q.elim
  · exact q.elim
/-! ### slices -/
def rCut (K : PySem.W.Frag) (NM : Nms) : V → Option Int → Option Int → Hp → VK → Prop := fun x lo hi H Q => ∃ ρ S a, Gd K NM ρ S H ∧ Rep K NM ρ H a x ∧ Run K NM (rD1 K NM) WF ρ H ([] : L2.St) (slcD a lo hi S) Q
theorem sIxD_eq (n d : Nat) (o : Option Int) : sIxD n d o = HT.sIx n d o := by cases o <;> rfl
theorem slcD_noex {a : D} {lo hi : Option Int} {S : Sto} : ∀ e S', slcD a lo hi S ≠ .ex e S' := by
  unfold slcD
  split
  · exact onlyIf_noex ret_noex
  · exact stuck_noex
theorem sl_D : SlR X (rCut X.K NM) := by
  intro pins s σ H x v vl vu lo hi sl Q I r hs pl pu h
  obtain ⟨ρ, S, a, g, ra, q⟩ := h
  cases a <;> first | exact q.elim | skip
  rename_i z
  have e1 := rep_str ra
  subst e1
  obtain ⟨c, q⟩ := onlyIf_run q
  refine sl_str pins s σ H _ v vl vu lo hi sl Q I r hs pl pu ⟨z, rfl, by rw [← line_eq]; exact of_decide_eq_true c, ?_⟩
  have e : (⟨(cutD z.cps.toList lo hi).toArray⟩ : Str) = cutS z lo hi := by
    unfold cutD cutS
    have hl : z.cps.toList.length = z.length := Array.length_toList
    rw [hl, sIxD_eq, sIxD_eq]
  rw [e] at q
  exact q.ret g (mk_str _)
/-! ### built-ins -/
def rA (K : PySem.W.Frag) (NM : Nms) (f : List D → Ev D) : List V → Hp → VK → Prop := fun vs H Q => ∃ ρ S ds, Gd K NM ρ S H ∧ RepL K NM ρ H ds vs ∧ Run K NM (rD1 K NM) WF ρ H ([] : L2.St) (f ds S) Q
theorem repL1 {K : PySem.W.Frag} {ρ : List Addr} {H : Hp} {d : D} {vs : List V} (h : RepL K NM ρ H [d] vs) : ∃ v, vs = [v] ∧ Rep K NM ρ H d v := by
  simp only [RepL] at h
  obtain ⟨v, r, rfl, h1, rfl⟩ := h
  exact ⟨v, rfl, h1⟩
theorem repL2 {K : PySem.W.Frag} {ρ : List Addr} {H : Hp} {d e : D} {vs : List V} (h : RepL K NM ρ H [d, e] vs) : ∃ v w, vs = [v, w] ∧ Rep K NM ρ H d v ∧ Rep K NM ρ H e w := by
  simp only [RepL] at h
  obtain ⟨v, r, rfl, h1, w, r', rfl, h2, rfl⟩ := h
  exact ⟨v, w, rfl, h1, h2⟩
theorem biD_noex {b : Bi} {ds : List D} {S : Sto} : ∀ e S', biD b ds S ≠ .ex e S' := by
  unfold biD ofShown
  split <;> first
    | exact ret_noex
    | exact stuck_noex
    | exact ofOpt_noex
    | exact onlyIf_noex ret_noex
    | exact onlyIf_noex ofOpt_noex
    | exact onlyIf_noex (onlyIf_noex ret_noex)
    | (intro e S'; exact ofOpt_noex e S')
theorem bools_eq {K : PySem.W.Frag} {ρ : List Addr} {H : Hp} : ∀ {ds : List D} {bs : List Bool} {vs : List V}, bools ds = some bs → RepL K NM ρ H ds vs → vs = bs.map V.bl
  | [], bs, _, h, r => by
    simp only [RepL] at r
    cases h
    rw [r]
    rfl
  | .bl b :: t, bs, _, h, r => by
    simp only [RepL] at r
    obtain ⟨v, u, rfl, h1, h2⟩ := r
    simp only [bools] at h
    obtain ⟨cs, h3, rfl⟩ := map_some h
    rw [rep_bl h1, bools_eq h3 h2]
    rfl
  | .non :: _, _, _, h, _ => by cases h
  | .int _ :: _, _, _, h, _ => by cases h
  | .str _ :: _, _, _, h, _ => by cases h
  | .tup _ :: _, _, _, h, _ => by cases h
  | .loc _ :: _, _, _, h, _ => by cases h
  | .fn _ :: _, _, _, h, _ => by cases h
  | .exc _ _ :: _, _, _, h, _ => by cases h
  | .clo _ _ :: _, _, _, h, _ => by cases h
theorem strs_eq {K : PySem.W.Frag} {ρ : List Addr} {H : Hp} : ∀ {ds : List D} {bs : List Str} {vs : List V}, strsOf ds = some bs → RepL K NM ρ H ds vs → vs = bs.map V.str
  | [], bs, _, h, r => by
    simp only [RepL] at r
    cases h
    rw [r]
    rfl
  | .str b :: t, bs, _, h, r => by
    simp only [RepL] at r
    obtain ⟨v, u, rfl, h1, h2⟩ := r
    simp only [strsOf] at h
    obtain ⟨cs, h3, rfl⟩ := map_some h
    rw [rep_str h1, strs_eq h3 h2]
    rfl
  | .non :: _, _, _, h, _ => by cases h
  | .int _ :: _, _, _, h, _ => by cases h
  | .bl _ :: _, _, _, h, _ => by cases h
  | .tup _ :: _, _, _, h, _ => by cases h
  | .loc _ :: _, _, _, h, _ => by cases h
  | .fn _ :: _, _, _, h, _ => by cases h
  | .exc _ _ :: _, _, _, h, _ => by cases h
  | .clo _ _ :: _, _, _, h, _ => by cases h
theorem call_lenD : CallR X (.builtin "len") (rA X.K NM (biD .len)) := by
  intro pins s σ H xs us Q I rs h
  obtain ⟨ρ, S, ds, g, r, q⟩ := h
  match ds, r, q with
  | [.str z], r, q =>
    obtain ⟨v, rfl, r1⟩ := repL1 r
    have e := rep_str r1
    subst e
    obtain ⟨c, q⟩ := onlyIf_run q
    exact call_len_str pins s σ H _ us Q I rs ⟨z, rfl, by rw [← line_eq]; exact of_decide_eq_true c, q.ret g (mk_int _)⟩
  | [.tup ys], r, q =>
    obtain ⟨v, rfl, r1⟩ := repL1 r
    obtain ⟨p, vs, rfl, sq, r2⟩ := rep_tup r1
    have q2 := q.ret g (mk_int _)
    rw [← r2.length] at q2
    exact call_len_seq pins s σ H _ us Q I rs ⟨p, vs, rfl, .inr sq, q2⟩
  | [.loc n], r, q =>
    obtain ⟨v, rfl, r1⟩ := repL1 r
    obtain ⟨d, e, q⟩ := ofOpt_run q
    obtain ⟨ys, e1, rfl⟩ := map_some e
    obtain ⟨p, vs, rfl, sq, r2⟩ := asL_some g e1 r1
    have q2 := q.ret g (mk_int _)
    rw [← r2.length] at q2
    exact call_len_seq pins s σ H _ us Q I rs ⟨p, vs, rfl, .inl sq, q2⟩
  | [], _, q => exact q.elim
  | a :: _ :: _, _, q => cases a <;> exact q.elim
  | [.non], _, q => exact q.elim
  | [.bl _], _, q => exact q.elim
  | [.int _], _, q => exact q.elim
  | [.fn _], _, q => exact q.elim
  | [.exc _ _], _, q => exact q.elim
  | [.clo _ _], _, q => exact q.elim
theorem call_absD : CallR X (.builtin "abs") (rA X.K NM (biD .abs)) := by
  intro pins s σ H xs us Q I rs h
  obtain ⟨ρ, S, ds, g, r, q⟩ := h
  match ds, r, q with
  | [.int z], r, q =>
    obtain ⟨v, rfl, r1⟩ := repL1 r
    have e := rep_int r1
    subst e
    exact call_abs pins s σ H _ us Q I rs ⟨z, rfl, q.ret g (mk_int _)⟩
  | [], _, q => exact q.elim
  | a :: _ :: _, _, q => cases a <;> exact q.elim
  | [.str _], _, q => exact q.elim
  | [.tup _], _, q => exact q.elim
  | [.loc _], _, q => exact q.elim
  | [.non], _, q => exact q.elim
  | [.bl _], _, q => exact q.elim
  | [.fn _], _, q => exact q.elim
  | [.exc _ _], _, q => exact q.elim
  | [.clo _ _], _, q => exact q.elim
theorem call_intD : CallR X (.type "int") (rA X.K NM (biD .int)) := by
  intro pins s σ H xs us Q I rs h
  obtain ⟨ρ, S, ds, g, r, q⟩ := h
  match ds, r, q with
  | [.int z], r, q =>
    obtain ⟨v, rfl, r1⟩ := repL1 r
    have e := rep_int r1
    subst e
    exact call_int1 pins s σ H _ us Q I rs (.inl ⟨z, rfl, q.ret g (mk_int _)⟩)
  | [.str z], r, q =>
    obtain ⟨v, rfl, r1⟩ := repL1 r
    have e := rep_str r1
    subst e
    obtain ⟨c, q⟩ := onlyIf_run q
    obtain ⟨d, e, q⟩ := ofOpt_run q
    obtain ⟨n, e1, rfl⟩ := map_some e
    exact call_int_str pins s σ H _ us Q I rs ⟨z, n, rfl, e1, of_decide_eq_true c, q.ret g (mk_int _)⟩
  | [], _, q => exact q.elim
  | a :: _ :: _, _, q => cases a <;> exact q.elim
  | [.tup _], _, q => exact q.elim
  | [.loc _], _, q => exact q.elim
  | [.non], _, q => exact q.elim
  | [.bl _], _, q => exact q.elim
  | [.fn _], _, q => exact q.elim
  | [.exc _ _], _, q => exact q.elim
  | [.clo _ _], _, q => exact q.elim
theorem call_strD : CallR X (.type "str") (rA X.K NM (biD .str)) := by
  intro pins s σ H xs us Q I rs h
  obtain ⟨ρ, S, ds, g, r, q⟩ := h
  match ds, r, q with
  | [.int z], r, q =>
    obtain ⟨v, rfl, r1⟩ := repL1 r
    have e := rep_int r1
    subst e
    obtain ⟨c, q⟩ := onlyIf_run q
    exact call_str_int pins s σ H _ us Q I rs ⟨z, rfl, of_decide_eq_true c, q.ret g (mk_str _)⟩
  | [.str z], r, q =>
    obtain ⟨v, rfl, r1⟩ := repL1 r
    have e := rep_str r1
    subst e
    exact SkE.call_str_str pins s σ H _ us Q I rs ⟨z, rfl, q.ret g (mk_str _)⟩
  | [], _, q => exact q.elim
  | a :: _ :: _, _, q => cases a <;> exact q.elim
  | [.tup _], _, q => exact q.elim
  | [.loc _], _, q => exact q.elim
  | [.non], _, q => exact q.elim
  | [.bl _], _, q => exact q.elim
  | [.fn _], _, q => exact q.elim
  | [.exc _ _], _, q => exact q.elim
  | [.clo _ _], _, q => exact q.elim
theorem boolsD {K : PySem.W.Frag} {ρ : List Addr} {H : Hp} {S : Sto} {n : Nat} {v : V} {bs : List Bool} (g : Gd K NM ρ S H) (r : Rep K NM ρ H (.loc n) v) (e : (asL S (.loc n)).bind bools = some bs) : ∃ a, v = .ref a ∧ SqL K H a (bs.map V.bl) := by
  obtain ⟨xs, e1, e2⟩ := Option.bind_eq_some_iff.mp e
  obtain ⟨p, vs, rfl, sq, r2⟩ := asL_some g e1 r
  rw [bools_eq e2 r2] at sq
  exact ⟨p, rfl, sq⟩
theorem call_allD (hc : X.calm = true) : CallR X (.builtin "all") (rA X.K NM (biD .all)) := by
  intro pins s σ H xs us Q I rs h
  obtain ⟨ρ, S, ds, g, r, q⟩ := h
  match ds, r, q with
  | [.loc z], r, q =>
    obtain ⟨v, rfl, r1⟩ := repL1 r
    obtain ⟨d, e, q⟩ := ofOpt_run q
    obtain ⟨bs, e1, rfl⟩ := map_some e
    obtain ⟨a, rfl, sq⟩ := boolsD g r1 e1
    exact cr_all hc pins s σ H _ us Q I rs ⟨a, bs, rfl, sq, q.ret g (mk_bl _)⟩
  | [], _, q => exact q.elim
  | a :: _ :: _, _, q => cases a <;> exact q.elim
  | [.tup _], _, q => exact q.elim
  | [.int _], _, q => exact q.elim
  | [.str _], _, q => exact q.elim
  | [.non], _, q => exact q.elim
  | [.bl _], _, q => exact q.elim
  | [.fn _], _, q => exact q.elim
  | [.exc _ _], _, q => exact q.elim
  | [.clo _ _], _, q => exact q.elim
theorem call_anyD (hc : X.calm = true) : CallR X (.builtin "any") (rA X.K NM (biD .any)) := by
  intro pins s σ H xs us Q I rs h
  obtain ⟨ρ, S, ds, g, r, q⟩ := h
  match ds, r, q with
  | [.loc z], r, q =>
    obtain ⟨v, rfl, r1⟩ := repL1 r
    obtain ⟨d, e, q⟩ := ofOpt_run q
    obtain ⟨bs, e1, rfl⟩ := map_some e
    obtain ⟨a, rfl, sq⟩ := boolsD g r1 e1
    exact cr_any hc pins s σ H _ us Q I rs ⟨a, bs, rfl, sq, q.ret g (mk_bl _)⟩
  | [], _, q => exact q.elim
  | a :: _ :: _, _, q => cases a <;> exact q.elim
  | [.tup _], _, q => exact q.elim
  | [.int _], _, q => exact q.elim
  | [.str _], _, q => exact q.elim
  | [.non], _, q => exact q.elim
  | [.bl _], _, q => exact q.elim
  | [.fn _], _, q => exact q.elim
  | [.exc _ _], _, q => exact q.elim
  | [.clo _ _], _, q => exact q.elim
theorem call_minD (hc : X.calm = true) : CallR X (.builtin "min") (rA X.K NM (biD .min2)) := by
  intro pins s σ H xs us Q I rs h
  obtain ⟨ρ, S, ds, g, r, q⟩ := h
  match ds, r, q with
  | [.int i, .int j], r, q =>
    obtain ⟨v, w, rfl, r1, r2⟩ := repL2 r
    have e1 := rep_int r1
    have e2 := rep_int r2
    subst e1 e2
    exact call_min2 hc pins s σ H _ us Q I rs ⟨i, j, rfl, q.ret g (mk_int _)⟩
  | [], _, q => exact q.elim
  | [a], _, q => cases a <;> exact q.elim
  | a :: b :: _ :: _, _, q => cases a <;> first | exact q.elim | (cases b <;> exact q.elim)
  | [.tup _, _], _, q => exact q.elim
  | [.loc _, _], _, q => exact q.elim
  | [.str _, _], _, q => exact q.elim
  | [.non, _], _, q => exact q.elim
  | [.bl _, _], _, q => exact q.elim
  | [.fn _, _], _, q => exact q.elim
  | [.exc _ _, _], _, q => exact q.elim
  | [.clo _ _, _], _, q => exact q.elim
  | [.int _, .tup _], _, q => exact q.elim
  | [.int _, .loc _], _, q => exact q.elim
  | [.int _, .str _], _, q => exact q.elim
  | [.int _, .non], _, q => exact q.elim
  | [.int _, .bl _], _, q => exact q.elim
  | [.int _, .fn _], _, q => exact q.elim
  | [.int _, .exc _ _], _, q => exact q.elim
  | [.int _, .clo _ _], _, q => exact q.elim
theorem call_tupleD : CallR X (.type "tuple") (rA X.K NM (biD .tuple)) := by
  intro pins s σ H xs us Q I rs h
  obtain ⟨ρ, S, ds, g, r, q⟩ := h
  match ds, r, q with
  | [.tup ys], r, q =>
    obtain ⟨v, rfl, r1⟩ := repL1 r
    obtain ⟨p, vs, rfl, sq, r2⟩ := rep_tup r1
    exact call_tuple_of pins s σ H _ us Q I rs ⟨p, vs, rfl, .inr ⟨sq, q.ret g (mk_tup sq r2)⟩⟩
  | [.loc n], r, q =>
    obtain ⟨v, rfl, r1⟩ := repL1 r
    obtain ⟨d, e, q⟩ := ofOpt_run q
    obtain ⟨ys, e1, rfl⟩ := map_some e
    obtain ⟨p, vs, rfl, sq, r2⟩ := asL_some g e1 r1
    refine call_tuple_of pins s σ H _ us Q I rs ⟨p, vs, rfl, .inl ⟨sq, fun l hl => ?_⟩⟩
    exact q ρ _ _ (Le.heap (HExt.new hl)) (g.beside hl) (mk_tup (.inl (.inl upd_same)) (r2.le (Le.heap (HExt.new hl))))
  | [], _, q => exact q.elim
  | a :: _ :: _, _, q => cases a <;> exact q.elim
  | [.int _], _, q => exact q.elim
  | [.str _], _, q => exact q.elim
  | [.non], _, q => exact q.elim
  | [.bl _], _, q => exact q.elim
  | [.fn _], _, q => exact q.elim
  | [.exc _ _], _, q => exact q.elim
  | [.clo _ _], _, q => exact q.elim
mutual
theorem noDict_py : ∀ a : D, a.py.hasDict = false
  | .non => rfl
  | .bl _ => rfl
  | .int _ => rfl
  | .str _ => rfl
  | .tup xs => by simp only [D.py, PyData.hasDict]; exact noDict_pyL xs
  | .loc _ => rfl
  | .fn _ => rfl
  | .exc _ _ => rfl
  | .clo _ _ => rfl
theorem noDict_pyL : ∀ a : List D, PyData.hasDictAll (D.pyL a) = false
  | [] => rfl
  | a :: as => by simp only [D.pyL, PyData.hasDictAll, noDict_py a, noDict_pyL as]; rfl
end
theorem call_reprD (hu : X.A.units + 100 < cLine) (hg : X.A.guards = some []) : CallR X (.builtin "repr") (rA X.K NM (biD .repr)) := by
  intro pins s σ H xs us Q I rs h
  obtain ⟨ρ, S, ds, g, r, q⟩ := h
  have fin : ∀ {d : D} {s' : Shared} {u : Tok}, d.flat = true → Run X.K NM (rD1 X.K NM) WF ρ H ([] : L2.St) (biD .repr [d] S) Q → Inv X pins σ H s' → d.py.shown.length ≤ sizeLine ∧ d.py.showable = true ∧ D.depth d ≤ 60 ∧ EP X pins σ Q (.str d.py.shown u) s' := fun {d s' u} hf q I' => by
    have q : Run X.K NM (rD1 X.K NM) WF ρ H ([] : L2.St) (onlyIf (d.flat && decide (d.depth ≤ 60)) (ofShown d) S) Q := by cases d <;> exact q
    obtain ⟨c, q⟩ := onlyIf_run q
    obtain ⟨c2, q⟩ := onlyIf_run q
    simp only [Bool.and_eq_true, decide_eq_true_eq] at c c2
    exact ⟨by rw [← line_eq]; exact c2.1, c2.2, c.2, V.str d.py.shown, H, I', ⟨_, rfl⟩, q.ret g (mk_str _)⟩
  match ds, r, q with
  | [.non], r, q =>
    obtain ⟨v, rfl, r1⟩ := repL1 r
    have e := rep_non r1
    subst e
    obtain ⟨u, rfl, rfl⟩ := vals1 rs
    exact P.repr_of_none (fin rfl q (I.tok _)).2.2.2
  | [.bl b], r, q =>
    obtain ⟨v, rfl, r1⟩ := repL1 r
    have e := rep_bl r1
    subst e
    obtain ⟨u, rfl, rfl⟩ := vals1 rs
    exact P.repr_of_bool (fin rfl q (I.tok _)).2.2.2
  | [.int i], r, q =>
    obtain ⟨v, rfl, r1⟩ := repL1 r
    have e := rep_int r1
    subst e
    obtain ⟨u, rfl, t, rfl⟩ := vals1 rs
    have f := fin (u := s.toks) rfl q (I.tok (s.toks + 1))
    exact P.repr_of_int (of_decide_eq_true f.2.1) f.2.2.2
  | [.str z], r, q =>
    obtain ⟨v, rfl, r1⟩ := repL1 r
    have e := rep_str r1
    subst e
    obtain ⟨u, rfl, t, rfl⟩ := vals1 rs
    have f := fin (u := s.toks) rfl q (I.tok (s.toks + 1))
    exact P.repr_of_str f.2.2.2 f.1
  | [.tup ys], r, q =>
    obtain ⟨v, rfl, r1⟩ := repL1 r
    have hf : (D.tup ys).flat = true := by
      have q' : Run X.K NM (rD1 X.K NM) WF ρ H ([] : L2.St) (onlyIf ((D.tup ys).flat && decide ((D.tup ys).depth ≤ 60)) (ofShown (D.tup ys)) S) Q := q
      have c := (onlyIf_run q').1
      simp only [Bool.and_eq_true] at c
      exact c.1
    obtain ⟨p, vs, e, sq, r2⟩ := rep_tup r1
    subst e
    obtain ⟨u, rfl, ru⟩ := vals1 rs
    obtain rfl : u = Value.ref p := ru
    obtain ⟨as, rd⟩ := Dp.reads I _ _ (.ref p) (dp_of hf r1) rfl
    have f0 := fin (u := s.toks) hf q I
    refine repr_of_reads' rd f0.2.1 (fun z => by rw [noDict_py] at z; cases z) hg (by rw [depth_py]; omega) (fun _ _ z => z) (fun h' u tk hk => (fin hf q (I.kept hk)).2.2.2) f0.1
  | [], _, q => exact q.elim
  | a :: _ :: _, _, q => cases a <;> exact q.elim
  | [.loc _], _, q => exact q.elim
  | [.fn _], _, q => exact q.elim
  | [.exc _ _], _, q => exact q.elim
  | [.clo _ _], _, q => exact q.elim
end
end QV
set_option maxRecDepth 100000
set_option maxHeartbeats 2000000
/-! Q5: methods of lists and texts; the kinds of a value. -/
namespace QV
open PySem PySem.Spec PyProof.Rows L2
theorem extend_tup (l b : Addr) (xs ys : Array Value) (m k : Nat) (dd : Option Addr) (sl : Array (Option Value)) (h1 : xs.size ≤ sizeLine) (h2 : ¬(!xs.isEmpty && Builtin.List.listTooLong (xs.size + ys.size)) = true) (h3 : xs.size + ys.size ≤ sizeLine + 1) :
    Meets (Builtin.«list.extend» ⟨[.ref l, .ref b], []⟩) (fun _ R s => s.heap.get? l = some ⟨.type "list", none, .seq xs m, #[]⟩ ∧ s.heap.get? b = some ⟨.type "tuple", dd, .seq ys k, sl⟩ ∧
      R (.ok (.ret Value.none)) ⟨s.heap.update l (Obj.mapSeq fun x => x ++ ys), s.gens, s.drawn, s.toks, s.os⟩) := by
  refine .of_wp fun prog w A R s q => ?_
  obtain ⟨hh, gg, dw, tt, oo⟩ := s
  obtain ⟨e1, e2, q⟩ := q
  have k1 := AutoSeq1.idx_int
  have k2 := AutoSeq1.sub_tuple_tuple
  have k3 := AutoSeq1.sub_list_list
  have k4 := AutoSeq1.sub_tuple_list
  have k5 := AutoSeq1.sub_list_tuple
  have h4 : (xs ++ ys).size ≤ sizeLine + 1 := by
    rw [Array.size_append]
    exact h3
  wp_walk using (wpAny_updateSeq e1 rfl (hz := h1) (_hz' := h4)), AutoSeq1.wpAny_loadPart' e1, AutoSeq1.wpAny_loadPart' e2
  exact ⟨_, rfl, q⟩
section
variable {X : Cx} {NM : Nms}
/-- l.extend(t), t a tuple -/
theorem mt_extT : MtM X "list.extend" (fun x vs H Q => ∃ l b xs zs, x = .ref l ∧ vs = [.ref b] ∧ H l = some (.lst xs) ∧ SqT X.K H b zs ∧ xs.length + zs.length ≤ sizeLine ∧ Q .non (upd H l (.lst (xs ++ zs)))) := by
  intro pins s σ H x vs v us Q I rx rv h
  obtain ⟨l, b, xs, zs, rfl, rfl, hH, hB, hz, q⟩ := h
  obtain rfl : v = Value.ref l := rx
  obtain ⟨u, rfl, ru⟩ := rv.one
  obtain rfl : u = Value.ref b := ru
  obtain ⟨z, its, n, r, hl, e⟩ := I.lstM hH
  obtain ⟨its2, r2, ⟨o2, e2, c2, n2, d2⟩, z2⟩ := I.tuple hB
  have hl2 := r2.length
  obtain ⟨oc, od, oda, osl⟩ := o2
  cases c2
  cases d2
  have hsz : its.toArray.size + its2.toArray.size ≤ sizeLine := by
    simp only [List.size_toArray]
    omega
  refine call_meets F.slot_list_extend ⟨_, e, rfl⟩ F.entry_list_extend (F.args_list_extend_2 _ _)
    (extend_tup l b its.toArray its2.toArray n n2 od osl (by simp only [List.size_toArray]; omega) (by rw [notLongL hsz]; simp) (by omega)) ⟨e, e2, ?_⟩
  exact ⟨.non, _, I.lset (its' := its ++ its2) hH e (by simp) (r.append r2) (by rw [List.length_append]; omega), rfl, q⟩
def rM (K : PySem.W.Frag) (NM : Nms) (m : Mt) : V → List V → Hp → VK → Prop := fun x vs H Q => ∃ ρ S d ds, Gd K NM ρ S H ∧ Rep K NM ρ H d x ∧ RepL K NM ρ H ds vs ∧ Run K NM (rD1 K NM) WF ρ H ([] : L2.St) (mthD m d ds S) Q
theorem mthD_noex {m : Mt} {d : D} {ds : List D} {S : Sto} : ∀ e S', mthD m d ds S ≠ .ex e S' := by
  unfold mthD
  split <;> intro e S'
  · split
    · exact onlyIf_noex (fun e S' h => by cases h) e S'
    · intro h; cases h
  · split
    · exact onlyIf_noex (fun e S' h => by cases h) e S'
    · intro h; cases h
  · split
    · exact onlyIf_noex (fun e S' h => by cases h) e S'
    · intro h; cases h
  · split
    · split
      · intro h; cases h
      · intro h; cases h
    · intro h; cases h
  · refine onlyIf_noex (fun e S' => ?_) e S'
    split
    · intro h; cases h
    · intro h; cases h
  · split
    · exact onlyIf_noex ret_noex e S'
    · intro h; cases h
  · exact stuck_noex e S'
theorem put_lst {K : PySem.W.Frag} {ρ : List Addr} {S : Sto} {H : Hp} {n : Nat} {a : Addr} {xs ys : List D} {vs ws : List V} (g : Gd K NM ρ S H) (h : S[n]? = some (.lst xs)) (ha : ρ[n]? = some a) (hv : H a = some (.lst vs)) (r : RepL K NM ρ H ys ws) :
    Gd K NM ρ (S.set n (.lst ys)) (upd H a (.lst ws)) ∧ Le ρ H ρ (upd H a (.lst ws)) := by
  have ni : HExt H (upd H a (.lst ws)) := ⟨fun b w i e => by
      rw [upd_ne (fun z => by rw [z, hv] at e; cases e; exact i)]; exact e,
    fun b q' e => by rw [upd_ne (fun z => by rw [z, hv] at e; unfold LamX.CodeO at e; cases e)]; exact e⟩
  exact g.put h rfl rfl ha ⟨ws, upd_same, r.le (Le.heap ni)⟩
theorem cell_lst {K : PySem.W.Frag} {ρ : List Addr} {S : Sto} {H : Hp} {n : Nat} {a : Addr} {xs : List D} (g : Gd K NM ρ S H) (h : S[n]? = some (.lst xs)) (ha : ρ[n]? = some a) : ∃ vs, H a = some (.lst vs) ∧ RepL K NM ρ H xs vs := g.cell n _ a h ha
/-- what a method of a list needs of the receiver -/
theorem ty_lst {K : PySem.W.Frag} {H : Hp} {a : Addr} {vs : List V} (h : H a = some (.lst vs)) : tyV K "list" (.ref a) H := .inl ⟨rfl, vs, .of h⟩
theorem mt_appD : MtR X "list.append" (rM X.K NM .append) := by
  intro pins s σ H x xs v us Q I rx rv h
  obtain ⟨ρ, S, d, ds, g, rd, rs, q⟩ := h
  match d, ds, rd, rs, q with
  | .loc n, [y], rd, rs, q =>
    obtain ⟨p, rfl, hp⟩ := rep_loc rd
    obtain ⟨w, rfl, ry⟩ := repL1 rs
    have q : Run X.K NM (rD1 X.K NM) WF ρ H ([] : L2.St) (match S[n]? with
      | some (.lst xs) => (onlyIf (decide (xs.length < line)) (putC n (.lst (xs ++ [y])))) S
      | _ => .stk) Q := q
    split at q
    · rename_i ys hn
      obtain ⟨vs, h1, h2⟩ := cell_lst g hn hp
      obtain ⟨c, q⟩ := onlyIf_run q
      obtain ⟨g', l'⟩ := put_lst g hn hp h1 (h2.append (RepL.cons ry RepL.nil))
      exact mt_append pins s σ H _ _ v us Q I rx rv ⟨p, vs, w, rfl, rfl, h1, by rw [← line_eq, h2.length]; exact of_decide_eq_true c, q ρ _ _ l' g' mk_non⟩
    · exact q.elim
  | .loc n, [], _, _, q => exact q.elim
  | .loc n, _ :: _ :: _, _, _, q => exact q.elim
  | .non, _, _, _, q => exact q.elim
  | .bl _, _, _, _, q => exact q.elim
  | .int _, _, _, _, q => exact q.elim
  | .str _, _, _, _, q => exact q.elim
  | .tup _, _, _, _, q => exact q.elim
  | .fn _, _, _, _, q => exact q.elim
  | .exc _ _, _, _, _, q => exact q.elim
  | .clo _ _, _, _, _, q => exact q.elim
theorem mt_extD : MtR X "list.extend" (rM X.K NM .extend) := by
  intro pins s σ H x xs v us Q I rx rv h
  obtain ⟨ρ, S, d, ds, g, rd, rs, q⟩ := h
  match d, ds, rd, rs, q with
  | .loc n, [.tup zs], rd, rs, q =>
    obtain ⟨p, rfl, hp⟩ := rep_loc rd
    obtain ⟨w, rfl, ry⟩ := repL1 rs
    obtain ⟨b, ws, rfl, sq, r2⟩ := rep_tup ry
    have q : Run X.K NM (rD1 X.K NM) WF ρ H ([] : L2.St) (match S[n]? with
      | some (.lst xs) => (onlyIf (decide (xs.length + zs.length ≤ line)) (putC n (.lst (xs ++ zs)))) S
      | _ => .stk) Q := q
    split at q
    · rename_i ys hn
      obtain ⟨vs, h1, h2⟩ := cell_lst g hn hp
      obtain ⟨c, q⟩ := onlyIf_run q
      obtain ⟨g', l'⟩ := put_lst g hn hp h1 (h2.append r2)
      exact mt_extT pins s σ H _ _ v us Q I rx rv ⟨p, b, vs, ws, rfl, rfl, h1, sq, by rw [← line_eq, h2.length, r2.length]; exact of_decide_eq_true c, q ρ _ _ l' g' mk_non⟩
    · exact q.elim
  | .loc n, [.loc m], rd, rs, q =>
    obtain ⟨p, rfl, hp⟩ := rep_loc rd
    obtain ⟨w, rfl, ry⟩ := repL1 rs
    obtain ⟨b, rfl, hb⟩ := rep_loc ry
    have q : Run X.K NM (rD1 X.K NM) WF ρ H ([] : L2.St) (match S[n]?, S[m]? with
      | some (.lst xs), some (.lst ys) => (onlyIf (decide (xs.length + ys.length ≤ line)) (putC n (.lst (xs ++ ys)))) S
      | _, _ => .stk) Q := q
    split at q
    · rename_i ys zs hn hm
      obtain ⟨vs, h1, h2⟩ := cell_lst g hn hp
      obtain ⟨ws, h3, h4⟩ := cell_lst g hm hb
      obtain ⟨c, q⟩ := onlyIf_run q
      obtain ⟨g', l'⟩ := put_lst g hn hp h1 (h2.append h4)
      exact mt_extend pins s σ H _ _ v us Q I rx rv ⟨p, b, vs, ws, rfl, rfl, h1, h3, by rw [← line_eq, h2.length, h4.length]; exact of_decide_eq_true c, q ρ _ _ l' g' mk_non⟩
    · exact q.elim
  | .loc n, [.non], _, _, q => exact q.elim
  | .loc n, [.bl _], _, _, q => exact q.elim
  | .loc n, [.int _], _, _, q => exact q.elim
  | .loc n, [.str _], _, _, q => exact q.elim
  | .loc n, [.fn _], _, _, q => exact q.elim
  | .loc n, [.exc _ _], _, _, q => exact q.elim
  | .loc n, [.clo _ _], _, _, q => exact q.elim
  | .loc n, [], _, _, q => exact q.elim
  | .loc n, a :: _ :: _, _, _, q => cases a <;> exact q.elim
  | .non, _, _, _, q => exact q.elim
  | .bl _, _, _, _, q => exact q.elim
  | .int _, _, _, _, q => exact q.elim
  | .str _, _, _, _, q => exact q.elim
  | .tup _, _, _, _, q => exact q.elim
  | .fn _, _, _, _, q => exact q.elim
  | .exc _ _, _, _, _, q => exact q.elim
  | .clo _ _, _, _, _, q => exact q.elim
theorem repL_get_last {K : PySem.W.Frag} {ρ : List Addr} {H : Hp} {ds : List D} {vs : List V} {d : D} (r : RepL K NM ρ H ds vs) (h : ds[ds.length - 1]? = some d) : ∃ v, vs[vs.length - 1]? = some v ∧ Rep K NM ρ H d v := by
  rw [← r.length] at h
  exact r.get h
theorem mt_popD : MtR X "list.pop" (rM X.K NM .pop) := by
  intro pins s σ H x xs v us Q I rx rv h
  obtain ⟨ρ, S, d, ds, g, rd, rs, q⟩ := h
  match d, ds, rd, rs, q with
  | .loc n, [], rd, rs, q =>
    obtain ⟨p, rfl, hp⟩ := rep_loc rd
    simp only [RepL] at rs
    subst rs
    have q : Run X.K NM (rD1 X.K NM) WF ρ H ([] : L2.St) (match S[n]? with
      | some (.lst xs) => match xs[xs.length - 1]? with
        | some y => .ok y (S.set n (.lst xs.dropLast))
        | none => .stk
      | _ => .stk) Q := q
    split at q
    · rename_i ys hn
      split at q
      · rename_i y hy
        obtain ⟨vs, h1, h2⟩ := cell_lst g hn hp
        obtain ⟨w, h3, h4⟩ := repL_get_last h2 hy
        obtain ⟨g', l'⟩ := put_lst g hn hp h1 h2.dropLast
        exact mt_pop pins s σ H _ _ v us Q I rx rv ⟨p, vs, w, rfl, rfl, h1, h3, q ρ _ _ l' g' (h4.le l')⟩
      · exact q.elim
    · exact q.elim
  | .loc n, [.int i], rd, rs, q =>
    obtain ⟨p, rfl, hp⟩ := rep_loc rd
    obtain ⟨w, rfl, ry⟩ := repL1 rs
    have e2 := rep_int ry
    subst e2
    obtain ⟨hi, q⟩ := onlyIf_run q
    obtain rfl : i = 0 := of_decide_eq_true hi
    have q : Run X.K NM (rD1 X.K NM) WF ρ H ([] : L2.St) (match S[n]? with
      | some (.lst (y :: xs)) => .ok y (S.set n (.lst xs))
      | _ => .stk) Q := q
    split at q
    · rename_i y ys hn
      obtain ⟨vs, h1, h2⟩ := cell_lst g hn hp
      simp only [RepL] at h2
      obtain ⟨w, t, rfl, h3, h4⟩ := h2
      obtain ⟨g', l'⟩ := put_lst g hn hp h1 h4
      exact mt_popAt pins s σ H _ _ v us Q I rx rv ⟨p, w :: t, 0, 0, w, rfl, rfl, h1, by decide, by decide, by simp [seqIndex?], rfl, q ρ _ _ l' g' (h3.le l')⟩
    · exact q.elim
  | .loc n, [.non], _, _, q => exact q.elim
  | .loc n, [.bl _], _, _, q => exact q.elim
  | .loc n, [.tup _], _, _, q => exact q.elim
  | .loc n, [.loc _], _, _, q => exact q.elim
  | .loc n, [.str _], _, _, q => exact q.elim
  | .loc n, [.fn _], _, _, q => exact q.elim
  | .loc n, [.exc _ _], _, _, q => exact q.elim
  | .loc n, [.clo _ _], _, _, q => exact q.elim
  | .loc n, a :: b :: c, _, _, q => cases a <;> exact q.elim
  | .non, _, _, _, q => exact q.elim
  | .bl _, _, _, _, q => exact q.elim
  | .int _, _, _, _, q => exact q.elim
  | .str _, _, _, _, q => exact q.elim
  | .tup _, _, _, _, q => exact q.elim
  | .fn _, _, _, _, q => exact q.elim
  | .exc _ _, _, _, _, q => exact q.elim
  | .clo _ _, _, _, _, q => exact q.elim
theorem join_flat (x : Array Nat) : ∀ (ys : List Str) (acc : Array Nat), (ys.foldl (fun a (p : Str) => a ++ x ++ p.cps) acc).toList = acc.toList ++ (ys.flatMap fun y => x.toList ++ y.cps.toList)
  | [], acc => by simp
  | y :: ys, acc => by
    rw [List.foldl_cons, join_flat x ys]
    simp [List.append_assoc]
theorem inter_flat {α : Type} (x : List α) : ∀ (y : List α) (ys : List (List α)), x.intercalate (y :: ys) = y ++ ys.flatMap fun z => x ++ z
  | y, [] => by simp [List.intercalate]
  | y, z :: zs => by
    have := inter_flat x z zs
    simp only [List.intercalate, List.intersperse_cons₂, List.flatten_cons, List.flatMap_cons] at this ⊢
    rw [this]
    simp [List.append_assoc]
theorem joinD_eq (x : Str) (ys : List Str) : Txt.join x ys = joinD x ys := by
  unfold Txt.join joinD Builtin.Str.glued
  congr 1
  apply Array.ext'
  rw [join_flat]
  cases ys with
  | nil => rfl
  | cons y ys =>
    rw [List.map_cons, inter_flat]
    simp [List.flatMap_map]
theorem joinCost_eq (x : Str) : ∀ ys : List Str, joinCost x ys = (ys.map (·.length)).sum + ys.length * x.length
  | [] => by simp [joinCost]
  | y :: ys => by
    simp only [joinCost, List.map_cons, List.sum_cons, List.length_cons, joinCost_eq x ys, Nat.succ_mul]
    omega
theorem mt_joinD : MtR X "str.join" (rM X.K NM .join) := by
  intro pins s σ H x xs v us Q I rx rv h
  obtain ⟨ρ, S, d, ds, g, rd, rs, q⟩ := h
  match d, ds, rd, rs, q with
  | .str z, [.loc n], rd, rs, q =>
    have e := rep_str rd
    subst e
    obtain ⟨w, rfl, ry⟩ := repL1 rs
    have q : Run X.K NM (rD1 X.K NM) WF ρ H ([] : L2.St) (match (asL S (.loc n)).bind strsOf with
      | some ys => (onlyIf (decide (joinCost z ys ≤ line)) (Ev.ret (.str (joinD z ys)))) S
      | none => .stk) Q := q
    split at q
    · rename_i ys e
      obtain ⟨ds, e1, e2⟩ := Option.bind_eq_some_iff.mp e
      obtain ⟨p, vs, rfl, sq, r2⟩ := asL_some g e1 ry
      rw [strs_eq e2 r2] at sq
      obtain ⟨c, q⟩ := onlyIf_run q
      have c2 := of_decide_eq_true c
      rw [joinCost_eq] at c2
      rw [← joinD_eq] at q
      exact mt_join pins s σ H _ _ v us Q I rx rv ⟨z, p, ys, rfl, rfl, .inl sq, c2, q.ret g (mk_str _)⟩
    · exact q.elim
  | .str _, [.non], _, _, q => exact q.elim
  | .str _, [.bl _], _, _, q => exact q.elim
  | .str _, [.int _], _, _, q => exact q.elim
  | .str _, [.str _], _, _, q => exact q.elim
  | .str _, [.tup _], _, _, q => exact q.elim
  | .str _, [.fn _], _, _, q => exact q.elim
  | .str _, [.exc _ _], _, _, q => exact q.elim
  | .str _, [.clo _ _], _, _, q => exact q.elim
  | .str _, [], _, _, q => exact q.elim
  | .str _, a :: _ :: _, _, _, q => cases a <;> exact q.elim
  | .loc _, _, _, _, q => exact q.elim
  | .non, _, _, _, q => exact q.elim
  | .bl _, _, _, _, q => exact q.elim
  | .int _, _, _, _, q => exact q.elim
  | .tup _, _, _, _, q => exact q.elim
  | .fn _, _, _, _, q => exact q.elim
  | .exc _ _, _, _, _, q => exact q.elim
  | .clo _ _, _, _, _, q => exact q.elim
end
end QV
set_option maxRecDepth 100000
set_option maxHeartbeats 4000000
/-! Q6: isinstance by trees, of exceptions that are kept too. -/
namespace QV
open PySem PySem.Spec PySem.Calls PyProof.Rows L2 PySem.W
section
variable {prog : Program} {w : World} {A : Around} {Ex : Value → Shared → Prop} {s : Shared} {K : PySem.W.Frag} {e D : Addr} {oe : Obj} {od : Option Obj}
theorem found_cls (C : ExcC K D) : findObj K D od "__class__" = some (.bind (.builtin "getset_descriptor.__get__") (.builtin "object.__class__")) := by
  obtain ⟨cd, q, _⟩ := any_some C.hd
  have t := C.ht
  have u := C.hn
  unfold findObj
  rw [q, Option.bind_some, C.ha, Option.bind_some]
  simp [t, u]
/-- e.__class__ of an exception of an own class, with a dict or without -/
theorem cls_of_exc {Q : Option Value → Shared → Prop} (C : ExcC K D) (kin : K.In s.heap) (at_ : InstAt s.heap e oe D od) (q : Q (some (.ref D)) { s with toks := s.toks + 1 }) :
    wpAny (model prog w) A (getAttr? (.ref e) "__class__") Q Ex s := by
  have found := found_cls (od := od) C
  obtain ⟨hh, gg, dw, tt, oo⟩ := s
  have ty := at_.type (M := model prog w)
  have ga := looks_findIn (M := model prog w) kin C.hg
  have gt := looks_findIn (M := model prog w) kin C.hk
  have fo := looks_find (M := model prog w) kin at_ found
  have isx : Looks (model prog w) hh (isInstance (.ref e) (.type "BaseException")) true := ty.andThen (looks_subIn kin C.hs)
  have n1 : (Value.builtin "BaseException.__getattribute__" == Value.builtin "object.__getattribute__") = false := by decide +kernel
  have n2 : (onTheHeap (Value.ref D) && Value.builtin "BaseException.__getattribute__" == Value.builtin "object.__getattribute__") = false := by rw [n1]; rfl
  have n3 : (false && onTheHeap (Value.builtin "BaseException.__getattribute__")) = false := rfl
  unfold getAttr? getAttrBy? getAttrBy
  refine wpAny_bind (wpAny_mkText (wpAny_bind (wpAny_attempt (wpAny_holding (wpAny_bind (ty.at (wpAny_bind (ga.at ?_))))))))
  show wpAny _ _ (if (onTheHeap (Value.ref D) && Value.builtin "BaseException.__getattribute__" == Value.builtin "object.__getattribute__") = true then _ else _) _ _ _
  rw [n2, if_neg (by decide)]
  unfold getAttrByItsOwn hookBefore
  refine wpAny_bind ?_
  rw [if_pos (by rfl : onTheHeap (Value.ref D) = true)]
  refine gt.at (wpAny_bind (wpAny_attempt (wpAny_holding ?_)))
  unfold callGetattribute
  rw [n3, if_neg (by decide)]
  unfold boundAndCalled
  rw [PySem.F.excAttr_ValueError.ga.bind (.ref e)]
  refine wpAny_bind (wpAny_pure ?_)
  show wpAny _ _ (call (.builtin "BaseException.__getattribute__") [.ref e, .str "__class__" tt]) _ _ _
  refine wpAny_call (codeAny_call_builtin PySem.F.excAttr_ValueError.ga.plain PySem.F.entry_bexc_ga ?_)
  refine @check_slot (model prog w) _ _ ⟨hh, gg, dw, tt + 1, oo⟩ "BaseException.__getattribute__" "BaseException" "__getattribute__" (.ref e) [.str "__class__" tt] [] _ (by decide +kernel) (by decide +kernel) isx (PySem.F.args_bexc_ga (.ref e) (.str "__class__" tt)) ?_
  unfold Builtin.«object.__getattribute__»
  refine wpAny_bind (wpAny_of_eq (a := ((Value.ref e : Value), [Value.str "__class__" tt])) (by first | rfl | (simp only [slotArgs]; rfl)) ?_)
  refine wpAny_bind (wpAny_pure (wpAny_bind (ty.at (wpAny_bind (fo.at ?_)))))
  show wpAny _ _ (holding [Value.builtin "object.__class__"] (call (.builtin "getset_descriptor.__get__") [.builtin "object.__class__", .ref e, .ref D]) >>= ret) _ _ _
  refine wpAny_bind (wpAny_holding (wpAny_call (class_get (s := ⟨hh, gg, dw, tt + 1, oo⟩) (ox := oe) (od := od) kin at_ C.hm ?_)))
  refine wpAny_pure ?_
  show wpAny _ _ (handedOut (.ref D)) _ _ _
  rw [handedOut_of (v := .ref D) rfl]
  first
    | exact wpAny_pure (wpAny_pure q)
    | exact wpAny_pure q
    | exact wpAny_pure (wpAny_bind (wpAny_pure (wpAny_pure q)))
theorem kit_exc (C : ExcC K D) : KitX K (.ref e) (.ref D) (fun h => InstAt h e oe D od) where
  ty := fun _ _ _ a => a.type
  it := fun M h kin _ => by
    obtain ⟨cd, q, _⟩ := any_some C.hd
    unfold clsIn at q
    split at q
    · rename_i k1 k2 k3 k4 lk
      intro A1 Q1 E1 s1 st z
      unfold isType loadHead
      exact wpAny_bind (wpAny_loadPart (st _ _ (kin _ _ lk)) (wpAny_pure z))
    · cases q
  ne := fun h tp dd its n sl kin lt => by
    obtain ⟨cd, q, _⟩ := any_some C.hd
    rw [Bool.eq_false_iff]
    intro z
    obtain rfl : D = tp := Value.ref.inj (beq_iff_eq.mp z)
    unfold clsIn at q
    split at q
    · rename_i k1 k2 k3 k4 lk
      cases (kin _ _ lk).symm.trans lt
    · cases q
  ca := fun kin a q => cls_of_exc C kin a q
end
section
variable {X : Cx} {NM : Nms}
/-- the value's class, by trees -/
def tyD (K : PySem.W.Frag) (NM : Nms) (S : Sto) : D → Option Value
  | .non => some (.type "NoneType")
  | .bl _ => some (.type "bool")
  | .int _ => some (.type "int")
  | .str _ => some (.type "str")
  | .tup _ => some (.type "tuple")
  | .loc n => match S[n]? with
    | some (.lst _) => some (.type "list")
    | some (.dic _) => some (.type "dict")
    | _ => none
  | .exc k _ => some (.ref (clA K NM k))
  | _ => none
theorem kit_rep {pins : List (Addr × Obj)} {σ : L2.St} {s : Shared} {H : Hp} {ρ : List Addr} {S : Sto} {d : D} {v : V} {u t : Value} (I : Inv X pins σ H s) (ec : ∀ k, k < NM.excs.length → ExcC X.K (clA X.K NM k)) (g : Gd X.K NM ρ S H) (rd : Rep X.K NM ρ H d v) (rv : RelV v u) (e : tyD X.K NM S d = some t) :
    ∃ P : Heap → Prop, KitX X.K u t P ∧ P s.heap ∧ u ≠ .builtin "__main__.__loader__#opaque" := by
  cases d with
  | non => cases e; rw [rep_non rd] at rv; exact kit_of I rv (.base .non)
  | bl b => cases e; rw [rep_bl rd] at rv; exact kit_of I rv (.base (.bl b))
  | int b => cases e; rw [rep_int rd] at rv; exact kit_of I rv (.base (.int b))
  | str b => cases e; rw [rep_str rd] at rv; exact kit_of I rv (.base (.str b))
  | tup xs =>
    cases e
    obtain ⟨a, vs, rfl, sq, _⟩ := rep_tup rd
    rcases sq with (h | ⟨o, h⟩) | ⟨o, its, n, h, hc, _⟩
    · exact kit_of I rv (.base (.tup h))
    · exact kit_of I rv (.fTuple h)
    · exact kit_of I rv (.kTuple h hc)
  | loc n =>
    obtain ⟨a, rfl, ha⟩ := rep_loc rd
    simp only [tyD] at e
    split at e
    · rename_i xs hn
      cases e
      obtain ⟨vs, h1, _⟩ := g.cell n _ a hn ha
      exact kit_of I rv (.base (.lst h1))
    · rename_i xs hn
      cases e
      obtain ⟨vs, h1, _⟩ := g.cell n _ a hn ha
      exact kit_of I rv (.base (.dK h1))
    · cases e
  | fn k => cases e
  | exc k fs =>
    cases e
    simp only [Rep] at rd
    obtain ⟨hk, a, oe, us, rfl, h1, h2, h3, h4⟩ := rd
    obtain rfl : u = Value.ref a := rv
    obtain ⟨hoe, _⟩ := (show ObjOk X.prog X.w H s.heap a (.frz oe (.own 0)) from I.hok a _ h1)
    have nc : notCls oe = true := by
      obtain ⟨oc, odd, oda, osl⟩ := oe
      have h3 : oda = .fields us := h3
      subst h3
      rfl
    rcases h4 with ⟨_, h4⟩ | ⟨dx, gs, e1, e2, _⟩
    · exact ⟨_, kit_exc (oe := oe) (od := none) (ec k hk), ⟨hoe, h2, nc, by rw [h4]; exact trivial⟩, fun z => nomatch z⟩
    · obtain ⟨mA, nsA, _⟩ := (show ObjOk X.prog X.w H s.heap dx (.xd gs) from I.hok dx _ e2)
      obtain ⟨ob, hob, _⟩ := lookIn_ns nsA
      exact ⟨_, kit_exc (oe := oe) (od := some ob) (ec k hk), ⟨hoe, h2, nc, by rw [e1]; exact hob⟩, fun z => nomatch z⟩
  | clo _ _ => cases e
/-- a class that isinstance asks of, as a value -/
def tyV1 (K : PySem.W.Frag) (NM : Nms) : Ty → V
  | .int => .ty "int"
  | .str => .ty "str"
  | .bool => .ty "bool"
  | .list => .ty "list"
  | .tuple => .ty "tuple"
  | .dict => .ty "dict"
  | .own k => .ref (clA K NM k)
def tyU1 (K : PySem.W.Frag) (NM : Nms) : Ty → Value
  | .int => .type "int"
  | .str => .type "str"
  | .bool => .type "bool"
  | .list => .type "list"
  | .tuple => .type "tuple"
  | .dict => .type "dict"
  | .own k => .ref (clA K NM k)
theorem ty_cls (K : PySem.W.Frag) (t : Ty) : ClsV (tyV1 K NM t) (tyU1 K NM t) := by cases t <;> first | exact .ty _ | exact .own _
theorem ty_all (K : PySem.W.Frag) : ∀ ts : List Ty, Paired ClsV (ts.map (tyV1 K NM)) (ts.map (tyU1 K NM))
  | [] => .nil
  | t :: ts => .cons (ty_cls K t) (ty_all K ts)
theorem kit_bb {K : PySem.W.Frag} {a b : String} {r : Bool} (h : kitB a b = some r) : kitOne K (.type a) (.type b) = some r := kit_ty h
theorem isiD_kit {K : PySem.W.Frag} {ρ : List Addr} {H : Hp} {S : Sto} {d : D} {v : V} {t : Ty} {b : Bool} (own : ∀ k j, t = .own j → k < NM.excs.length → kitOne K (.ref (clA K NM k)) (.ref (clA K NM j)) = some (decide (k = j)))
    (r : Rep K NM ρ H d v) (e : isiD S d t = some b) : ∃ c, tyD K NM S d = some c ∧ kitOne K c (tyU1 K NM t) = some b := by
  cases d with
  | non => cases t <;> first | (cases e; done) | (cases e; exact ⟨_, rfl, kit_bb (by decide +kernel)⟩)
  | bl x => cases t <;> first | (cases e; done) | (cases e; exact ⟨_, rfl, kit_bb (by decide +kernel)⟩)
  | int x => cases t <;> first | (cases e; done) | (cases e; exact ⟨_, rfl, kit_bb (by decide +kernel)⟩)
  | str x => cases t <;> first | (cases e; done) | (cases e; exact ⟨_, rfl, kit_bb (by decide +kernel)⟩)
  | tup x => cases t <;> first | (cases e; done) | (cases e; exact ⟨_, rfl, kit_bb (by decide +kernel)⟩)
  | loc n =>
    have e : (match t with
      | .own _ => none
      | t => (match S[n]? with
        | some (.lst _) => some (decide (t = .list))
        | some (.ro _) => none
        | some (.dic _) => some (decide (t = .dict))
        | none => none)) = some b := by cases t <;> exact e
    simp only [tyD]
    cases hn : S[n]? with
    | none => rw [hn] at e; cases t <;> cases e
    | some c =>
      rw [hn] at e
      cases c with
      | lst xs => cases t <;> first | (cases e; done) | (cases e; exact ⟨_, rfl, kit_bb (by decide +kernel)⟩)
      | ro xs => cases t <;> cases e
      | dic xs => cases t <;> first | (cases e; done) | (cases e; exact ⟨_, rfl, kit_bb (by decide +kernel)⟩)
  | fn k => cases t <;> cases e
  | exc k fs =>
    simp only [Rep] at r
    cases t with
    | own j =>
      have e : some (decide (k = j)) = some b := e
      cases e
      exact ⟨_, rfl, own k j rfl r.1⟩
    | _ => cases e
  | clo _ _ => cases t <;> cases e
theorem isiAny_kit {K : PySem.W.Frag} {ρ : List Addr} {H : Hp} {S : Sto} {d : D} {v : V} (r : Rep K NM ρ H d v) : ∀ {ts : List Ty} {b : Bool}, (∀ t ∈ ts, ∀ k j, t = .own j → k < NM.excs.length → kitOne K (.ref (clA K NM k)) (.ref (clA K NM j)) = some (decide (k = j))) →
    isiAny S d ts = some b → ts ≠ [] → ∃ c, tyD K NM S d = some c ∧ kitAny K c (ts.map (tyU1 K NM)) = some b
  | [], _, _, _, n => absurd rfl n
  | [t], b, own, e, _ => by
    simp only [isiAny] at e
    cases h : isiD S d t with
    | none => rw [h] at e; cases e
    | some k =>
      rw [h] at e
      obtain ⟨c, h1, h2⟩ := isiD_kit (own t List.mem_cons_self) r h
      refine ⟨c, h1, ?_⟩
      cases k with
      | true => cases e; exact kitAny_cons h2 (fun z => by cases z) (fun _ => rfl)
      | false => cases e; exact kitAny_cons h2 (fun _ => kitAny_nil) (fun z => by cases z)
  | t :: u :: ts, b, own, e, _ => by
    have e : (match isiD S d t with
      | some true => some true
      | some false => isiAny S d (u :: ts)
      | none => none) = some b := e
    cases h : isiD S d t with
    | none => rw [h] at e; cases e
    | some k =>
      rw [h] at e
      obtain ⟨c, h1, h2⟩ := isiD_kit (own t List.mem_cons_self) r h
      cases k with
      | true => cases e; exact ⟨c, h1, kitAny_cons h2 (fun z => by cases z) (fun _ => rfl)⟩
      | false =>
        obtain ⟨c', h3, h4⟩ := isiAny_kit (ts := u :: ts) r (fun t ht => own t (List.mem_cons_of_mem _ ht)) e (by simp)
        rw [h1] at h3
        cases h3
        exact ⟨c, h1, kitAny_cons h2 (fun _ => h4) (fun z => by cases z)⟩
/-- isinstance(x, c); isinstance(x, (c, ..)) -/
def rI1 (K : PySem.W.Frag) (NM : Nms) : List V → Hp → VK → Prop := fun xs H Q => ∃ (ρ : List Addr) (S : Sto) (d : D) (x c : V) (t u : Value) (b : Bool), xs = [x, c] ∧ ClsV c u ∧ Gd K NM ρ S H ∧ Rep K NM ρ H d x ∧ tyD K NM S d = some t ∧ kitOne K t u = some b ∧ Q (.bl b) H
def rI2 (K : PySem.W.Frag) (NM : Nms) : List V → Hp → VK → Prop := fun xs H Q => ∃ (ρ : List Addr) (S : Sto) (d : D) (x : V) (tp : Addr) (cs : List V) (t : Value) (us : List Value) (b : Bool), xs = [x, .ref tp] ∧ H tp = some (.tup cs) ∧ Paired ClsV cs us ∧
  Gd K NM ρ S H ∧ Rep K NM ρ H d x ∧ tyD K NM S d = some t ∧ kitAny K t us = some b ∧ Q (.bl b) H
theorem call_i1 (ec : ∀ k, k < NM.excs.length → ExcC X.K (clA X.K NM k)) : CallR X (.builtin "isinstance") (rI1 X.K NM) := by
  intro pins s σ H xs us Q I rs h
  obtain ⟨ρ, S, d, x, c, t, u, b, rfl, k, g, rd, e1, e2, q⟩ := h
  obtain ⟨p1, p2, rfl, r1, r2⟩ := vals2 rs
  obtain rfl := k.eq r2
  obtain ⟨P, Z, hp, hx⟩ := kit_rep I ec g rd r1 e1
  exact kia_one Z I.kIn hp e2 hx fun n => ⟨.bl b, H, I.tok n, rfl, q⟩
theorem call_i2 (ec : ∀ k, k < NM.excs.length → ExcC X.K (clA X.K NM k)) : CallR X (.builtin "isinstance") (rI2 X.K NM) := by
  intro pins s σ H xs us Q I rs h
  obtain ⟨ρ, S, d, x, tp, cs, t, ws, b, rfl, hT, k, g, rd, e1, e2, q⟩ := h
  obtain ⟨p1, p2, rfl, r1, r2⟩ := vals2 rs
  obtain rfl : p2 = Value.ref tp := r2
  obtain ⟨P, Z, hp, hx⟩ := kit_rep I ec g rd r1 e1
  obtain ⟨_, its, rv, ⟨oc, od, dt, sl⟩, h1, h2, n, h3⟩ := (show ObjOk X.prog X.w H s.heap tp (.tup cs) from I.hok tp _ hT)
  obtain rfl := ClsV.all k rv
  cases h2
  cases h3
  exact kia_tup Z I.kIn hp h1 e2 hx fun n => ⟨.bl b, H, I.tok n, rfl, q⟩
end
end QV
set_option maxRecDepth 100000
set_option maxHeartbeats 4000000
/-! Q7: the judgement; expressions. -/
namespace QV
open PySem PySem.Spec PyProof.Rows L2

/-- the module by trees -/
structure Fx (NM : Nms) (T : CT) (K : PySem.W.Frag) (mg : Str → Option Value) : Prop where
  gint : ∀ x i, T.numC.lookup x = some i → ∃ t, mg x = some (.int i t)
  gtxt : ∀ x z, T.txtC.lookup x = some z → ∃ t, mg x = some (.str z t)
  gblt : ∀ x ∈ T.blt, mg x = none
  gdef : ∀ x k, ix T.defs x = some k → mg x = some (.ref (fnA K NM k)) ∧ PySem.W.keepIn K (.ref (fnA K NM k)) = true
  gexc : ∀ x k, ix T.excs x = some k → mg x = some (.ref (clA K NM k))
  len : NM.excs.length = T.excs.length
  isx : ∀ k, k < NM.excs.length → ExcC K (clA K NM k)
  nof : ∀ k f, k < NM.excs.length → f ∈ T.flds → PySem.W.findIn K (.ref (clA K NM k)) f = some none
  kit : ∀ k j, k < NM.excs.length → j < NM.excs.length → j ≠ T.root → PySem.W.kitOne K (.ref (clA K NM k)) (.ref (clA K NM j)) = some (decide (k = j))
/-- the arguments of a call: by place, or one by its name -/
inductive AOk (T : CT) : D → Args → List Value → Prop
  | pos (f : D) (us : List Value) : AOk T f ⟨us, []⟩ us
  | kw (k : Nat) (p : Str) (u : Value) : T.pars[k]? = some [p] → AOk T (.fn k) ⟨[], [(p, u)]⟩ [u]
/-- what the calls of defs and of closures keep -/
def CallOk (NM : Nms) (T : CT) (P : Program) (w : World) (K : PySem.W.Frag) (mg : Str → Option Value) (base : Heap) (k : Nat) (orc : Orc) : Prop :=
  ∀ (A : Around) (outer : List Env) (s : Shared) (H : Hp) (f : D) (ds : List D) (fv : V) (vs : List V) (fu : Value) (us : List Value) (args : Args) (ρ : List Addr) (S : Sto) (Q : VK) (E : XK), Room k A → A.guards = some [] → Env0 P w K mg base A outer s H → Gd K NM ρ S H →
    AR K NM base T ρ H f fv → RelV fv fu → ARL K NM base T ρ H ds vs → Vals vs us → AOk T f args us → Run K NM (rD1 K NM) (fun cls dd _ H => E cls dd H) ρ H ([] : L2.St) (orc f ds S) Q →
    codeAny (model P w) A (.call fu args) (CR (L2.CX P w) outer P w H s Q E) s
/-- where lambdas are made -/
structure LamX1 (NM : Nms) (X : Cx) : Prop where
  cel : ∀ x c, X.env.cells.lookup x = some c → X.base.get? c = none ∧ c ∉ frs X.stack
  tab : ∃ cc PP, LamX.TabB X.base X.mg cc PP ∧ X.env.code = .ref cc ∧ (PP, X.env.qual ++ "<lambda>") ∈ NM.tabs ∧ ∀ p ∈ NM.tabs, p.1 = PP → p.2 = X.env.qual ++ "<lambda>"
/-- the context in which a text runs. N: the names of the slots; sc: the block's scope; q: 0 in an except suite, 2 where lambdas are made -/
structure XO (NM : Nms) (T : CT) (orc : Orc) (k : Nat) (q : Nat) (N : List Str) (sc : Scope) (X : Cx) (W : WX) : Prop where
  fx : Fx NM T X.K X.mg
  mor : NM.mor X.prog X.K X.mg
  call : CallOk NM T X.prog X.w X.K X.mg X.base k orc
  nm : X.N = N
  nd : N.Nodup
  sc : X.env.scope = sc
  un : X.A.units + 100 < cLine
  calm : q ≠ 0 → X.calm = true
  room : q ≠ 0 → Room (k + 2) X.A
  gd : q ≠ 0 → X.A.guards = some []
  tk : Takes X W
  lam : q = 2 → LamX1 NM X
section
variable (K : PySem.W.Frag) (NM : Nms) (base : Heap) (T : CT) (W : WX)
/-- a reading by the evaluator -/
def tG {α β : Type} (R : RL α β) (m : En → Ev α) (σ : L2.St) (H : Hp) (Q : β → Hp → Prop) : Prop :=
  ∃ ρ env S, Gd K NM ρ S H ∧ EnvR K NM base T ρ H env σ ∧ Run K NM R W ρ H σ (m env S) Q
end
section
variable {K : PySem.W.Frag} {NM : Nms} {base : Heap} {T : CT} {W : WX} {α β γ δ : Type} {R : RL α β} {R2 : RL γ δ} {ρ : List Addr} {H : Hp} {σ : L2.St} {S : Sto} {env : En} {m : En → Ev α}
theorem tG.imp {Q Q' : β → Hp → Prop} (h : tG K NM base T W R m σ H Q) (k : ∀ b H', Q b H' → Q' b H') : tG K NM base T W R m σ H Q' := by
  obtain ⟨ρ, env, S, g, er, r⟩ := h
  exact ⟨ρ, env, S, g, er, r.imp k⟩
theorem go {f : α → Ev γ} {Q : δ → Hp → Prop} (g : Gd K NM ρ S H) (er : EnvR K NM base T ρ H env σ) (h : Run K NM R2 W ρ H σ ((Ev.bind (m env) (f)) S) Q) :
    tG K NM base T W R m σ H (fun b H1 => ∃ ρ1 S1 a, Le ρ H ρ1 H1 ∧ Gd K NM ρ1 S1 H1 ∧ R ρ1 H1 a b ∧ Run K NM R2 W ρ1 H1 σ (f a S1) Q) := ⟨ρ, env, S, g, er, h.bind⟩
end
theorem PE.of {X : Cx} {e : Expr} {t t' : TE} (h : PE X e t) (k : ∀ σ H Q, t' σ H Q → t σ H Q) : PE X e t' := ⟨fun pins s σ H Q I r => h.run pins s σ H Q I (k _ _ _ r)⟩
theorem PT.of {X : Cx} {e : Expr} {t t' : TT} (h : PT X e t) (k : ∀ σ H Q, t' σ H Q → t σ H Q) : PT X e t' := ⟨fun pins s σ H Q I r => h.run pins s σ H Q I (k _ _ _ r)⟩
theorem PW.of {X : Cx} {e : Expr} {t t' : TT} (h : PW X e t) (k : ∀ σ H Q, t' σ H Q → t σ H Q) : PW X e t' := ⟨fun wh pins s σ H Q I r => h.run wh pins s σ H Q I (k _ _ _ r)⟩
theorem PA.of {X : Cx} {es : List Expr} {t t' : TA} (h : PA X es t) (k : ∀ σ H Q, t' σ H Q → t σ H Q) : PA X es t' := ⟨fun p pins s σ H Q I r => h.run p pins s σ H Q I (k _ _ _ r)⟩
theorem PO.of {X : Cx} {e : Option Expr} {t t' : TO} (h : PO X e t) (k : ∀ σ H Q, t' σ H Q → t σ H Q) : PO X e t' := ⟨fun pins s σ H Q I r => h.run pins s σ H Q I (k _ _ _ r)⟩
section
variable (X : Cx) (NM : Nms) (T : CT) (W : WX)
abbrev tV (m : En → Ev D) : TE := tG X.K NM X.base T W (rD1 X.K NM) m
abbrev tL (m : En → Ev (List D)) : TA := tG X.K NM X.base T W (rDL X.K NM) m
abbrev tT (m : En → Ev Bool) : TT := tG X.K NM X.base T W rEq m
abbrev tO (m : En → Ev (Option Int)) : TO := tG X.K NM X.base T W rEq m
end
section
variable {X : Cx} {NM : Nms} {T : CT} {W : WX} {a b c e : Expr} {es : List Expr} {ma mb mc : En → Ev D} {pos : Pos}
theorem pe_stk {e : Expr} {f : En → Ev D} (h : ∀ env S, f env S = .stk) : PE X e (tV X NM T W f) := ⟨fun pins s σ H Q I r => by
  obtain ⟨ρ, env, S, g, er, r⟩ := r
  rw [h] at r
  exact r.elim⟩
theorem s_ret {d : D} {v : V} (h : PE X e (tC v)) (r : ∀ ρ H, Rep X.K NM ρ H d v) : PE X e (tV X NM T W fun _ => Ev.ret d) := PE.of h fun σ H Q ⟨ρ, env, S, g, er, q⟩ => q.ret g (r ρ H)
theorem s_var {i : Nat} {x : Str} (hN : X.N[i]? = some x) (hv : Vis X.env.scope x) (h1 : okName x = true) : PE X (.Name x pos) (tV X NM T W fun env => match env[i]? with
    | some (some (.clo _ _)) => Ev.stuck
    | some (some d) => Ev.ret d
    | _ => Ev.stuck) := by
  unfold okName at h1
  simp only [Bool.and_eq_true, Bool.not_eq_true', decide_eq_false_iff_not] at h1
  refine PE.of (pe_var hN hv (beq_eq_false_iff_ne.mpr h1.1) (beq_eq_false_iff_ne.mpr h1.2)) fun σ H Q ⟨ρ, env, S, g, er, q⟩ => ?_
  dsimp only at q
  rcases he : env[i]? with _ | _ | d
  · rw [he] at q
    exact q.elim
  · rw [he] at q
    exact q.elim
  · rw [he] at q
    obtain ⟨v, h2, h3⟩ := er.get he
    cases d <;> first | exact q.elim | exact ⟨v, h2, Run.ret q g (AR.rep (fun b e z => nomatch z) h3)⟩
theorem s_bin {op : Operator} {o : Op} (ho : OpR X (binaryOp op) (rD X.K NM (opD o))) (ha : PE X a (tV X NM T W ma)) (hb : PE X b (tV X NM T W mb)) :
    PE X (.BinOp a op b pos) (tV X NM T W fun env => Ev.bind (ma env) fun x => Ev.bind (mb env) fun y => opD o x y) :=
  PE.of (pe_op ho ha hb) fun σ H Q ⟨ρ, env, S, g, er, q⟩ => (go g er q).imp fun x H1 ⟨ρ1, S1, d, l1, g1, r1, q1⟩ => (go g1 (er.le l1) q1).imp fun y H2 ⟨ρ2, S2, d2, l2, g2, r2, q2⟩ =>
    ⟨ρ2, S2, d, d2, g2, Rep.le l2 r1, r2, q2.noex opD_noex _⟩
theorem s_neg (ha : PE X a (tV X NM T W ma)) : PE X (.UnaryOp .USub a pos) (tV X NM T W fun env => Ev.bind ((Ev.ret (.int 0) : Ev D)) fun x => Ev.bind (ma env) fun y => opD .sub x y) :=
  PE.of (pe_un un_neg ha) fun σ H Q ⟨ρ, env, S, g, er, q⟩ => by
    have q : Run X.K NM (rD1 X.K NM) W ρ H σ ((Ev.bind (ma env) fun y => opD .sub (.int 0) y) S) Q := q
    refine (go g er q).imp fun y H2 ⟨ρ2, S2, d2, l2, g2, r2, q2⟩ => ?_
    cases d2 <;> first | exact q2.elim | skip
    rename_i i
    have e := rep_int r2
    subst e
    have q3 := q2.ret g2 (mk_int (0 - i))
    rw [Int.zero_sub] at q3
    exact ⟨i, rfl, q3⟩
theorem s_not (ha : PE X a (tV X NM T W ma)) : PE X (.UnaryOp .Not a pos) (tV X NM T W fun env => Ev.bind (ma env) fun x => Ev.bind (asBl x) fun k => Ev.ret (.bl (!k))) :=
  PE.of (pe_not ha) fun σ H Q ⟨ρ, env, S, g, er, q⟩ => (go g er q).imp fun y H2 ⟨ρ2, S2, d2, l2, g2, r2, q2⟩ => by
    cases d2 <;> first | exact q2.elim | skip
    have e := rep_bl r2
    subst e
    have q2 : Run X.K NM (rD1 X.K NM) W ρ2 H2 σ (Ev.ret (.bl (!_)) S2) Q := q2
    exact ⟨_, rfl, q2.ret g2 (mk_bl _)⟩
theorem s_and {rest : List Expr} {op} (ha : PE X a (tV X NM T W ma)) (hb : PE X (.BoolOp .And (b :: rest) op) (tV X NM T W mb)) : PE X (.BoolOp .And (a :: b :: rest) op) (tV X NM T W fun env => Ev.bind (ma env) fun x => Ev.bind (asBl x) fun k => match k with
    | true => mb env
    | false => Ev.ret (.bl false)) :=
  PE.of (pe_and ha hb) fun σ H Q ⟨ρ, env, S, g, er, q⟩ => (go g er q).imp fun y H2 ⟨ρ2, S2, d2, l2, g2, r2, q2⟩ => by
    cases d2 <;> first | exact q2.elim | skip
    rename_i k
    have e := rep_bl r2
    subst e
    cases k with
    | true => exact ⟨true, rfl, (if_pos rfl).mpr ⟨ρ2, env, S2, g2, er.le l2, q2⟩⟩
    | false =>
      have q2 : Run X.K NM (rD1 X.K NM) W ρ2 H2 σ (Ev.ret (.bl false) S2) Q := q2
      exact ⟨false, rfl, (if_neg (by decide)).mpr (q2.ret g2 (mk_bl _))⟩
theorem s_or {rest : List Expr} {op} (ha : PE X a (tV X NM T W ma)) (hb : PE X (.BoolOp .Or (b :: rest) op) (tV X NM T W mb)) : PE X (.BoolOp .Or (a :: b :: rest) op) (tV X NM T W fun env => Ev.bind (ma env) fun x => Ev.bind (asBl x) fun k => match k with
    | true => Ev.ret (.bl true)
    | false => mb env) :=
  PE.of (pe_or ha hb) fun σ H Q ⟨ρ, env, S, g, er, q⟩ => (go g er q).imp fun y H2 ⟨ρ2, S2, d2, l2, g2, r2, q2⟩ => by
    cases d2 <;> first | exact q2.elim | skip
    rename_i k
    have e := rep_bl r2
    subst e
    cases k with
    | false => exact ⟨false, rfl, (if_neg (by decide)).mpr ⟨ρ2, env, S2, g2, er.le l2, q2⟩⟩
    | true =>
      have q2 : Run X.K NM (rD1 X.K NM) W ρ2 H2 σ (Ev.ret (.bl true) S2) Q := q2
      exact ⟨true, rfl, (if_pos rfl).mpr (q2.ret g2 (mk_bl _))⟩
theorem s_ife {mt : En → Ev Bool} (hc : PT X c (tT X NM T W mt)) (ha : PE X a (tV X NM T W ma)) (hb : PE X b (tV X NM T W mb)) : PE X (.IfExp c a b pos) (tV X NM T W fun env => Ev.bind (mt env) fun k => match k with
    | true => ma env
    | false => mb env) :=
  PE.of (pe_ifExp hc ha hb) fun σ H Q ⟨ρ, env, S, g, er, q⟩ => (go g er q).imp fun k H2 ⟨ρ2, S2, k', l2, g2, (ek : k' = k), q2⟩ => by
    subst ek
    cases k' with
    | true => exact (if_pos rfl).mpr ⟨ρ2, env, S2, g2, er.le l2, q2⟩
    | false => exact (if_neg (by decide)).mpr ⟨ρ2, env, S2, g2, er.le l2, q2⟩
theorem s_cmp {op : CmpOp} {o : Cm} (ho : OpR X (compareOp op) (rD X.K NM (cmD o))) (ha : PE X a (tV X NM T W ma)) (hb : PE X b (tV X NM T W mb)) (hm : behindInMarks op b = false) :
    PE X (.Compare a [op] [b] pos) (tV X NM T W fun env => Ev.bind (ma env) fun x => Ev.bind (mb env) fun y => cmD o x y) :=
  PE.of (pe_cmpR ho ha hb hm) fun σ H Q ⟨ρ, env, S, g, er, q⟩ => (go g er q).imp fun x H1 ⟨ρ1, S1, d, l1, g1, r1, q1⟩ => (go g1 (er.le l1) q1).imp fun y H2 ⟨ρ2, S2, d2, l2, g2, r2, q2⟩ =>
    ⟨ρ2, S2, d, d2, g2, Rep.le l2 r1, r2, q2.noex cmD_noex _⟩
/-- from a value that is a truth, the truth -/
theorem to_bl {f : En → Ev D} {σ : L2.St} {H : Hp} {Q : Bool → Hp → Prop} (h : tT X NM T W (fun env => Ev.bind (f env) (asBl)) σ H Q) : tV X NM T W f σ H fun x H' => ∃ k, x = .bl k ∧ Q k H' := by
  obtain ⟨ρ, env, S, g, er, q⟩ := h
  refine (go g er q).imp fun y H2 ⟨ρ2, S2, d2, l2, g2, r2, q2⟩ => ?_
  cases d2 <;> first | exact q2.elim | skip
  have e := rep_bl r2
  subst e
  exact ⟨_, rfl, q2.ret g2 rfl⟩
/-- a comparison as a test -/
theorem st_cmp {op : CmpOp} {o : Cm} (ho : OpR X (compareOp op) (rD X.K NM (cmD o))) (ha : PE X a (tV X NM T W ma)) (hb : PE X b (tV X NM T W mb)) (hm : behindInMarks op b = false) :
    PT X (.Compare a [op] [b] pos) (tT X NM T W fun env => Ev.bind ((Ev.bind (ma env) fun x => Ev.bind (mb env) fun y => cmD o x y)) (asBl)) :=
  PT.of (pt_cmpR ho ha hb hm) fun σ H Q h => by
    obtain ⟨ρ, env, S, g, er, q⟩ := to_bl h
    exact (go g er q).imp fun x H1 ⟨ρ1, S1, d, l1, g1, r1, q1⟩ => (go g1 (er.le l1) q1).imp fun y H2 ⟨ρ2, S2, d2, l2, g2, r2, q2⟩ => ⟨ρ2, S2, d, d2, g2, Rep.le l2 r1, r2, q2.noex cmD_noex _⟩
theorem isN_iff {K : PySem.W.Frag} {ρ : List Addr} {H : Hp} {d : D} {v : V} (r : Rep K NM ρ H d v) : isNonD d = decide (v = .non) := by
  cases d with
  | non => rw [rep_non r]; rfl
  | bl b => rw [rep_bl r]; rfl
  | int b => rw [rep_int r]; rfl
  | str b => rw [rep_str r]; rfl
  | tup xs => obtain ⟨a, vs, rfl, _⟩ := rep_tup r; rfl
  | loc n => obtain ⟨a, rfl, _⟩ := rep_loc r; rfl
  | fn k => simp only [Rep] at r; rw [r]; rfl
  | exc k fs => simp only [Rep] at r; obtain ⟨_, a, oe, us, rfl, _⟩ := r; rfl
  | clo _ _ => simp only [Rep] at r
theorem s_isN {j p} (ha : PE X a (tV X NM T W ma)) : PE X (.Compare a [.Is] [.Constant .none j p] pos) (tV X NM T W fun env => Ev.bind (ma env) fun x => Ev.ret (.bl (isNonD x))) :=
  PE.of (pe_cmp (pc_isN ha)) fun σ H Q ⟨ρ, env, S, g, er, q⟩ => (go g er q).imp fun y H2 ⟨ρ2, S2, d2, l2, g2, r2, q2⟩ => by
    rw [isN_iff r2] at q2
    exact q2.ret g2 (mk_bl _)
theorem s_notN {j p} (ha : PE X a (tV X NM T W ma)) : PE X (.Compare a [.IsNot] [.Constant .none j p] pos) (tV X NM T W fun env => Ev.bind (ma env) fun x => Ev.ret (.bl (!isNonD x))) :=
  PE.of (pe_cmp (pc_notN ha)) fun σ H Q ⟨ρ, env, S, g, er, q⟩ => (go g er q).imp fun y H2 ⟨ρ2, S2, d2, l2, g2, r2, q2⟩ => by
    rw [isN_iff r2] at q2
    exact q2.ret g2 (mk_bl _)
theorem st_isN {j p} (ha : PE X a (tV X NM T W ma)) : PT X (.Compare a [.Is] [.Constant .none j p] pos) (tT X NM T W fun env => Ev.bind ((Ev.bind (ma env) fun x => Ev.ret (.bl (isNonD x)))) (asBl)) :=
  PT.of (pt_cmp (pc_isN ha)) fun σ H Q h => by
    obtain ⟨ρ, env, S, g, er, q⟩ := to_bl h
    exact (go g er q).imp fun y H2 ⟨ρ2, S2, d2, l2, g2, r2, q2⟩ => by
      rw [isN_iff r2] at q2
      exact q2.ret g2 (mk_bl _)
theorem st_notN {j p} (ha : PE X a (tV X NM T W ma)) : PT X (.Compare a [.IsNot] [.Constant .none j p] pos) (tT X NM T W fun env => Ev.bind ((Ev.bind (ma env) fun x => Ev.ret (.bl (!isNonD x)))) (asBl)) :=
  PT.of (pt_cmp (pc_notN ha)) fun σ H Q h => by
    obtain ⟨ρ, env, S, g, er, q⟩ := to_bl h
    exact (go g er q).imp fun y H2 ⟨ρ2, S2, d2, l2, g2, r2, q2⟩ => by
      rw [isN_iff r2] at q2
      exact q2.ret g2 (mk_bl _)
theorem chn_read {p q : Cm} {σ : L2.St} {H : Hp} {Q : VK} (h : tV X NM T W (fun env => Ev.bind (ma env) fun x => Ev.bind (mb env) fun y => Ev.bind (cmD p x y) fun t => Ev.bind (asBl t) fun k => match k with
    | true => Ev.bind (mc env) fun z => cmD q y z
    | false => Ev.ret (.bl false)) σ H Q) : tChain (rD X.K NM (cmD p)) (rD X.K NM (cmD q)) (tV X NM T W ma) (tV X NM T W mb) (tV X NM T W mc) σ H Q := by
  obtain ⟨ρ, env, S, g, er, h⟩ := h
  refine (go g er h).imp fun x H1 ⟨ρ1, S1, d, l1, g1, r1, q1⟩ => (go g1 (er.le l1) q1).imp fun y H2 ⟨ρ2, S2, d2, l2, g2, r2, q2⟩ => ?_
  refine ⟨ρ2, S2, d, d2, g2, Rep.le l2 r1, r2, ?_⟩
  refine (q2.bind (R := rD1 X.K NM)).noex cmD_noex _ |>.imp fun z H3 ⟨ρ3, S3, d3, l3, g3, r3, q3⟩ => ?_
  cases d3 <;> first | exact q3.elim | skip
  rename_i k
  have e := rep_bl r3
  subst e
  cases k with
  | false =>
    have q3 : Run X.K NM (rD1 X.K NM) W ρ3 H3 σ (Ev.ret (.bl false) S3) Q := q3
    exact ⟨false, rfl, (if_neg (by decide)).mpr (q3.ret g3 (mk_bl _))⟩
  | true =>
    have q3 : Run X.K NM (rD1 X.K NM) W ρ3 H3 σ ((Ev.bind (mc env) fun z => cmD q d2 z) S3) Q := q3
    refine ⟨true, rfl, (if_pos rfl).mpr ((go g3 ((er.le l1).le (l2.trans l3)) q3).imp fun z H4 ⟨ρ4, S4, d4, l4, g4, r4, q4⟩ => ⟨ρ4, S4, d2, d4, g4, Rep.le (l3.trans l4) r2, r4, q4.noex cmD_noex _⟩)⟩
theorem s_chn {op op' : CmpOp} {p q : Cm} (ho : OpR X (compareOp op) (rD X.K NM (cmD p))) (ho' : OpR X (compareOp op') (rD X.K NM (cmD q))) (ha : PE X a (tV X NM T W ma)) (hb : PE X b (tV X NM T W mb)) (hc : PE X c (tV X NM T W mc)) (hm : lastMarks [op, op'] [b, c] = false) :
    PE X (.Compare a [op, op'] [b, c] pos) (tV X NM T W fun env => Ev.bind (ma env) fun x => Ev.bind (mb env) fun y => Ev.bind (cmD p x y) fun t => Ev.bind (asBl t) fun k => match k with
    | true => Ev.bind (mc env) fun z => cmD q y z
    | false => Ev.ret (.bl false)) := PE.of (pe_chain ho ho' ha hb hc hm) fun σ H Q h => chn_read h
theorem st_chn {op op' : CmpOp} {p q : Cm} (ho : OpR X (compareOp op) (rD X.K NM (cmD p))) (ho' : OpR X (compareOp op') (rD X.K NM (cmD q))) (ha : PE X a (tV X NM T W ma)) (hb : PE X b (tV X NM T W mb)) (hc : PE X c (tV X NM T W mc)) (hm : lastMarks [op, op'] [b, c] = false) :
    PT X (.Compare a [op, op'] [b, c] pos) (tT X NM T W fun env => Ev.bind ((Ev.bind (ma env) fun x => Ev.bind (mb env) fun y => Ev.bind (cmD p x y) fun t => Ev.bind (asBl t) fun k => match k with
    | true => Ev.bind (mc env) fun z => cmD q y z
    | false => Ev.ret (.bl false))) (asBl)) := PT.of (pt_chain ho ho' ha hb hc hm) fun σ H Q h => chn_read (to_bl h)
/-- tests -/
theorem st_val {f : En → Ev D} (h : PE X e (tV X NM T W f)) (he : ∀ whole, isTrue e X.env whole = (do let v ← whole; standAt e.pos; holding [v] (truthy v))) : PT X e (tT X NM T W fun env => Ev.bind (f env) (asBl)) :=
  PT.of (pt_val h he) fun σ H Q h => (to_bl h).imp fun x H' ⟨k, e, q⟩ => ⟨k, e, q⟩
theorem st_not {f : En → Ev D} (h : PT X a (tT X NM T W fun env => Ev.bind (f env) (asBl))) : PT X (.UnaryOp .Not a pos) (tT X NM T W fun env => Ev.bind ((Ev.bind (f env) fun x => Ev.bind (asBl x) fun k => Ev.ret (.bl (!k)))) (asBl)) :=
  PT.of (pt_not h) fun σ H Q r => by
    obtain ⟨ρ, env, S, g, er, q⟩ := r
    refine ⟨ρ, env, S, g, er, ?_⟩
    dsimp only at q ⊢
    unfold Ev.bind at q ⊢
    cases hf : f env S with
    | stk => rw [hf] at q; exact q.elim
    | ex x S' => rw [hf] at q; exact q
    | ok x S' =>
      rw [hf] at q
      cases x <;> first
        | exact q.elim
        | exact fun ρ' H' b l g e => by
            subst e
            exact q ρ' H' _ l g rfl
end
end QV
set_option maxRecDepth 100000
set_option maxHeartbeats 4000000
/-! Q8: displays, subscripts, built-ins, methods, fields, calls. -/
namespace QV
open PySem PySem.Spec PyProof.Rows L2
/-! ### looks at the text -/
theorem star_one {e : Expr} {es : List Expr} {env : Env} (h : isStarE e = false) : starEach (e :: es) env = (false, eval e env) :: starEach es env := by
  cases e <;> first | rfl | cases h
theorem star_none {env : Env} {pos : Pos} : ∀ {es : List Expr}, es.any isStarE = false → (backTo pos (starEach es env)).any (·.1) = false
  | [], _ => rfl
  | e :: es, h => by
    simp only [List.any_cons, Bool.or_eq_false_iff] at h
    rw [star_one h.1]
    have := star_none (env := env) (pos := pos) h.2
    simp only [backTo, List.map_cons, List.any_cons, Bool.false_or] at this ⊢
    exact this
theorem plain_ix {b : Expr} (h : isSliceE b = false) : PlainIx b := by
  intro o i
  cases b <;> first | rfl | cases h
theorem plain_base {o : Expr} {f : Str} {env : Env} {w : Sem Value} (h : plainB o = true) : attributeBase o f env w = w := by
  unfold attributeBase
  split
  · cases h
  · rfl
section
variable {X : Cx} {NM : Nms} {T : CT} {W : WX} {a b c e : Expr} {es : List Expr} {ma mb mc : En → Ev D} {ml : En → Ev (List D)} {pos p : Pos}
theorem sl_nil : PA X [] (tL X NM T W fun _ => Ev.ret []) := PA.of pa_nil fun σ H Q ⟨ρ, env, S, g, er, q⟩ => q.ret g RepL.nil
theorem sl_cons (ha : PE X a (tV X NM T W ma)) (hl : PA X es (tL X NM T W ml)) (hs : isStarE a = false) : PA X (a :: es) (tL X NM T W fun env => Ev.bind (ma env) fun x => Ev.bind (ml env) fun xs => Ev.ret (x :: xs)) :=
  PA.of (pa_cons ha hl (star_one hs)) fun σ H Q ⟨ρ, env, S, g, er, q⟩ => (go g er q).imp fun x H1 ⟨ρ1, S1, d, l1, g1, r1, q1⟩ => (go g1 (er.le l1) q1).imp fun y H2 ⟨ρ2, S2, d2, l2, g2, r2, q2⟩ =>
    q2.ret g2 (RepL.cons (Rep.le l2 r1) r2)
theorem s_tup {k} (h : PA X es (tL X NM T W ml)) : PE X (.Tuple es k pos) (tV X NM T W fun env => Ev.bind (ml env) fun xs => onlyIf (decide (xs.length ≤ line)) (Ev.ret (.tup xs))) :=
  PE.of (pe_tup h) fun σ H Q ⟨ρ, env, S, g, er, q⟩ => (go g er q).imp fun vs H1 ⟨ρ1, S1, ds, l1, g1, r1, q1⟩ => by
    obtain ⟨c, q1⟩ := onlyIf_run q1
    refine ⟨by rw [← line_eq, RepL.length r1]; exact of_decide_eq_true c, fun z hz => ?_⟩
    exact q1 ρ1 _ _ (Le.heap (HExt.new hz)) (g1.beside hz) (mk_tup (.inl (.inl upd_same)) (RepL.le (Le.heap (HExt.new hz)) r1))
/-- a new list in the store -/
theorem new_lst {K : PySem.W.Frag} {ρ : List Addr} {S : Sto} {H : Hp} {z : Addr} {ds : List D} {vs : List V} (g : Gd K NM ρ S H) (hz : H z = none) (r : RepL K NM ρ H ds vs) :
    Gd K NM (ρ ++ [z]) (S ++ [.lst ds]) (upd H z (.lst vs)) ∧ Le ρ H (ρ ++ [z]) (upd H z (.lst vs)) ∧ Rep K NM (ρ ++ [z]) (upd H z (.lst vs)) (.loc S.length) (.ref z) := by
  have l : Le ρ H (ρ ++ [z]) (upd H z (.lst vs)) := ⟨⟨[z], rfl⟩, HExt.new hz⟩
  obtain ⟨g', _⟩ := g.new (c := .lst ds) (o := .lst vs) hz ⟨vs, upd_same, r.le l⟩
  refine ⟨g', l, mk_loc ?_⟩
  rw [← g.len, List.getElem?_append_right (Nat.le_refl _)]
  simp
theorem s_lst (h : PA X es (tL X NM T W ml)) : PE X (.List es pos) (tV X NM T W fun env => Ev.bind (ml env) fun xs => onlyIf (decide (xs.length ≤ line)) (newC (.lst xs))) :=
  PE.of (pe_lst h) fun σ H Q ⟨ρ, env, S, g, er, q⟩ => (go g er q).imp fun vs H1 ⟨ρ1, S1, ds, l1, g1, r1, q1⟩ => by
    obtain ⟨c, q1⟩ := onlyIf_run q1
    refine ⟨by rw [← line_eq, RepL.length r1]; exact of_decide_eq_true c, fun z hz => ?_⟩
    obtain ⟨g2, l2, r2⟩ := new_lst g1 hz r1
    exact q1 _ _ _ l2 g2 r2
/-! dicts -/
def evMs : List (En → Ev D) → En → Ev (List D)
  | [], _ => Ev.ret []
  | m :: r, env => Ev.bind (m env) fun x => Ev.bind (evMs r env) fun xs => Ev.ret (x :: xs)
def prs (X : Cx) (NM : Nms) (T : CT) (W : WX) : List Str → List (En → Ev D) → List (TE × TE)
  | k :: ks, m :: ms => (tC (.str k), tV X NM T W m) :: prs X NM T W ks ms
  | _, _ => []
theorem prs_read : ∀ {ks : List Str} {ms : List (En → Ev D)} {σ : L2.St} {H : Hp} {Q : List D → Ev D} {Pq : VK} {ρ : List Addr} {S : Sto} {env : En} {R : List (V × V) → Hp → Prop}, ks.length = ms.length → Gd X.K NM ρ S H → EnvR X.K NM X.base T ρ H env σ →
    Run X.K NM (rD1 X.K NM) W ρ H σ ((Ev.bind (evMs ms env) (Q)) S) Pq → (∀ vs H1 ρ1 S1 ds, Le ρ H ρ1 H1 → Gd X.K NM ρ1 S1 H1 → RepL X.K NM ρ1 H1 ds vs → vs.length = ks.length → Run X.K NM (rD1 X.K NM) W ρ1 H1 σ (Q ds S1) Pq → R ((ks.map V.str).zip vs) H1) →
    tPairs (prs X NM T W ks ms) σ H R
  | [], [], σ, H, Q, Pq, ρ, S, env, R, _, g, er, q, k => k [] H ρ S [] (Le.refl _ _) g RepL.nil rfl q
  | [], _ :: _, _, _, _, _, _, _, _, _, h, _, _, _, _ => by cases h
  | _ :: _, [], _, _, _, _, _, _, _, _, h, _, _, _, _ => by cases h
  | x :: ks, m :: ms, σ, H, Q, Pq, ρ, S, env, R, h, g, er, q, k => by
    show tV X NM T W m σ H fun y H2 => tPairs (prs X NM T W ks ms) σ H2 fun ps H3 => R ((.str x, y) :: ps) H3
    have q : Run X.K NM (rD1 X.K NM) W ρ H σ ((Ev.bind (m env) fun d => Ev.bind (evMs ms env) fun ds => Q (d :: ds)) S) Pq := by
      have e : (Ev.bind (evMs (m :: ms) env) (Q)) S = (Ev.bind (m env) fun d => Ev.bind (evMs ms env) fun ds => Q (d :: ds)) S := by
        simp only [evMs, Ev.bind, Ev.ret]
        cases m env S with
        | stk => rfl
        | ex _ _ => rfl
        | ok d S' =>
          dsimp only
          cases evMs ms env S' <;> rfl
      rw [e] at q
      exact q
    refine (go g er q).imp fun y H1 ⟨ρ1, S1, d, l1, g1, r1, q1⟩ => ?_
    refine prs_read (by simpa using h) g1 (er.le l1) q1 fun vs H2 ρ2 S2 ds l2 g2 r2 hl q2 => ?_
    exact k (y :: vs) H2 ρ2 S2 (d :: ds) (l1.trans l2) g2 (RepL.cons (Rep.le l2 r1) r2) (by simpa using hl) q2
theorem mergeK_app : ∀ (kvs acc : List (Key × V)), (kvs.map (·.1)).Nodup → (∀ p ∈ kvs, ∀ r ∈ acc, r.1 ≠ p.1) → mergeK acc kvs = acc ++ kvs
  | [], acc, _, _ => by simp [mergeK]
  | p :: kvs, acc, nd, h => by
    have e : putK acc p.1 p.2 = acc ++ [p] := by
      unfold putK
      rw [if_neg]
      intro z
      obtain ⟨r, hr, hk⟩ := List.any_eq_true.mp z
      exact h p List.mem_cons_self r hr (of_decide_eq_true hk)
    have : mergeK acc (p :: kvs) = mergeK (putK acc p.1 p.2) kvs := rfl
    rw [List.map_cons, List.nodup_cons] at nd
    rw [this, e, mergeK_app kvs (acc ++ [p]) nd.2 fun q hq r hr => ?_]
    · simp
    · rcases List.mem_append.mp hr with hr | hr
      · exact h q (List.mem_cons_of_mem _ hq) r hr
      · intro z
        have : r = p := by simpa using hr
        subst this
        exact nd.1 (List.mem_map.mpr ⟨q, hq, z.symm⟩)
theorem repK_zip {K : PySem.W.Frag} {ρ : List Addr} {H : Hp} : ∀ {ks : List Str} {ds : List D} {vs : List V}, ks.length = ds.length → RepL K NM ρ H ds vs → RepK K NM ρ H (ks.zip ds) ((ks.zip vs).map fun p => ((Sum.inr p.1 : Key), p.2))
  | [], [], _, _, r => by simp only [RepL] at r; subst r; simp [RepK]
  | [], _ :: _, _, h, _ => by cases h
  | _ :: _, [], _, h, _ => by cases h
  | k :: ks, d :: ds, _, h, r => by
    simp only [RepL] at r
    obtain ⟨v, t, rfl, h1, h2⟩ := r
    simp only [List.zip_cons_cons, List.map_cons, RepK]
    exact ⟨v, _, rfl, h1, repK_zip (by simpa using h) h2⟩
theorem zip_kV : ∀ (ks : List Str) (vs : List V), (ks.map V.str).zip vs = ((ks.zip vs).map fun p => ((Sum.inr p.1 : Key), p.2)).map fun kv => (kV kv.1, kv.2)
  | [], _ => rfl
  | _ :: _, [] => rfl
  | k :: ks, v :: vs => by
    simp only [List.map_cons, List.zip_cons_cons, zip_kV ks vs]
    rfl
theorem zip_keys : ∀ (ks : List Str) (vs : List V), vs.length = ks.length → (((ks.zip vs).map fun p => ((Sum.inr p.1 : Key), p.2)).map (·.1)) = ks.map Sum.inr
  | [], _, _ => rfl
  | k :: ks, [], h => by cases h
  | k :: ks, v :: vs, h => by
    simp only [List.map_cons, List.zip_cons_cons, zip_keys ks vs (by simpa using h)]
theorem s_dic {keys : List (Option Expr)} {ks : List Str} {ms : List (En → Ev D)} (hp : PPs X pos keys es (prs X NM T W ks ms)) (hall : keys.all (·.isSome) = true) (hl : keys.length = es.length) (hk : keys.length = ks.length) (hm : ks.length = ms.length) :
    PE X (.Dict keys es pos) (tV X NM T W fun env => onlyIf (decide (0 < ks.length) && decide (ks.length ≤ 15) && decide (ks.length = es.length) && decide ks.Nodup) (Ev.bind (newC (.dic [])) fun d => Ev.bind (evMs ms env) fun xs => fillD d (ks.zip xs))) := by
  by_cases hc : (decide (0 < ks.length) && decide (ks.length ≤ 15) && decide (ks.length = es.length) && decide ks.Nodup) = true
  · have hc' := hc
    simp only [Bool.and_eq_true, decide_eq_true_eq] at hc'
    refine PE.of (pe_disp hp hall hl (fun z => by rw [z] at hk; simp at hk; omega) (by omega)) fun σ H Q ⟨ρ, env, S, g, er, q⟩ => fun z hz => ?_
    obtain ⟨_, q⟩ := onlyIf_run q
    have l : Le ρ H (ρ ++ [z]) (upd H z (.dK [])) := ⟨⟨[z], rfl⟩, HExt.new hz⟩
    obtain ⟨g', _⟩ := g.new (c := .dic []) (o := .dK []) hz ⟨[], upd_same, by simp [RepK]⟩
    have q : Run X.K NM (rD1 X.K NM) W (ρ ++ [z]) (upd H z (.dK [])) σ ((Ev.bind (evMs ms env) fun xs => fillD (.loc S.length) (ks.zip xs)) (S ++ [.dic []])) Q := q.base l
    refine prs_read hm g' (er.le l) q fun vs H2 ρ2 S2 ds l2 g2 r2 hlen q2 => ?_
    have q2 : Run X.K NM (rD1 X.K NM) W ρ2 H2 σ (match S2[S.length]? with
      | some (.dic []) => .ok (.loc S.length) (S2.set S.length (.dic (ks.zip ds)))
      | _ => .stk) Q := q2
    have hz2 : ρ2[S.length]? = some z := l2.get (by rw [← g.len, List.getElem?_append_right (Nat.le_refl _)]; simp)
    split at q2
    · rename_i hn
      obtain ⟨gs, h1, h2⟩ := g2.cell _ _ z hn hz2
      simp only [RepK] at h2
      subst h2
      refine ⟨h1, (ks.zip vs).map fun p => ((Sum.inr p.1 : Key), p.2), zip_kV ks vs, ?_, ?_⟩
      · rw [List.length_map, List.length_zip]
        omega
      · have hmk : mergeK [] ((ks.zip vs).map fun p => ((Sum.inr p.1 : Key), p.2)) = (ks.zip vs).map fun p => ((Sum.inr p.1 : Key), p.2) := by
          rw [mergeK_app _ _ _ (fun _ _ r hr => by cases hr)]
          · simp
          · rw [zip_keys ks vs hlen]
            exact hc'.2.map Sum.inr (fun a b hab h => hab (Sum.inr.inj h))
        rw [hmk]
        have ni : HExt H2 (upd H2 z (.dK ((ks.zip vs).map fun p => ((Sum.inr p.1 : Key), p.2)))) := ⟨fun b w i e => by
            rw [upd_ne (fun y => by rw [y, h1] at e; cases e; exact i)]; exact e,
          fun b q' e => by rw [upd_ne (fun y => by rw [y, h1] at e; unfold LamX.CodeO at e; cases e)]; exact e⟩
        obtain ⟨g3, l3⟩ := g2.put (c' := .dic (ks.zip ds)) hn rfl rfl hz2 ⟨_, upd_same, repK_zip (by rw [← r2.length, hlen]) (r2.le (Le.heap ni))⟩
        exact q2 _ _ _ l3 g3 (mk_loc hz2)
    · exact q2.elim
  · refine pe_stk fun env S => ?_
    rw [Bool.not_eq_true] at hc
    rw [hc]
    rfl
/-! subscripts -/
theorem s_idx (hu : X.A.units + 100 < cLine) (ha : PE X a (tV X NM T W ma)) (hb : PE X b (tV X NM T W mb)) (hs : isSliceE b = false) : PE X (.Subscript a b pos) (tV X NM T W fun env => Ev.bind (ma env) fun x => Ev.bind (mb env) fun y => idxD x y) :=
  PE.of (pe_ix (ixD hu) ha hb (plain_ix hs)) fun σ H Q ⟨ρ, env, S, g, er, q⟩ => (go g er q).imp fun x H1 ⟨ρ1, S1, d, l1, g1, r1, q1⟩ => (go g1 (er.le l1) q1).imp fun y H2 ⟨ρ2, S2, d2, l2, g2, r2, q2⟩ =>
    ⟨ρ2, S2, d, d2, g2, Rep.le l2 r1, r2, q2.noex idxD_noex _⟩
theorem so_none : PO X none (tO X NM T W fun _ => Ev.ret none) := PO.of po_none fun σ H Q ⟨ρ, env, S, g, er, q⟩ => q.ret g rfl
theorem so_some (ha : PE X a (tV X NM T W ma)) : PO X (some a) (tO X NM T W fun env => Ev.bind (ma env) fun x => Ev.bind (asInt x) fun i => Ev.ret (some i)) :=
  PO.of (po_some ha) fun σ H Q ⟨ρ, env, S, g, er, q⟩ => (go g er q).imp fun x H1 ⟨ρ1, S1, d, l1, g1, r1, q1⟩ => by
    cases d <;> first | exact q1.elim | skip
    rename_i i
    have e := rep_int r1
    subst e
    have q1 : Run X.K NM rEq W ρ1 H1 σ (Ev.ret (some i) S1) Q := q1
    exact ⟨i, rfl, q1.ret g1 rfl⟩
theorem s_slc {lo hi : Option Expr} {mlo mhi : En → Ev (Option Int)} {p2 : Pos} (ha : PE X a (tV X NM T W ma)) (hl : PO X lo (tO X NM T W mlo)) (hh : PO X hi (tO X NM T W mhi)) :
    PE X (.Subscript a (.Slice lo hi none p2) pos) (tV X NM T W fun env => Ev.bind (ma env) fun x => Ev.bind (mlo env) fun l => Ev.bind (mhi env) fun h => slcD x l h) :=
  PE.of (pe_slice sl_D ha hl hh) fun σ H Q ⟨ρ, env, S, g, er, q⟩ => (go g er q).imp fun x H1 ⟨ρ1, S1, d, l1, g1, r1, q1⟩ => (go g1 (er.le l1) q1).imp fun y H2 ⟨ρ2, S2, d2, l2, g2, (r2 : d2 = y), q2⟩ =>
    (go g2 ((er.le l1).le l2) q2).imp fun z H3 ⟨ρ3, S3, d3, l3, g3, (r3 : d3 = z), q3⟩ => by
      subst r2 r3
      exact ⟨ρ3, S3, d, g3, Rep.le l3 (Rep.le l2 r1), q3.noex slcD_noex _⟩
/-! built-ins -/
theorem s_biF {id : String} {x : Str} {f : Bi} (hc : CallR X (.builtin id) (rA X.K NM (biD f))) (hg : Gl X x) (hm : X.mg x = none) (hv : bootBuiltins x = some (.builtin id)) (hn : x ≠ "__name__") (hd : x ≠ "__debug__") (ha : PA X (e :: es) (tL X NM T W ml)) (hs : (e :: es).any isStarE = false) :
    PE X (.Call (.Name x p) (e :: es) [] pos) (tV X NM T W fun env => Ev.bind (ml env) fun xs => biD f xs) := by
  simp only [List.any_cons, Bool.or_eq_false_iff] at hs
  exact PE.of (pe_callB hc hg hm hv ha hn (beq_eq_false_iff_ne.mpr hd) (star_one hs.1) (star_none hs.2)) fun σ H Q ⟨ρ, env, S, g, er, q⟩ => (go g er q).imp fun x H1 ⟨ρ1, S1, d, l1, g1, r1, q1⟩ => ⟨ρ1, S1, d, g1, r1, q1.noex biD_noex _⟩
theorem s_biT {id : String} {x : Str} {f : Bi} (hc : CallR X (.type id) (rA X.K NM (biD f))) (hg : Gl X x) (hm : X.mg x = none) (hv : bootBuiltins x = some (.type id)) (hn : x ≠ "__name__") (hd : x ≠ "__debug__") (ha : PA X (e :: es) (tL X NM T W ml)) (hs : (e :: es).any isStarE = false) :
    PE X (.Call (.Name x p) (e :: es) [] pos) (tV X NM T W fun env => Ev.bind (ml env) fun xs => biD f xs) := by
  simp only [List.any_cons, Bool.or_eq_false_iff] at hs
  exact PE.of (pe_callTy hc hg hm hv ha hn (beq_eq_false_iff_ne.mpr hd) (star_one hs.1) (star_none hs.2)) fun σ H Q ⟨ρ, env, S, g, er, q⟩ => (go g er q).imp fun x H1 ⟨ρ1, S1, d, l1, g1, r1, q1⟩ => ⟨ρ1, S1, d, g1, r1, q1.noex biD_noex _⟩
/-! methods -/
theorem chkM_run {K : PySem.W.Frag} {α β : Type} {R : RL α β} {ρ : List Addr} {H : Hp} {σ : L2.St} {S : Sto} {m : Mt} {d : D} {v : V} {f : Unit → Ev α} {Q : β → Hp → Prop} (g : Gd K NM ρ S H) (r : Rep K NM ρ H d v) (h : Run K NM R W ρ H σ ((Ev.bind (chkM m d) (f)) S) Q) :
    tyV K (if m = .join then "str" else "list") v H ∧ Run K NM R W ρ H σ (f () S) Q := by
  cases d <;> first | (cases m <;> exact h.elim) | skip
  · rename_i z
    have e := rep_str r
    subst e
    cases m <;> first | exact h.elim | exact ⟨rfl, h⟩
  · rename_i n
    obtain ⟨a, rfl, ha⟩ := rep_loc r
    have key : ∀ m : Mt, m ≠ .join → Run K NM R W ρ H σ ((Ev.bind (chkM m (.loc n)) (f)) S) Q → ∃ xs, S[n]? = some (.lst xs) ∧ Run K NM R W ρ H σ (f () S) Q := fun m hm h => by
      have e : (Ev.bind (chkM m (.loc n)) (f)) S = (match S[n]? with
        | some (.lst _) => f () S
        | _ => .stk) := by
        cases m <;> first
          | exact absurd rfl hm
          | (simp only [Ev.bind, chkM]
             cases S[n]? with
             | none => rfl
             | some c => cases c <;> rfl)
      rw [e] at h
      split at h
      · rename_i xs hn
        exact ⟨xs, hn, h⟩
      · exact h.elim
    by_cases hm : m = .join
    · subst hm
      exact h.elim
    · obtain ⟨xs, hn, h⟩ := key m hm h
      obtain ⟨vs, h1, _⟩ := cell_lst g hn ha
      rw [if_neg hm]
      exact ⟨ty_lst h1, h⟩
theorem s_mth {T1 id : String} {m : Mt} {name : Str} {apos : Pos} (pa : PlainAttrs T1) (slot : Slot T1 name id) (hty : typeOf (.builtin id) = pure (.type "method_descriptor")) (hm : MtR X id (rM X.K NM m)) (hT : T1 = (if m = .join then "str" else "list")) (ho : PE X a (tV X NM T W ma)) (hb : plainB a = true)
    (hline : (apos.endLine == pos.line) = true) (he : PE X e (tV X NM T W mb)) (hs : isStarE e = false) :
    PE X (.Call (.Attribute a name apos) [e] [] pos) (tV X NM T W fun env => Ev.bind (ma env) fun x => Ev.bind (chkM m x) fun _ => Ev.bind ((Ev.bind (mb env) fun y => Ev.bind ((Ev.ret [] : Ev (List D))) fun ys => Ev.ret (y :: ys))) fun xs => mthD m x xs) := by
  have h1 : PA X [e] (tL X NM T W fun env => Ev.bind (mb env) fun y => Ev.bind ((Ev.ret [] : Ev (List D))) fun ys => Ev.ret (y :: ys)) := sl_cons he sl_nil hs
  refine PE.of (pe_bm pa slot hty hm ho h1 (plain_base hb) ?_ hline (star_one hs) rfl) fun σ H Q ⟨ρ, env, S, g, er, q⟩ => (go g er q).imp fun x H1 ⟨ρ1, S1, d, l1, g1, r1, q1⟩ => ?_
  · rw [star_one hs]; rfl
  · obtain ⟨ty, q1⟩ := chkM_run g1 r1 q1
    subst hT
    exact ⟨ty, (go g1 (er.le l1) q1).imp fun y H2 ⟨ρ2, S2, d2, l2, g2, r2, q2⟩ => ⟨ρ2, S2, d, d2, g2, Rep.le l2 r1, r2, q2.noex mthD_noex _⟩⟩
theorem s_mth0 {T1 id : String} {m : Mt} {name : Str} {apos : Pos} (pa : PlainAttrs T1) (slot : Slot T1 name id) (hty : typeOf (.builtin id) = pure (.type "method_descriptor")) (hm : MtR X id (rM X.K NM m)) (hT : T1 = (if m = .join then "str" else "list")) (ho : PE X a (tV X NM T W ma)) (hb : plainB a = true)
    (hline : (apos.endLine == pos.line) = true) :
    PE X (.Call (.Attribute a name apos) [] [] pos) (tV X NM T W fun env => Ev.bind (ma env) fun x => Ev.bind (chkM m x) fun _ => Ev.bind ((Ev.ret [] : Ev (List D))) fun xs => mthD m x xs) := by
  refine PE.of (pe_bm0 pa slot hty hm ho (plain_base hb) hline) fun σ H Q ⟨ρ, env, S, g, er, q⟩ => (go g er q).imp fun x H1 ⟨ρ1, S1, d, l1, g1, r1, q1⟩ => ?_
  obtain ⟨ty, q1⟩ := chkM_run g1 r1 q1
  subst hT
  have q1 : Run X.K NM (rD1 X.K NM) W ρ1 H1 σ (mthD m d [] S1) Q := q1
  exact ⟨ty, ρ1, S1, d, [], g1, r1, RepL.nil, q1.noex mthD_noex _⟩
/-! fields -/
theorem repF_look {K : PySem.W.Frag} {ρ : List Addr} {H : Hp} {f : Str} {d : D} : ∀ {fs : List (Str × D)} {gs : List (Str × V)}, RepF K NM ρ H fs gs → look fs f = some d → ∃ v, gs.lookup f = some v ∧ Rep K NM ρ H d v
  | [], _, _, h => by cases h
  | (k, x) :: r, _, h, e => by
    simp only [RepF] at h
    obtain ⟨v, t, rfl, h1, h2⟩ := h
    unfold look at e
    rw [List.find?_cons] at e
    by_cases hk : k = f
    · subst hk
      simp only [decide_true, Option.map_some, Option.some.injEq] at e
      subst e
      exact ⟨v, by simp, h1⟩
    · simp only [hk, decide_false] at e
      obtain ⟨w, h3, h4⟩ := repF_look h2 e
      refine ⟨w, ?_, h4⟩
      rw [List.lookup_cons]
      have : (f == k) = false := beq_eq_false_iff_ne.mpr (Ne.symm hk)
      rw [this]
      exact h3
theorem s_fld {f : Str} (F : Fx NM T X.K X.mg) (hf : f ∈ T.flds) (ha : PE X a (tV X NM T W ma)) (hb : plainB a = true) : PE X (.Attribute a f pos) (tV X NM T W fun env => Ev.bind (ma env) fun x => match x with
    | .exc _ fs => ofOpt (look fs f)
    | _ => Ev.stuck) := by
  refine ⟨fun pins s σ H Q I h => ?_⟩
  obtain ⟨ρ, env, S, g, er, q⟩ := h
  refine attr_of (plain_base hb) (thn (ha.run pins s σ H _ I (go g er q)) fun u s1 ⟨v, H1, I1, rv, ρ1, S1, d, l1, g1, r1, q1⟩ => ?_)
  cases d <;> first | exact q1.elim | skip
  rename_i k fs
  obtain ⟨x, e, q1⟩ := ofOpt_run q1
  simp only [rD1, Rep] at r1
  obtain ⟨hk, ea, oe, us, rfl, h1, h2, h3, h4⟩ := r1
  obtain rfl : u = Value.ref ea := rv
  rcases h4 with ⟨rfl, _⟩ | ⟨dx, gs, e1, e2, e3⟩
  · cases e
  · obtain ⟨w, hw, rw'⟩ := repF_look e3 e
    obtain ⟨hoe, _⟩ := (show ObjOk X.prog X.w H1 s1.heap ea (.frz oe (.own 0)) from I1.hok ea _ h1)
    obtain ⟨mA, nsA, hr⟩ := (show ObjOk X.prog X.w H1 s1.heap dx (.xd gs) from I1.hok dx _ e2)
    obtain ⟨ob, hob, hl⟩ := lookIn_ns nsA
    obtain ⟨z, hz, rz⟩ := RelO.some_of (v := w) (o := mA f) (by rw [← hw]; exact hr f)
    have C := F.isx k hk
    have J : PySem.W.InstAt s1.heap ea oe (clA X.K NM k) (some ob) := ⟨hoe, h2, by unfold PySem.W.notCls; rw [h3], by rw [e1]; exact hob⟩
    exact HandSPX.exc_get I1.kIn J C.hg C.hk C.hs (PySem.W.findObj_own C.hd (F.nof k f hk hf) rfl (by rw [hl, hz])) (handed_of rz) ⟨w, H1, I1.tok _, rz, q1.ret g1 rw'⟩
end
end QV
set_option maxRecDepth 100000
set_option maxHeartbeats 4000000
/-! Q9: calls of defs, isinstance, what is walked, comprehensions. -/
namespace QV
open PySem PySem.Spec PyProof.Rows L2
section
variable {X : Cx} {NM : Nms} {T : CT} {W : WX} {orc : Orc} {k : Nat} {q : Nat} {N : List Str} {sc : Scope} {a b c e : Expr} {es : List Expr} {ma mb mc : En → Ev D} {ml : En → Ev (List D)} {pos p : Pos}
theorem XO.gl (O : XO NM T orc k q N sc X W) {x : Str} (h : glB sc x = true) : Gl X x := by
  unfold glB at h
  show X.env.scope.names.lookup x = _
  rw [O.sc]
  split at h
  · assumption
  · cases h
theorem XO.vis (O : XO NM T orc k q N sc X W) {x : Str} (h : visB sc x = true) : Vis X.env.scope x := by
  unfold visB at h
  rw [O.sc]
  unfold Vis
  split at h
  · exact .inl (by assumption)
  · exact .inr (.inl (by assumption))
  · exact .inr (.inr (by assumption))
  · cases h
theorem ix_get {l : List Str} {x : Str} {i : Nat} (h : ix l x = some i) : l[i]? = some x := by
  unfold ix at h
  obtain ⟨h1, h2, _⟩ := List.findIdx?_eq_some_iff_getElem.mp h
  rw [List.getElem?_eq_getElem h1]
  exact congrArg some (of_decide_eq_true h2)
theorem ok_dbg {x : Str} (h : okName x = true) : (x == ("__debug__" : Str)) = false := by
  unfold okName at h
  simp only [Bool.and_eq_true, Bool.not_eq_true', decide_eq_false_iff_not] at h
  exact beq_eq_false_iff_ne.mpr h.1
/-- a call by values -/
theorem run_orc (O : XO NM T orc k q N sc X W) (hq : q ≠ 0) {pins : List (Addr × Obj)} {s : Shared} {σ : L2.St} {H : Hp} {Q : VK} {ρ : List Addr} {S : Sto} {f : D} {fv : V} {fu : Value} {ds : List D} {vs : List V} {us : List Value} {ps : List Value} {kw : List (Str × Value)} (I : Inv X pins σ H s) (g : Gd X.K NM ρ S H)
    (af : AR X.K NM X.base T ρ H f fv) (rf : RelV fv fu) (al : ARL X.K NM X.base T ρ H ds vs) (rl : Vals vs us) (ao : AOk T f ⟨ps, kw⟩ us) (q : Run X.K NM (rD1 X.K NM) W ρ H σ (orc f ds S) Q) :
    wpAny (model X.prog X.w) X.A (PySem.call fu ps kw) (EP X pins σ Q) X.xe s := by
  have c := O.call X.A X.stack s H f ds fv vs fu us ⟨ps, kw⟩ ρ S Q (fun cls dd H' => W cls dd σ H') ((O.room hq).mono (by omega)) (O.gd hq) I.env0 g af rf al rl ao q
  refine wpAny_call (codeAny_mono c fun r s' hq => ?_)
  cases r with
  | error x => exact O.tk x s' (XE.of_call I (fun _ _ _ w => w) hq)
  | ok fl =>
    cases fl with
    | ret u => exact I.after hq
    | next => exact hq.elim
    | brk => exact hq.elim
    | cont => exact hq.elim
theorem ARL.one {K : PySem.W.Frag} {base : Heap} {ρ : List Addr} {H : Hp} {d : D} {v : V} (h : AR K NM base T ρ H d v) : ARL K NM base T ρ H [d] [v] := ⟨v, [], rfl, h, rfl⟩
theorem ar_fn {K : PySem.W.Frag} {base : Heap} {ρ : List Addr} {H : Hp} {j : Nat} : AR K NM base T ρ H (.fn j) (.ref (fnA K NM j)) := by
  simp only [AR, Rep]
theorem s_call (O : XO NM T orc k q N sc X W) (hq : q ≠ 0) {x : Str} {j : Nat} (h1 : okName x = true) (hg : glB sc x = true) (hj : ix T.defs x = some j) (ha : PA X (e :: es) (tL X NM T W ml)) (hs : (e :: es).any isStarE = false) :
    PE X (.Call (.Name x p) (e :: es) [] pos) (tV X NM T W fun env => Ev.bind (ml env) fun xs => orc (.fn j) xs) := by
  obtain ⟨hm, hk⟩ := O.fx.gdef x j hj
  refine ⟨fun pins s σ H Q I ⟨ρ, env, S, g, er, q⟩ => ?_⟩
  refine wpAny_Call_Name_kw (ld_glob I (O.gl hg) hm ?_ (ok_dbg h1))
  simp only [List.any_cons, Bool.or_eq_false_iff] at hs
  refine PySem.W.callWith_K (h₀ := X.base) I.ok.mod.kin hk (thn (ha.run pos pins s σ H _ I (go g er q)) fun us s1 ⟨vs, H1, I1, r, ρ1, S1, ds, l1, g1, r1, q1⟩ => ⟨I1.kIn, ?_⟩) (star_one hs.1) (star_none hs.2)
  exact run_orc O hq I1 g1 ar_fn rfl (ARL.of r1) r (.pos _ _) q1
theorem s_call0 (O : XO NM T orc k q N sc X W) (hq : q ≠ 0) {x : Str} {j : Nat} (h1 : okName x = true) (hg : glB sc x = true) (hj : ix T.defs x = some j) :
    PE X (.Call (.Name x p) [] [] pos) (tV X NM T W fun env => Ev.bind ((Ev.ret [] : Ev (List D))) fun xs => orc (.fn j) xs) := by
  obtain ⟨hm, hk⟩ := O.fx.gdef x j hj
  refine ⟨fun pins s σ H Q I ⟨ρ, env, S, g, er, q⟩ => ?_⟩
  refine wpAny_Call_Name_kw (ld_glob I (O.gl hg) hm ?_ (ok_dbg h1))
  exact PySem.W.callWith_K0 I.kIn hk (run_orc O hq I g ar_fn rfl (ARL.of RepL.nil) .nil (.pos _ _) q)
/-- f(k = v) -/
theorem s_callk (O : XO NM T orc k q N sc X W) (hq : q ≠ 0) {x kn : Str} {j : Nat} {kp : Pos} (h1 : okName x = true) (hg : glB sc x = true) (hj : ix T.defs x = some j) (hp : T.pars[j]? = some [kn]) (ha : PE X a (tV X NM T W ma)) :
    PE X (.Call (.Name x p) [] [⟨some kn, a, kp⟩] pos) (tV X NM T W fun env => Ev.bind ((Ev.bind (ma env) fun y => Ev.bind ((Ev.ret [] : Ev (List D))) fun ys => Ev.ret (y :: ys))) fun xs => orc (.fn j) xs) := by
  obtain ⟨hm, hk⟩ := O.fx.gdef x j hj
  refine ⟨fun pins s σ H Q I ⟨ρ, env, S, g, er, q⟩ => ?_⟩
  refine wpAny_Call_Name_kw (ld_glob I (O.gl hg) hm ?_ (ok_dbg h1))
  have q : Run X.K NM (rD1 X.K NM) W ρ H σ ((Ev.bind (ma env) fun y => orc (.fn j) [y]) S) Q := by
    have e : (Ev.bind ((Ev.bind (ma env) fun y => Ev.bind ((Ev.ret [] : Ev (List D))) fun ys => Ev.ret (y :: ys))) fun xs => orc (.fn j) xs) S = (Ev.bind (ma env) fun y => orc (.fn j) [y]) S := by
      simp only [Ev.bind, Ev.ret]
      cases ma env S <;> rfl
    exact e ▸ q
  have kws : PK X [⟨some kn, a, kp⟩] (tCons (tV X NM T W ma) tNil) := pk_cons ha pk_nil
  have h : tCons (tV X NM T W ma) tNil σ H (fun vs H1 => ∃ ρ1 S1 d, Gd X.K NM ρ1 S1 H1 ∧ RepL X.K NM ρ1 H1 [d] vs ∧ Run X.K NM (rD1 X.K NM) W ρ1 H1 σ (orc (.fn j) [d] S1) Q) :=
    (go g er q).imp fun v H1 ⟨ρ1, S1, d, l1, g1, r1, q1⟩ => ⟨ρ1, S1, d, g1, RepL.cons r1 RepL.nil, q1⟩
  refine PySem.W.callWith_KW0 (h₀ := X.base) I.ok.mod.kin hk rfl (thn (kws.run pos pins s σ H _ I h) fun us s1 ⟨vs, H1, I1, r, ρ1, S1, d, g1, r1, q1⟩ => ⟨I1.kIn, ?_⟩) rfl
  obtain ⟨v, rfl, r2⟩ := repL1 r1
  obtain ⟨u, rfl, ru⟩ := vals1 r
  exact run_orc O hq I1 g1 ar_fn rfl (ARL.of r1) (.cons ru .nil) (.kw j kn u hp) q1
/-! isinstance -/
theorem blt_b {x y : Str} (h : bltB T sc x y = true) : x = y ∧ glB sc x = true ∧ x ∈ T.blt := by
  unfold bltB at h
  simp only [Bool.and_eq_true, decide_eq_true_eq] at h
  exact ⟨h.1.1, h.1.2, h.2⟩
theorem ty1_pe (O : XO NM T orc k q N sc X W) {t : Ty} (h : ty1 T sc e = some t) : PE X e (tC (tyV1 X.K NM t)) ∧ isStarE e = false ∧ (∀ j, t = .own j → j < NM.excs.length ∧ j ≠ T.root) := by
  cases e <;> first | (cases h; done) | skip
  rename_i x px
  simp only [ty1] at h
  have bt : ∀ (y : Str) (n : String), bltB T sc x y = true → bootBuiltins y = some (.type n) → y ≠ "__name__" → (y == ("__debug__" : Str)) = false → PE X (.Name x px) (tC (.ty n)) := fun y n hb hv h1 h2 => by
    obtain ⟨rfl, h3, h4⟩ := blt_b hb
    exact pe_bltn (O.gl h3) (O.fx.gblt _ h4) hv rfl h1 h2
  split at h
  · cases h; exact ⟨bt _ _ (by assumption) (by rfl) (by decide) (by decide), rfl, fun j z => by cases z⟩
  split at h
  · cases h; exact ⟨bt _ _ (by assumption) (by rfl) (by decide) (by decide), rfl, fun j z => by cases z⟩
  split at h
  · cases h; exact ⟨bt _ _ (by assumption) (by rfl) (by decide) (by decide), rfl, fun j z => by cases z⟩
  split at h
  · cases h; exact ⟨bt _ _ (by assumption) (by rfl) (by decide) (by decide), rfl, fun j z => by cases z⟩
  split at h
  · cases h; exact ⟨bt _ _ (by assumption) (by rfl) (by decide) (by decide), rfl, fun j z => by cases z⟩
  split at h
  · cases h; exact ⟨bt _ _ (by assumption) (by rfl) (by decide) (by decide), rfl, fun j z => by cases z⟩
  split at h
  · rename_i hg
    simp only [Bool.and_eq_true] at hg
    obtain ⟨j, h1, h2⟩ := Option.bind_eq_some_iff.mp h
    split at h2
    · cases h2
    · rename_i hr
      cases h2
      refine ⟨pe_glob (O.gl hg.1) (O.fx.gexc _ _ h1) rfl (ok_dbg hg.2), rfl, fun i z => ?_⟩
      cases z
      refine ⟨?_, hr⟩
      rw [O.fx.len]
      exact (List.getElem?_eq_some_iff.mp (ix_get h1)).1
  · cases h
theorem tys_pa (O : XO NM T orc k q N sc X W) : ∀ {es : List Expr} {ts : List Ty}, tys T sc es = some ts → PA X es (fun _ H Q => Q (ts.map (tyV1 X.K NM)) H) ∧ ∀ t ∈ ts, ∀ j, t = .own j → j < NM.excs.length ∧ j ≠ T.root
  | [], ts, h => by
    cases h
    exact ⟨pa_nil, fun t ht => by cases ht⟩
  | e :: es, ts, h => by
    simp only [tys] at h
    obtain ⟨t, h1, h2⟩ := Option.bind_eq_some_iff.mp h
    obtain ⟨r, h3, rfl⟩ := map_some h2
    obtain ⟨p1, p2, p3⟩ := ty1_pe O h1
    obtain ⟨p4, p5⟩ := tys_pa O h3
    refine ⟨PA.of (pa_cons p1 p4 (star_one p2)) fun σ H Q q => q, fun t' ht => ?_⟩
    rcases List.mem_cons.mp ht with rfl | ht
    · exact p3
    · exact p5 t' ht
theorem own_kit (O : XO NM T orc k q N sc X W) {ts : List Ty} (h : ∀ t ∈ ts, ∀ j, t = .own j → j < NM.excs.length ∧ j ≠ T.root) : ∀ t ∈ ts, ∀ i j, t = .own j → i < NM.excs.length → PySem.W.kitOne X.K (.ref (clA X.K NM i)) (.ref (clA X.K NM j)) = some (decide (i = j)) :=
  fun t ht i j e hi => O.fx.kit i j hi (h t ht j e).1 (h t ht j e).2
theorem isi_run {α : Type} {K : PySem.W.Frag} {ρ : List Addr} {H : Hp} {σ : L2.St} {S : Sto} {d : D} {ts : List Ty} {Q : VK} (h : Run K NM (rD1 K NM) W ρ H σ (ofOpt ((isiAny S d ts).map D.bl) S) Q) (g : Gd K NM ρ S H) : ∃ b, isiAny S d ts = some b ∧ Q (.bl b) H := by
  obtain ⟨x, e, q⟩ := ofOpt_run h
  obtain ⟨b, e1, rfl⟩ := map_some e
  exact ⟨b, e1, q.ret g (mk_bl b)⟩
theorem s_isi1 (O : XO NM T orc k q N sc X W) {t : Ty} (hb : bltB T sc "isinstance" "isinstance" = true) (ha : PE X a (tV X NM T W ma)) (hs : isStarE a = false) (ht : ty1 T sc b = some t) :
    PE X (.Call (.Name "isinstance" p) [a, b] [] pos) (tV X NM T W fun env => Ev.bind (ma env) fun x => fun S => ofOpt ((isiAny S x [t]).map D.bl) S) := by
  obtain ⟨_, hg, hm⟩ := blt_b hb
  obtain ⟨p1, p2, p3⟩ := ty1_pe O ht
  refine PE.of (pe_callB (call_i1 (NM := NM) O.fx.isx) (O.gl hg) (O.fx.gblt _ hm) (by rfl) (pa_cons ha (pa_cons p1 pa_nil (star_one p2)) (star_one hs)) (by decide) (by decide) (star_one hs) (star_none (by simp [p2]))) fun σ H Q ⟨ρ, env, S, g, er, q⟩ => ?_
  refine (go g er q).imp fun x H1 ⟨ρ1, S1, d, l1, g1, r1, q1⟩ => ?_
  obtain ⟨r, e, hQ⟩ := isi_run (α := Unit) q1 g1
  obtain ⟨c, e1, e2⟩ := isiAny_kit r1 (own_kit O (ts := [t]) fun t' ht' => by rw [List.mem_singleton.mp ht']; exact p3) e (by simp)
  have e3 : PySem.W.kitOne X.K c (tyU1 X.K NM t) = some r := by
    simp only [List.map_cons, List.map_nil, PySem.W.kitAny] at e2
    split at e2
    · rename_i z; cases e2; exact z
    · rename_i z; cases e2; exact z
    · cases e2
  exact ⟨ρ1, S1, d, x, _, c, _, r, rfl, ty_cls X.K t, g1, r1, e1, e3, hQ⟩
theorem s_isiT (O : XO NM T orc k q N sc X W) {ts : List Ty} {i : Nat} {p2 : Pos} (hb : bltB T sc "isinstance" "isinstance" = true) (ha : PE X a (tV X NM T W ma)) (hs : isStarE a = false) (ht : tys T sc es = some ts) (hn : ts ≠ []) (hz : ts.length ≤ 1000) :
    PE X (.Call (.Name "isinstance" p) [a, .Tuple es i p2] [] pos) (tV X NM T W fun env => Ev.bind (ma env) fun x => fun S => ofOpt ((isiAny S x ts).map D.bl) S) := by
  obtain ⟨_, hg, hm⟩ := blt_b hb
  obtain ⟨p1, p3⟩ := tys_pa O ht
  refine PE.of (pe_callB (call_i2 (NM := NM) O.fx.isx) (O.gl hg) (O.fx.gblt _ hm) (by rfl) (pa_cons ha (pa_cons (pe_tup p1) pa_nil rfl) (star_one hs)) (by decide) (by decide) (star_one hs) rfl) fun σ H Q ⟨ρ, env, S, g, er, q⟩ => ?_
  refine (go g er q).imp fun x H1 ⟨ρ1, S1, d, l1, g1, r1, q1⟩ => ⟨by rw [List.length_map]; exact Nat.le_trans hz (by rw [sizeLine_eq]; decide), fun z hz => ?_⟩
  have q2 := Run.base (H1 := upd H1 z (.tup (ts.map (tyV1 X.K NM)))) q1 (Le.heap (HExt.new hz))
  have g2 := g1.beside hz (o := .tup (ts.map (tyV1 X.K NM)))
  obtain ⟨r, e, hQ⟩ := isi_run (α := Unit) q2 g2
  obtain ⟨c, e1, e2⟩ := isiAny_kit r1 (own_kit O p3) e hn
  exact ⟨ρ1, S1, d, x, z, _, c, _, r, rfl, upd_same, ty_all X.K ts, g2, Rep.le (Le.heap (HExt.new hz)) r1, e1, e2, hQ⟩
/-! ### what is walked -/
/-- an iterator of the library walks what the evaluator walks -/
def rIt (K : PySem.W.Frag) (NM : Nms) : RL QV.It L2.It := fun ρ H J J' => match J with
  | .fix xs => ∀ (i : Nat) (ρ' : List Addr) (S' : Sto) (H' : Hp), Le ρ H ρ' H' → Gd K NM ρ' S' H' →
      (∀ d, xs[i]? = some d → J'.go i H' ∧ ∀ x H2, J'.yld i H' x H2 → Le ρ' H' ρ' H2 ∧ Gd K NM ρ' S' H2 ∧ Rep K NM ρ' H2 d x) ∧ (xs.length ≤ i → J'.stop i H')
  | .live n => ∃ a, ρ[n]? = some a ∧ J' = Itl K a
theorem rIt_tup {K : PySem.W.Frag} {ρ : List Addr} {H : Hp} {a : Addr} {xs : List D} {vs : List V} (sq : SqT K H a vs) (r : RepL K NM ρ H xs vs) : rIt K NM ρ H (.fix xs) (Itt K a) := by
  intro i ρ' S' H' l g
  have sq' := sqT_ext l.ext sq
  have r' := r.le l
  refine ⟨fun d hd => ?_, fun hl => ⟨vs, sq', by rw [r'.length]; exact hl⟩⟩
  obtain ⟨v, h1, h2⟩ := r'.get hd
  refine ⟨⟨vs, v, sq', h1⟩, fun x H2 ⟨e, hx⟩ => ?_⟩
  subst e
  have := hx vs sq'
  rw [h1] at this
  cases this
  exact ⟨Le.refl _ _, g, h2⟩
theorem rIt_str {K : PySem.W.Frag} {ρ : List Addr} {H : Hp} {z : Str} : rIt K NM ρ H (.fix (z.cps.toList.map fun c => .str ⟨#[c]⟩)) (Its z) := by
  intro i ρ' S' H' l g
  refine ⟨fun d hd => ?_, fun hl => (show z.cps.size ≤ i by simpa using hl)⟩
  rw [List.getElem?_map] at hd
  obtain ⟨c, h1, rfl⟩ := map_some hd
  have h2 : z.cps[i]? = some c := by simpa using h1
  refine ⟨(Array.getElem?_eq_some_iff.mp h2).1, fun x H2 ⟨e, c', h3, hx⟩ => ?_⟩
  subst e
  rw [h2] at h3
  cases h3
  rw [hx]
  exact ⟨Le.refl _ _, g, mk_str _⟩
theorem rIt_rng {K : PySem.W.Frag} {ρ : List Addr} {H : Hp} {n : Nat} : rIt K NM ρ H (.fix ((List.range n).map fun i => D.int (i : Nat))) (Itr 0 n) := by
  intro i ρ' S' H' l g
  refine ⟨fun d hd => ?_, fun hl => (show n ≤ i by simpa using hl)⟩
  rw [List.getElem?_map] at hd
  obtain ⟨c, h1, rfl⟩ := map_some hd
  have h2 : i < n ∧ i = c := by
    have := List.getElem?_eq_some_iff.mp h1
    obtain ⟨h3, h4⟩ := this
    simp at h3 h4
    exact ⟨h3, h4⟩
  obtain ⟨h3, rfl⟩ := h2
  refine ⟨h3, fun x H2 ⟨e, hx⟩ => ?_⟩
  subst e
  rw [hx]
  rw [Int.zero_add]
  exact ⟨Le.refl _ _, g, mk_int _⟩
abbrev tI (X : Cx) (NM : Nms) (T : CT) (W : WX) (m : En → Ev QV.It) : TI := tG X.K NM X.base T W (rIt X.K NM) m
theorem PI.of {tg iter : Expr} {w w' : TI} (h : PI X tg iter w) (j : ∀ σ H R, w' σ H R → w σ H R) : PI X tg iter w' := ⟨fun pins s σ H R I r => h.run pins s σ H R I (j _ _ _ r)⟩
theorem si_val {tg : Expr} (ha : PE X a (tV X NM T W ma)) : PI X tg a (tI X NM T W fun env => Ev.bind (ma env) fun x => itOf x) := by
  refine ⟨fun pins s σ H R I h => ?_⟩
  obtain ⟨ρ, env, S, g, er, q⟩ := h
  cases hm : ma env S with
  | stk =>
    replace q : Run X.K NM (rIt X.K NM) W ρ H σ ((Ev.bind (ma env) fun x => itOf x) S) R := q
    unfold Ev.bind at q
    rw [hm] at q
    exact q.elim
  | ex x S' =>
    replace q : Run X.K NM (rIt X.K NM) W ρ H σ ((Ev.bind (ma env) fun x => itOf x) S) R := q
    unfold Ev.bind at q
    rw [hm] at q
    refine (pi_list ha).run pins s σ H R I ⟨ρ, env, S, g, er, ?_⟩
    rw [hm]
    exact q
  | ok d S' =>
    replace q : Run X.K NM (rIt X.K NM) W ρ H σ ((Ev.bind (ma env) fun x => itOf x) S) R := q
    unfold Ev.bind at q
    rw [hm] at q
    replace q : Run X.K NM (rIt X.K NM) W ρ H σ (itOf d S') R := q
    cases d <;> first | exact q.elim | skip
    · rename_i z
      refine (pi_str ha).run pins s σ H R I ⟨ρ, env, S, g, er, ?_⟩
      rw [hm]
      exact fun ρ' H' b l g' r => ⟨z, rep_str r, q ρ' H' _ l g' rIt_str⟩
    · rename_i xs
      refine (pi_tup ha).run pins s σ H R I ⟨ρ, env, S, g, er, ?_⟩
      rw [hm]
      exact fun ρ' H' b l g' r => by
        obtain ⟨p, vs, rfl, sq, r2⟩ := rep_tup r
        exact ⟨p, rfl, ⟨vs, sq⟩, q ρ' H' _ l g' (rIt_tup sq r2)⟩
    · rename_i n
      refine (pi_list ha).run pins s σ H R I ⟨ρ, env, S, g, er, ?_⟩
      rw [hm]
      replace q : Run X.K NM (rIt X.K NM) W ρ H σ (match asL S' (.loc n) with
        | some _ => .ok (.live n) S'
        | none => .stk) R := q
      split at q
      · rename_i xs hx
        exact fun ρ' H' b l g' r => by
          obtain ⟨p, vs, rfl, sq, r2⟩ := asL_some g' hx r
          obtain ⟨p', e, hp⟩ := rep_loc r
          cases e
          exact ⟨p, rfl, ⟨vs, sq⟩, q ρ' H' _ l g' ⟨p, hp, rfl⟩⟩
      · exact q.elim
theorem si_rng {tg : Expr} (O : XO NM T orc k q N sc X W) (hb : bltB T sc "range" "range" = true) (ha : PE X a (tV X NM T W ma)) (hs : isStarE a = false) : PI X tg (.Call (.Name "range" p) [a] [] pos) (tI X NM T W fun env => Ev.bind (ma env) fun x => itRng x) := by
  obtain ⟨_, hg, hm⟩ := blt_b hb
  refine PI.of (pi_range1 (O.gl hg) (O.fx.gblt _ hm) (pa_cons ha pa_nil (star_one hs)) (by rw [star_one hs]; rfl)) fun σ H R ⟨ρ, env, S, g, er, q⟩ => (go g er q).imp fun x H1 ⟨ρ1, S1, d, l1, g1, r1, q1⟩ => ?_
  cases d <;> first | exact q1.elim | skip
  rename_i j
  have e := rep_int r1
  subst e
  obtain ⟨c, q1⟩ := onlyIf_run q1
  simp only [Bool.and_eq_true, decide_eq_true_eq] at c
  exact ⟨j, rfl, c.1, c.2, q1.ret g1 rIt_rng⟩
end
end QV
set_option maxRecDepth 100000
set_option maxHeartbeats 4000000
/-! Q10: list comprehensions. -/
namespace QV
open PySem PySem.Spec PyProof.Rows L2
theorem wipe_get {σ : L2.St} {k : Nat} : ∀ {vs : List Nat}, (L2.wipe σ vs)[k]? = if k ∈ vs then (σ[k]?).map (fun _ => none) else σ[k]?
  | [] => by simp [L2.wipe]
  | v :: vs => by
    show ((L2.wipe σ vs).set v none)[k]? = _
    by_cases h : k = v
    · subst h
      rw [if_pos List.mem_cons_self, List.getElem?_set]
      simp only [if_true, L2.wipe_length]
      split
      · rename_i hl
        rw [List.getElem?_eq_getElem hl]
        rfl
      · rename_i hl
        rw [List.getElem?_eq_none (by omega)]
        rfl
    · rw [List.getElem?_set_ne (Ne.symm h), wipe_get]
      simp [h]
theorem wipe_set {σ : L2.St} {vs : List Nat} {i : Nat} {y : Option V} (h : i ∈ vs) : L2.wipe ((L2.wipe σ vs).set i y) vs = L2.wipe σ vs := by
  apply List.ext_getElem?
  intro k
  rw [wipe_get, wipe_get]
  by_cases hk : k ∈ vs
  · rw [if_pos hk, if_pos hk, List.getElem?_set, L2.wipe_length, wipe_get, if_pos hk]
    split
    · rename_i e
      subst e
      split
      · rename_i hl
        rw [List.getElem?_eq_getElem hl]
        rfl
      · rename_i hl
        rw [List.getElem?_eq_none (by omega)]

    · rw [Option.map_map]
      rfl
  · rw [if_neg hk, if_neg hk, List.getElem?_set_ne (fun e => hk (by rw [← e]; exact h)), wipe_get, if_neg hk]
theorem noEx_run {K : PySem.W.Frag} {NM : Nms} {α β : Type} {R : RL α β} {W : WX} {ρ : List Addr} {H : Hp} {σ : L2.St} {m : Ev α} {S : Sto} {Q : β → Hp → Prop} (h : Run K NM R W ρ H σ (noEx m S) Q) (σ' : L2.St) : Run K NM R WF ρ H σ' (m S) Q := by
  unfold noEx at h
  cases e : m S with
  | stk => rw [e] at h; exact h
  | ok a S' => rw [e] at h; exact h
  | ex a S' => rw [e] at h; exact h.elim
def rOp (K : PySem.W.Frag) (NM : Nms) : RL (Option D) (Option V) := fun ρ H a b => match a, b with
  | some d, some v => Rep K NM ρ H d v
  | none, none => True
  | _, _ => False
def rU1 : RL Unit Unit := fun _ _ _ _ => True
theorem set_free {iter : Expr} {env : Env} (h : isSetE iter = false) : ∀ x, foldedSetIterable iter env x = pure x := by
  intro x
  cases iter <;> first | rfl | cases h
section
variable {X : Cx} {NM : Nms} {T : CT} {W : WX} {orc : Orc} {k : Nat} {N : List Str} {sc : Scope} {elt iter : Expr} {ifs : List Expr} {scope : Scope} {own : List (Str × Nat)} {mt : En → Ev Bool} {me : En → Ev D} {mi : En → Ev QV.It} {i : Nat} {x : Str} {px pos : Pos} {q : Nat}
abbrev turnD (mt : En → Ev Bool) (me : En → Ev D) (own : List Nat) (i : Nat) (env : En) (y : D) : Ev (Option D) := noEx (Ev.bind (mt ((wipeD env own).set i (some y))) fun k => match k with
  | true => Ev.bind (me ((wipeD env own).set i (some y))) fun z => Ev.ret (some z)
  | false => Ev.ret none)
/-- one turn: the test, the item, the item put at the end -/
theorem turn_read {ρ : List Addr} {S : Sto} {H : Hp} {σ : L2.St} {env : En} {n : Nat} {z : Addr} {d : D} {v : V} {vs : List Nat} {rest : Ev Unit} {P : Unit → Hp → Prop} {Nx : Hp → Prop} (g : Gd X.K NM ρ S H) (er : EnvR X.K NM X.base T ρ H env σ) (hz : ρ[n]? = some z) (rd : Rep X.K NM ρ H d v)
    (q : Run X.K NM rU1 W ρ H σ ((Ev.bind (turnD mt me vs i env d) fun y => Ev.bind ((match y with
      | some y => Ev.bind (mthD .append (.loc n) [y]) fun _ => Ev.ret ()
      | none => Ev.ret ())) fun _ => rest) S) P)
    (nx : ∀ ρ' S' H', Le ρ H ρ' H' → Gd X.K NM ρ' S' H' → Run X.K NM rU1 W ρ' H' σ (rest S') P → Nx H') :
    tT X NM T WF mt ((L2.wipe σ vs).set i (some v)) H fun b H3 =>
      if b = true then tV X NM T WF me ((L2.wipe σ vs).set i (some v)) H3 fun y H4 => ∃ acc, H4 z = some (.lst acc) ∧ acc.length < sizeLine ∧ Nx (upd H4 z (.lst (acc ++ [y]))) else Nx H3 := by
  have er2 : EnvR X.K NM X.base T ρ H ((wipeD env vs).set i (some d)) ((L2.wipe σ vs).set i (some v)) := EnvR.set (AR.of rd) i (er.wipe vs)
  have q1 := noEx_run (R := rOp X.K NM) (Run.bind (R := rOp X.K NM) q) ((L2.wipe σ vs).set i (some v))
  refine (go (R := rEq) g er2 q1).imp fun b H3 ⟨ρ3, S3, b', l3, g3, (eb : b' = b), q3⟩ => ?_
  subst eb
  cases b' with
  | false =>
    rw [if_neg (by decide)]
    have q3 : Run X.K NM (rOp X.K NM) WF ρ3 H3 ((L2.wipe σ vs).set i (some v)) (Ev.ret none S3) _ := q3
    obtain ⟨ρ4, S4, a, l4, g4, ra, q4⟩ := Run.ret (b := none) q3 g3 trivial
    cases a with
    | some _ => exact ra.elim
    | none =>
      have q4 : Run X.K NM rU1 W ρ4 H3 σ (rest S4) P := q4
      exact nx ρ4 S4 H3 l4 g4 q4
  | true =>
    rw [if_pos rfl]
    refine (go g3 (er2.le l3) q3).imp fun y H4 ⟨ρ4, S4, d4, l4, g4, r4, q4⟩ => ?_
    obtain ⟨ρ5, S5, a, l5, g5, ra, q5⟩ := Run.ret (b := some y) q4 g4 r4
    cases a with
    | none => exact ra.elim
    | some d5 =>
      have q5 : Run X.K NM rU1 W ρ5 H4 σ ((Ev.bind ((Ev.bind (mthD .append (.loc n) [d5]) fun _ => Ev.ret ())) fun _ => rest) S5) P := q5
      have hz5 : ρ5[n]? = some z := l5.get hz
      cases hn : S5[n]? with
      | none =>
        simp only [Ev.bind, mthD, hn] at q5
        exact q5.elim
      | some c =>
        cases c with
        | ro _ => simp only [Ev.bind, mthD, hn] at q5; exact q5.elim
        | dic _ => simp only [Ev.bind, mthD, hn] at q5; exact q5.elim
        | lst xs =>
          obtain ⟨acc, h1, h2⟩ := cell_lst g5 hn hz5
          by_cases hl : decide (xs.length < line) = true
          · obtain ⟨g6, l6⟩ := put_lst g5 hn hz5 h1 (h2.append (RepL.cons ra RepL.nil))
            refine ⟨acc, h1, by rw [h2.length, ← line_eq]; exact of_decide_eq_true hl, nx _ _ _ (l5.trans l6) g6 ?_⟩
            have e : (Ev.bind ((Ev.bind (mthD .append (.loc n) [d5]) fun _ => Ev.ret ())) fun _ => rest) S5 = rest (S5.set n (.lst (xs ++ [d5]))) := by
              simp only [Ev.bind, mthD, hn, hl, onlyIf, putC, Ev.ret]
            rw [e] at q5
            exact q5.base l6
          · rw [Bool.not_eq_true] at hl
            simp only [Ev.bind, mthD, hn, hl, onlyIf, Ev.stuck] at q5
            exact q5.elim
/-- the target's store in the block -/
theorem lc_pg (O : XO NM T orc k q N sc X W) (hx : X.N[i]? = some x) (hl : Loc scope x) (s : Shared) (H : Hp) (C : Addr) (cl : List (Str × Addr)) (fp : List Addr) : PG (X.blk s H scope (compEnvC scope cl C X.env) fp) (.Name x px) (gName i) := by
  have nd : X.N.Nodup := by rw [O.nm]; exact O.nd
  refine pg_name nd hx ?_ ?_
  · rcases hl with h | h
    · exact .inl (lookup_relS_keep (by decide) h)
    · exact .inr (lookup_relS_keep (by decide) h)
  · rcases hl with h | h
    · exact .inr (lookup_relS_keep (by decide) h)
    · exact .inl (by show (scope.names.lookup x == some .cell) = true; rw [h]; rfl)
/-- the loop's reading -/
theorem lc_read (ho : i ∈ own.map (·.2)) {σ : L2.St} {H : Hp} {Q : VK} (h : tV X NM T W (fun env => Ev.bind (mi env) fun J => Ev.bind (newC (.lst [])) fun d => match d with
      | .loc n => Ev.bind (lcRun (turnD mt me (own.map (·.2)) i env) n J) fun _ => Ev.ret d
      | _ => Ev.stuck) σ H Q) : tLc (tI X NM T W mi) (gName i) (tT X NM T WF mt) (tV X NM T WF me) (own.map (·.2)) σ H Q := by
  obtain ⟨ρ, env, S, g, er, q⟩ := h
  refine (go g er q).imp fun J' H1 ⟨ρ1, S1, J, l1, g1, r1, q1⟩ => fun z hz => ?_
  obtain ⟨g2, l2, r2⟩ := new_lst g1 hz RepL.nil
  have er2 := (er.le l1).le l2
  have hz2 : (ρ1 ++ [z])[S1.length]? = some z := by
    obtain ⟨a, e, h⟩ := rep_loc r2
    cases e
    exact h
  have q2 : Run X.K NM (rD1 X.K NM) W (ρ1 ++ [z]) (upd H1 z (.lst [])) σ ((Ev.bind (lcRun (turnD mt me (own.map (·.2)) i env) S1.length J) fun _ => Ev.ret (.loc S1.length)) (S1 ++ [.lst []])) Q := q1.base l2
  have q3 := Run.bind (R := rU1) q2
  cases J with
  | fix xs =>
    refine ⟨fun j m H' => ∃ ρ' S', Le (ρ1 ++ [z]) (upd H1 z (.lst [])) ρ' H' ∧ Gd X.K NM ρ' S' H' ∧ m = xs.length - j ∧ Run X.K NM rU1 W ρ' H' σ (lcFix (turnD mt me (own.map (·.2)) i env) S1.length (xs.drop j) S') (fun b H2 => ∃ ρ2 S2 a, Le (ρ1 ++ [z]) (upd H1 z (.lst [])) ρ2 H2 ∧ Gd X.K NM ρ2 S2 H2 ∧ rU1 ρ2 H2 a b ∧ Run X.K NM (rD1 X.K NM) W ρ2 H2 σ (Ev.ret (.loc S1.length) S2) Q),
      ⟨_, _, _, Le.refl _ _, g2, rfl, q3⟩, fun j m H' ⟨ρ', S', l', g', em, qj⟩ => ?_⟩
    have rj := r1 j ρ' S' H' (l2.trans l') g'
    rcases hd : xs[j]? with _ | d
    · have hlen : xs.length ≤ j := List.getElem?_eq_none_iff.mp hd
      rw [List.drop_eq_nil_of_le hlen] at qj
      obtain ⟨ρ2, S2, a, l3, g3, _, q4⟩ := Run.ret (b := ()) qj g' trivial
      exact .inl ⟨rj.2 hlen, q4.ret g3 (mk_loc (l3.get hz2))⟩
    · obtain ⟨hgo, hy⟩ := rj.1 d hd
      have hlt := (List.getElem?_eq_some_iff.mp hd).1
      have edrop : xs.drop j = d :: xs.drop (j + 1) := by
        rw [List.drop_eq_getElem_cons hlt]
        congr 1
        exact (List.getElem?_eq_some_iff.mp hd).2
      rw [edrop] at qj
      refine .inr ⟨hgo, fun H'' => ∃ ρ'' S'', Le (ρ1 ++ [z]) (upd H1 z (.lst [])) ρ'' H'' ∧ Gd X.K NM ρ'' S'' H'' ∧ Run X.K NM rU1 W ρ'' H'' σ (lcFix (turnD mt me (own.map (·.2)) i env) S1.length (xs.drop (j + 1)) S'') _, fun H'' ⟨ρ'', S'', a1, a2, a3⟩ => ⟨xs.length - (j + 1), by omega, ρ'', S'', a1, a2, rfl, a3⟩, fun v H2 hyl => ?_⟩
      obtain ⟨l3, g3, r3⟩ := hy v H2 hyl
      refine ⟨wipe_set ho, turn_read g3 ((er2.le l').le l3) (l3.get (l'.get hz2)) r3 (Run.base qj l3) fun ρ'' S'' H'' l4 g4 q4 => ⟨ρ'', S'', (l'.trans l3).trans l4, g4, q4⟩⟩
  | live n0 =>
    obtain ⟨a0, ha0, rfl⟩ := r1
    have q3' : Run X.K NM rU1 W (ρ1 ++ [z]) (upd H1 z (.lst [])) σ (match asL (S1 ++ [.lst []]) (.loc n0) with
      | some xs => lcLive (turnD mt me (own.map (·.2)) i env) S1.length n0 xs.length 0 (S1 ++ [.lst []])
      | none => .stk) _ := q3
    split at q3'
    · rename_i xs0 hx0
      refine ⟨fun j m H' => ∃ ρ' S', Le (ρ1 ++ [z]) (upd H1 z (.lst [])) ρ' H' ∧ Gd X.K NM ρ' S' H' ∧ Run X.K NM rU1 W ρ' H' σ (lcLive (turnD mt me (own.map (·.2)) i env) S1.length n0 m j S') (fun b H2 => ∃ ρ2 S2 a, Le (ρ1 ++ [z]) (upd H1 z (.lst [])) ρ2 H2 ∧ Gd X.K NM ρ2 S2 H2 ∧ rU1 ρ2 H2 a b ∧ Run X.K NM (rD1 X.K NM) W ρ2 H2 σ (Ev.ret (.loc S1.length) S2) Q),
        ⟨_, _, _, Le.refl _ _, g2, q3'⟩, fun j m H' ⟨ρ', S', l', g', qj⟩ => ?_⟩
      have ha' : ρ'[n0]? = some a0 := (l2.trans l').get ha0
      have stop : ∀ xs : List D, asL S' (.loc n0) = some xs → xs.length ≤ j → Run X.K NM rU1 W ρ' H' σ (.ok () S') (fun b H2 => ∃ ρ2 S2 a, Le (ρ1 ++ [z]) (upd H1 z (.lst [])) ρ2 H2 ∧ Gd X.K NM ρ2 S2 H2 ∧ rU1 ρ2 H2 a b ∧ Run X.K NM (rD1 X.K NM) W ρ2 H2 σ (Ev.ret (.loc S1.length) S2) Q) → (Itl X.K a0).stop j H' ∧ Q (.ref z) H' := fun xs hxs hlen qs => by
        obtain ⟨p, vs, e, sq, rv⟩ := asL_some g' hxs (mk_loc ha')
        cases e
        obtain ⟨ρ2, S2, a, l3, g3, _, q4⟩ := qs ρ' H' () (Le.refl _ _) g' trivial
        exact ⟨⟨vs, sq, by rw [rv.length]; exact hlen⟩, q4.ret g3 (mk_loc (l3.get hz2))⟩
      cases m with
      | zero =>
        replace qj : Run X.K NM rU1 W ρ' H' σ (match asL S' (.loc n0) with
          | some xs => if xs.length ≤ j then .ok () S' else .stk
          | none => .stk) _ := qj
        split at qj
        · rename_i xs hxs
          split at qj
          · rename_i hlen
            exact .inl (stop xs hxs hlen qj)
          · exact qj.elim
        · exact qj.elim
      | succ m =>
        replace qj : Run X.K NM rU1 W ρ' H' σ (match asL S' (.loc n0) with
          | some xs => match xs[j]? with
            | none => .ok () S'
            | some y => (Ev.bind ((turnD mt me (own.map (·.2)) i env y)) fun y => Ev.bind ((match y with
              | some y => Ev.bind (mthD .append (.loc S1.length) [y]) fun _ => Ev.ret ()
              | none => Ev.ret ())) fun _ => lcLive (turnD mt me (own.map (·.2)) i env) S1.length n0 m (j + 1)) S'
          | none => .stk) _ := qj
        split at qj
        · rename_i xs hxs
          split at qj
          · rename_i hnone
            exact .inl (stop xs hxs (List.getElem?_eq_none_iff.mp hnone) qj)
          · rename_i d hd
            obtain ⟨p, vs, e, sq, rv⟩ := asL_some g' hxs (mk_loc ha')
            cases e
            obtain ⟨v, hv, r3⟩ := rv.get hd
            refine .inr ⟨⟨vs, v, sq, hv⟩, fun H'' => ∃ ρ'' S'', Le (ρ1 ++ [z]) (upd H1 z (.lst [])) ρ'' H'' ∧ Gd X.K NM ρ'' S'' H'' ∧ Run X.K NM rU1 W ρ'' H'' σ (lcLive (turnD mt me (own.map (·.2)) i env) S1.length n0 m (j + 1) S'') _, fun H'' ⟨ρ'', S'', a1, a2, a3⟩ => ⟨m, by omega, ρ'', S'', a1, a2, a3⟩, fun u H2 hyl => ?_⟩
            obtain ⟨eH, hu⟩ := hyl
            subst eH
            have := hu vs sq
            rw [hv] at this
            cases this
            exact ⟨wipe_set ho, turn_read g' (er2.le l') (l'.get hz2) r3 qj fun ρ'' S'' H'' l4 g4 q4 => ⟨ρ'', S'', l'.trans l4, g4, q4⟩⟩
        · exact qj.elim
    · exact q3'.elim
theorem s_lc (O : XO NM T orc k q N sc X W) (hq : q ≠ 0) (hi : PI X (.Name x px) iter (tI X NM T W mi)) (hs : isSetE iter = false) (ok : BlkOk X.N X.env.scope scope own) (hx : X.N[i]? = some x) (hl : Loc scope x) (ho : i ∈ own.map (·.2))
    (ht : ∀ (s : Shared) (H : Hp) (C : Addr) (cl : List (Str × Addr)) (fp : List Addr), PTs (X.blk s H scope (compEnvC scope cl C X.env) fp) ifs (tT X NM T WF mt))
    (he : ∀ (s : Shared) (H : Hp) (C : Addr) (cl : List (Str × Addr)) (fp : List Addr), PE (X.blk s H scope (compEnvC scope cl C X.env) fp) elt (tV X NM T WF me)) :
    PE X (.ListComp elt [⟨.Name x px, iter, ifs, 0⟩] scope pos) (tV X NM T W fun env => Ev.bind (mi env) fun J => Ev.bind (newC (.lst [])) fun d => match d with
      | .loc n => Ev.bind (lcRun (turnD mt me (own.map (·.2)) i env) n J) fun _ => Ev.ret d
      | _ => Ev.stuck) :=
  PE.of (pe_lc (O.calm hq) (by rw [O.nm]; exact O.nd) hi ok (lc_pg O hx hl) ht he (set_free hs)) fun σ H Q h => lc_read ho h
end
end QV
set_option maxRecDepth 100000
set_option maxHeartbeats 4000000
/-! Q11: lambdas: made, given on, called. -/
namespace QV
open PySem PySem.Spec PyProof.Rows L2
section
variable {X : Cx} {pins : List (Addr × Obj)} {σ : L2.St} {H : Hp} {s : Shared} {T : List (Addr × Str)}
/-- a lambda is made; the function object is a new one -/
theorem lam_new {cc PP : Addr} {args : Arguments} {be : Expr} {scope : Scope} {pos : Pos} {Ex : Value → Shared → Prop} {Q : Value → Shared → Prop} (I : Inv X pins σ H s) (tb : LamX.TabB X.base X.mg cc PP) (ec : X.env.code = .ref cc) (hm : (PP, X.env.qual ++ "<lambda>") ∈ T)
    (un : ∀ p ∈ T, p.1 = PP → p.2 = X.env.qual ++ "<lambda>") (tabs : LamX.Tabs T H) (dn : defaultsOf args X.env = ([], [])) (fr : ∀ y ∈ scope.names, y.2 = .free → ∃ c, X.env.cells.lookup y.1 = some c)
    (q : ∀ (f c' : Addr) (pm ctv : Value) (H1 : Hp) (s' : Shared), Inv X pins σ H1 s' → LamX.ExtN H H1 → LamX.Tabs T H1 → s.heap.objs.size ≤ f →
      s'.heap.get? f = some (PySem.W.kla_obj lamName (X.env.qual ++ "<lambda>") args be scope (cloFrom X.env.cells scope.names []) pm c' ctv) → H1 f = none → H1 c' = some (LamX.CodeO c' (X.env.qual ++ "<lambda>")) → Q (.ref f) s') :
    wpAny (model X.prog X.w) X.A (eval (.Lambda args be scope pos) X.env) Q Ex s := by
  obtain ⟨ps, tP, tt, ta⟩ := tabs _ hm
  have bm := tb.bm.keeps I.bk
  have oP : s.heap.get? PP = some { cls := .none, data := .fields ps } := I.hok PP _ tP
  refine PySem.W.kla_eval dn ?_
  rcases known : codeAmong pos ps.toList with _ | cv
  · refine PySem.W.kla_makeFunction (mg := X.mg) (c := cc) (P := PP) (ps := ps) (closure_ok fr) I.ok.glob (I.mod.glob.keeps I.bk) ec (tb.code.keeps I.bk) oP tt known tb.gP bm ?_
    intro c' ctv h1 tk ext ge lt rec tab
    obtain ⟨c2, oc, vs, tq, e2, o1, o2, o3⟩ := rec
    cases e2
    have le1 : s.heap.objs.size ≤ h1.objs.size := Nat.le_trans ge (Nat.le_of_lt lt)
    have free1 : H c' = none := I.hok.fresh ge
    have J := LamX.inv_table (t' := tk) (more := #[rawInt pos.line, rawInt pos.col, .ref c']) (h' := h1.push (PySem.W.kla_obj lamName (X.env.qual ++ "<lambda>") args be scope (cloFrom X.env.cells scope.names []) ((X.mg "__name__").getD .none) c' ctv)) I tP
      (fun b o n e => Heap.get?_push_of_some _ (ext b o n e)) (Heap.get?_push_of_some _ tab) ge ⟨oc, vs, tq, Heap.get?_push_of_some _ o1, o2, o3⟩
    have keep : LamX.ExtN H (upd (upd H PP (.tbl (ps ++ #[rawInt pos.line, rawInt pos.col, .ref c']))) c' (LamX.CodeO c' (X.env.qual ++ "<lambda>"))) := fun b o e n => by
      rw [upd_ne (ne_of_none e free1), upd_ne (fun z => by rw [z, tP] at e; exact n ps (Option.some.inj e).symm)]
      exact e
    have lst : (ps ++ #[rawInt pos.line, rawInt pos.col, .ref c']).toList = ps.toList ++ [rawInt pos.line, rawInt pos.col, .ref c'] := by simp
    refine q h1.objs.size c' ((X.mg "__name__").getD .none) ctv _ _ J keep (fun p hp => ?_) le1 (Heap.get?_push_size _ rfl) ?_ upd_same
    · by_cases hb : p.1 = PP
      · rw [un p hp hb, hb]
        refine ⟨_, by rw [upd_ne (ne_of_none tP free1), upd_same], by rw [lst]; exact PySem.TriplesOk_snoc _ _ _ _ tt, fun p2 cv hcv => ?_⟩
        rw [lst] at hcv
        rcases LamX.among_app _ tt hcv with z | z
        · obtain ⟨c0, a1, a2⟩ := ta p2 cv z
          exact ⟨c0, a1, keep _ _ a2 LamX.codeO_ne⟩
        · exact ⟨c', z, upd_same⟩
      · obtain ⟨ps2, a1, a2, a3⟩ := tabs p hp
        refine ⟨ps2, by rw [upd_ne (ne_of_none a1 free1), upd_ne hb]; exact a1, a2, fun p2 cv hcv => ?_⟩
        obtain ⟨c0, b1, b2⟩ := a3 p2 cv hcv
        exact ⟨c0, b1, keep _ _ b2 LamX.codeO_ne⟩
    · have n1 : h1.objs.size ≠ c' := Nat.ne_of_gt lt
      have n2 : h1.objs.size ≠ PP := Nat.ne_of_gt (Nat.lt_of_lt_of_le (Heap.lt_size oP) le1)
      rw [upd_ne n1, upd_ne n2]
      exact I.hok.fresh le1
  · obtain ⟨c', rfl, co⟩ := ta pos cv known
    refine PySem.W.kla_makeFunctionHit (mg := X.mg) (c := cc) (P := PP) (ps := ps) (closure_ok fr) I.ok.glob (I.mod.glob.keeps I.bk) ec (tb.code.keeps I.bk) oP tt known bm ?_
    intro ctv h1 tk ext le1
    refine q h1.objs.size c' ((X.mg "__name__").getD .none) ctv H _ ?_ (LamX.ExtN.refl H) tabs le1 (Heap.get?_push_size _ rfl) (I.hok.fresh le1) co
    exact I.kept fun b o e => Heap.get?_push_of_some _ (ext b o e)
end
/-! ### known for a while -/
/-- the things at C known as they stand in the heap h -/
def knC (C : List Addr) (h : Heap) (H : Hp) : Hp := fun b => if b ∈ C then (h.get? b).map fun o => .frz o (.own 1) else H b
theorem knC_in {C : List Addr} {h : Heap} {H : Hp} {b : Addr} {o : Obj} (hc : b ∈ C) (e : h.get? b = some o) : knC C h H b = some (.frz o (.own 1)) := by unfold knC; rw [if_pos hc, e]; rfl
theorem knC_out {C : List Addr} {h : Heap} {H : Hp} {b : Addr} (hc : b ∉ C) : knC C h H b = H b := by unfold knC; rw [if_neg hc]
section
variable {P : Program} {w : World} {C : List Addr} {h h' : Heap} {H H' G : Hp} {fs : List Addr}
theorem tmp_knC (k : ∀ c ∈ C, ∃ o, h.get? c = some o) : Tmp C (knC C h H) := fun c hc => by
  obtain ⟨o, e⟩ := k c hc
  exact ⟨o, knC_in hc e⟩
theorem del_knC (n : ∀ c ∈ C, H c = none) : delC C (knC C h H) = H := by
  funext b
  by_cases hb : b ∈ C
  · rw [delC_in hb, n b hb]
  · rw [delC_out hb, knC_out hb]
theorem objOk_more {H1 H2 : Hp} {a : Addr} {o : HO} (x : ObjOk P w H1 h a o) (ho : ∀ b, H1 b = some (.own a) → H2 b = some (.own a)) (ht : ∀ b xs, H1 b = some (.tup xs) → H2 b = some (.tup xs)) : ObjOk P w H2 h a o :=
  x.stay (fun _ _ _ e => e) ho ht
theorem hok_knC (ok : HOk P w H h) (n : ∀ c ∈ C, H c = none) (k : ∀ c ∈ C, ∃ o, h.get? c = some o) : HOk P w (knC C h H) h := fun b u e => by
  have out : ∀ {b : Addr} {u : HO}, H b = some u → b ∉ C := fun {b u} e hc => by rw [n b hc] at e; cases e
  by_cases hb : b ∈ C
  · obtain ⟨o, ho⟩ := k b hb
    rw [knC_in hb ho] at e
    cases e
    exact ⟨ho, o, ho⟩
  · rw [knC_out hb] at e
    exact objOk_more (ok b u e) (fun d z => by rw [knC_out (out z)]; exact z) (fun d xs z => by rw [knC_out (out z)]; exact z)
theorem hok_del (ok : HOk P w H h) (t : Tmp C H) : HOk P w (delC C H) h := fun b u e => by
  obtain ⟨e, _⟩ := of_delC e
  exact objOk_more (ok b u e) (fun d z => delC_some t z fun u y => by cases y) (fun d xs z => delC_some t z fun u y => by cases y)
theorem hok_add (ok : HOk P w H' h) (n : ∀ c ∈ C, H' c = none) (k : ∀ c ∈ C, ∃ o, G c = some (.frz o (.own 1)) ∧ h.get? c = some o) : HOk P w (addC C G H') h := fun b u e => by
  by_cases hb : b ∈ C
  · rw [addC_in hb] at e
    obtain ⟨o, h1, h2⟩ := k b hb
    rw [h1] at e
    cases e
    exact ⟨h2, o, h2⟩
  · rw [addC_out hb] at e
    exact objOk_more (ok b u e) (fun d z => addC_sub n z) (fun d xs z => addC_sub n z)
/-- a callee that knew the things at C as well -/
theorem un_del (u : Un fs [] (knC C h H) H' h h') (ok : HOk P w H' h') (n : ∀ c ∈ C, H c = none) (k : ∀ c ∈ C, ∃ o, h.get? c = some o) : Un fs [] H (delC C H') h h' ∧ HOk P w (delC C H') h' := by
  have out : ∀ {b : Addr} {u : HO}, H b = some u → b ∉ C := fun {b u} e hc => by rw [n b hc] at e; cases e
  have st : ∀ {c : Addr} {o : Obj}, c ∈ C → h.get? c = some o → H' c = some (.frz o (.own 1)) ∧ h'.get? c = some o := fun {c o} hc e => by
    have a := u.frzs c o (.own 1) (knC_in hc e)
    exact ⟨a, (ok c _ a).1⟩
  have tm : Tmp C H' := fun c hc => by
    obtain ⟨o, e⟩ := k c hc
    exact ⟨o, (st hc e).1⟩
  refine ⟨⟨fun b o e hn hf hx => ?_, fun b o e hn hf hx => ?_, fun b o e hn hx => ?_, u.there, fun b xs e => ?_, fun b o v e => ?_, fun b ps e => ?_⟩, hok_del ok tm⟩
  · by_cases hb : b ∈ C
    · exact (st hb e).2
    · exact u.keep b o e (by rw [knC_out hb]; exact hn) hf hx
  · by_cases hb : b ∈ C
    · exact ⟨o.slots, by rw [(st hb e).2]⟩
    · exact u.slot b o e (by rw [knC_out hb]; exact hn) hf hx
  · by_cases hb : b ∈ C
    · exact delC_in hb
    · rw [delC_out hb]
      exact u.free b o e (by rw [knC_out hb]; exact hn) hx
  · rw [delC_out (out e)]
    exact u.tups b xs (by rw [knC_out (out e)]; exact e)
  · rw [delC_out (out e)]
    exact u.frzs b o v (by rw [knC_out (out e)]; exact e)
  · obtain ⟨more, z⟩ := u.tbls b ps (by rw [knC_out (out e)]; exact e)
    exact ⟨more, by rw [delC_out (out e)]; exact z⟩
/-- a body that did not know the things at C -/
theorem un_add (u : Un fs [] (delC C H) H' h h') (ok : HOk P w H' h') (okH : HOk P w H h) (t : Tmp C H) (nf : ∀ c ∈ C, c ∉ fs) (n : ∀ c ∈ C, H' c = none) : Un fs [] H (addC C H H') h h' ∧ HOk P w (addC C H H') h' := by
  have st : ∀ {c : Addr}, c ∈ C → ∃ o, H c = some (.frz o (.own 1)) ∧ h'.get? c = some o := fun {c} hc => by
    obtain ⟨o, e⟩ := t c hc
    exact ⟨o, e, u.keep c o (okH c _ e).1 (delC_in hc) (nf c hc) (by simp)⟩
  refine ⟨⟨fun b o e hn hf hx => ?_, fun b o e hn hf hx => ?_, fun b o e hn hx => ?_, u.there, fun b xs e => ?_, fun b o v e => ?_, fun b ps e => ?_⟩, hok_add ok n fun c hc => st hc⟩
  · by_cases hb : b ∈ C
    · obtain ⟨o', e', _⟩ := st hb
      rw [hn] at e'
      cases e'
    · exact u.keep b o e (by rw [delC_out hb]; exact hn) hf hx
  · by_cases hb : b ∈ C
    · exact absurd hf (nf b hb)
    · exact u.slot b o e (by rw [delC_out hb]; exact hn) hf hx
  · by_cases hb : b ∈ C
    · obtain ⟨o', e', _⟩ := st hb
      rw [hn] at e'
      cases e'
    · rw [addC_out hb]
      exact u.free b o e (by rw [delC_out hb]; exact hn) hx
  · exact addC_sub n (u.tups b xs (delC_some t e fun u y => by cases y))
  · by_cases hb : b ∈ C
    · rw [addC_in hb]
      exact e
    · rw [addC_out hb]
      exact u.frzs b o v (by rw [delC_out hb]; exact e)
  · obtain ⟨more, z⟩ := u.tbls b ps (delC_some t e fun u y => by cases y)
    exact ⟨more, addC_sub n z⟩
/-- .. behind an exception -/
theorem ub_del {B : Heap} (u : UB fs (knC C h H) H' h B h') (ok : HOk P w H' B) (n : ∀ c ∈ C, H c = none) (k : ∀ c ∈ C, ∃ o, h.get? c = some o) : UB fs H (delC C H') h B h' ∧ HOk P w (delC C H') B := by
  have out : ∀ {b : Addr} {u : HO}, H b = some u → b ∉ C := fun {b u} e hc => by rw [n b hc] at e; cases e
  have st : ∀ {c : Addr} {o : Obj}, c ∈ C → h.get? c = some o → H' c = some (.frz o (.own 1)) ∧ B.get? c = some o := fun {c o} hc e => by
    have a := u.frzs c o (.own 1) (knC_in hc e)
    exact ⟨a, (ok c _ a).1⟩
  have tm : Tmp C H' := fun c hc => by
    obtain ⟨o, e⟩ := k c hc
    exact ⟨o, (st hc e).1⟩
  refine ⟨⟨fun b o e hn hf => ?_, u.slot, fun b o e hn => ?_, u.there, fun b xs e => ?_, fun b o v e => ?_, fun b ps e => ?_⟩, hok_del ok tm⟩
  · by_cases hb : b ∈ C
    · exact (st hb e).2
    · exact u.keep b o e (by rw [knC_out hb]; exact hn) hf
  · by_cases hb : b ∈ C
    · exact delC_in hb
    · rw [delC_out hb]
      exact u.free b o e (by rw [knC_out hb]; exact hn)
  · rw [delC_out (out e)]
    exact u.tups b xs (by rw [knC_out (out e)]; exact e)
  · rw [delC_out (out e)]
    exact u.frzs b o v (by rw [knC_out (out e)]; exact e)
  · obtain ⟨more, z⟩ := u.tbls b ps (by rw [knC_out (out e)]; exact e)
    exact ⟨more, by rw [delC_out (out e)]; exact z⟩
theorem ub_add {B : Heap} (u : UB fs (delC C H) H' h B h') (ok : HOk P w H' B) (okH : HOk P w H h) (t : Tmp C H) (nf : ∀ c ∈ C, c ∉ fs) (n : ∀ c ∈ C, H' c = none) : UB fs H (addC C H H') h B h' ∧ HOk P w (addC C H H') B := by
  have st : ∀ {c : Addr}, c ∈ C → ∃ o, H c = some (.frz o (.own 1)) ∧ B.get? c = some o := fun {c} hc => by
    obtain ⟨o, e⟩ := t c hc
    exact ⟨o, e, u.keep c o (okH c _ e).1 (delC_in hc) (nf c hc)⟩
  refine ⟨⟨fun b o e hn hf => ?_, u.slot, fun b o e hn => ?_, u.there, fun b xs e => ?_, fun b o v e => ?_, fun b ps e => ?_⟩, hok_add ok n fun c hc => st hc⟩
  · by_cases hb : b ∈ C
    · obtain ⟨o', e', _⟩ := st hb
      rw [hn] at e'
      cases e'
    · exact u.keep b o e (by rw [delC_out hb]; exact hn) hf
  · by_cases hb : b ∈ C
    · obtain ⟨o', e', _⟩ := st hb
      rw [hn] at e'
      cases e'
    · rw [addC_out hb]
      exact u.free b o e (by rw [delC_out hb]; exact hn)
  · exact addC_sub n (u.tups b xs (delC_some t e fun u y => by cases y))
  · by_cases hb : b ∈ C
    · rw [addC_in hb]
      exact e
    · rw [addC_out hb]
      exact u.frzs b o v (by rw [delC_out hb]; exact e)
  · obtain ⟨more, z⟩ := u.tbls b ps (delC_some t e fun u y => by cases y)
    exact ⟨more, addC_sub n z⟩
end
end QV
set_option maxRecDepth 100000
set_option maxHeartbeats 4000000
/-! Q12: lambdas given on and called. -/
namespace QV
open PySem PySem.Spec PyProof.Rows L2
section
variable {K : PySem.W.Frag} {NM : Nms} {W : WX} {ρ : List Addr} {H : Hp} {σ : L2.St} {C : List Addr} {o : Out D} {Q : VK} {h : Heap}
theorem exr_more {H H' : Hp} {e : D} {cls : Value} {dd : Option Addr} (k : ∀ a o, H a = some o → H' a = some o) (x : ExR K NM ρ H e cls dd) : ExR K NM ρ H' e cls dd := by
  cases e <;> first | exact x.elim | skip
  obtain ⟨e0, e1, e2⟩ := x
  refine ⟨e0, e1, ?_⟩
  rcases e2 with e2 | ⟨d, gs, a1, a2, a3⟩
  · exact .inl e2
  · exact .inr ⟨d, gs, a1, k _ _ a2, RepF.le (Le.heap (HExt.all k)) a3⟩
theorem exr_del {H : Hp} {e : D} {cls : Value} {dd : Option Addr} (t : Tmp C H) (x : ExR K NM ρ H e cls dd) : ExR K NM ρ (delC C H) e cls dd := by
  cases e <;> first | exact x.elim | skip
  obtain ⟨e0, e1, e2⟩ := x
  refine ⟨e0, e1, ?_⟩
  rcases e2 with e2 | ⟨d, gs, a1, a2, a3⟩
  · exact .inl e2
  · exact .inr ⟨d, gs, a1, delC_some t a2 fun u z => (by cases z), RepF.del t a3⟩
/-- to a callee that knows the things at C -/
theorem Run.kn (r : Run K NM (rD1 K NM) W ρ H σ o Q) (n : ∀ c ∈ C, H c = none) (k : ∀ c ∈ C, ∃ o, h.get? c = some o) (σ' : L2.St) :
    Run K NM (rD1 K NM) (fun cls dd _ H' => W cls dd σ (delC C H')) ρ (knC C h H) σ' o (fun v H' => Q v (delC C H')) := by
  have tm : ∀ {ρ' H'}, Le ρ (knC C h H) ρ' H' → Tmp C H' := fun {ρ' H'} l c hc => by
    obtain ⟨u, e⟩ := tmp_knC (H := H) k c hc
    exact ⟨u, l.ext.imm _ _ trivial e⟩
  cases o with
  | stk => exact r
  | ok d S => exact fun ρ' H' b l g rb => r ρ' _ b (l.undel n fun b hb => knC_out hb) (g.del (tm l)) (Rep.del (tm l) rb)
  | ex e S => exact fun ρ' H' cls dd l g x => r ρ' _ cls dd (l.undel n fun b hb => knC_out hb) (g.del (tm l)) (exr_del (tm l) x)
/-- to a body that does not know them -/
theorem Run.un (r : Run K NM (rD1 K NM) W ρ H σ o Q) (σ' : L2.St) :
    Run K NM (rD1 K NM) (fun cls dd _ H' => (∀ c ∈ C, H' c = none) → W cls dd σ (addC C H H')) ρ (delC C H) σ' o (fun v H' => (∀ c ∈ C, H' c = none) → Q v (addC C H H')) := by
  cases o with
  | stk => exact r
  | ok d S => exact fun ρ' H' b l g rb n => r ρ' _ b l.add (g.more fun _ _ => addC_sub n) (Rep.le (Le.heap (HExt.all fun _ _ => addC_sub n)) rb)
  | ex e S => exact fun ρ' H' cls dd l g x n => r ρ' _ cls dd l.add (g.more fun _ _ => addC_sub n) (exr_more (fun _ _ => addC_sub n) x)
end
section
variable {P : Program} {w : World} {outer : List Env} {C : List Addr} {H : Hp} {s s' : Shared} {Q : VK} {E : XK}
theorem ce_del {u : Value} (n : ∀ c ∈ C, H c = none) (k : ∀ c ∈ C, ∃ o, s.heap.get? c = some o) (x : CE outer P w (knC C s.heap H) s (fun v H' => Q v (delC C H')) u s') : CE outer P w H s Q u s' := by
  obtain ⟨v, H', a1, a2, a3, a4, a5, a6⟩ := x
  obtain ⟨b1, b2⟩ := un_del a3 a4 n k
  exact ⟨v, _, a1, a2, b1, b2, a5, a6⟩
theorem cx_del {u : Value} (n : ∀ c ∈ C, H c = none) (k : ∀ c ∈ C, ∃ o, s.heap.get? c = some o) (x : L2.CX P w outer (knC C s.heap H) s (fun cls dd H' => E cls dd (delC C H')) u s') : L2.CX P w outer H s E u s' := by
  obtain ⟨a, B, H', cls, d, a1, a2, a3, a4, a5, a6, a7, a8⟩ := x
  obtain ⟨b1, b2⟩ := ub_del a4 a3 n k
  refine ⟨a, B, _, cls, d, a1, a2, b2, b1, ?_, a6, a7, a8⟩
  by_cases ha : a ∈ C
  · exact delC_in ha
  · rw [delC_out ha]
    exact a5
end
section
variable {X : Cx} {NM : Nms} {T : CT} {W : WX} {orc : Orc} {k q : Nat} {N : List Str} {sc : Scope} {pos p lp : Pos}
theorem ext_of {H H1 : Hp} (e : LamX.ExtN H H1) : HExt H H1 := ⟨fun a o i h => e a o h fun ps z => by subst z; exact i, fun c q h => e c _ h LamX.codeO_ne⟩
theorem gd_ext {K : PySem.W.Frag} {ρ : List Addr} {S : Sto} {H H1 : Hp} (g : Gd K NM ρ S H) (e : LamX.ExtN H H1) (t : LamX.Tabs NM.tabs H1) : Gd K NM ρ S H1 where
  len := g.len
  inj := g.inj
  cell := fun n c a h1 h2 => (g.cell n c a h1 h2).le (Le.heap (ext_of e)) fun m => by
    have hc := g.cell n c a h1 h2
    cases c with
    | lst xs => obtain ⟨vs, z, _⟩ := hc; rw [z]; exact e _ _ z fun ps y => by cases y
    | ro xs => cases m
    | dic xs => obtain ⟨vs, z, _⟩ := hc; rw [z]; exact e _ _ z fun ps y => by cases y
  tabs := t
theorem lamS_of {scope sc : Scope} (h : (decide (scope.kind = .function) && !scope.isCoroutine && !scope.isGenerator && scope.names.all fun y => !decide (y.2 = .local) && !decide (y.2 = .cell) && (!decide (y.2 = .free) || decide (sc.names.lookup y.1 = some .cell))) = true) :
    scope.kind = .function ∧ scope.isCoroutine = false ∧ scope.isGenerator = false ∧ (∀ y ∈ scope.names, y.2 ≠ .local ∧ y.2 ≠ .cell) ∧ ∀ y ∈ scope.names, y.2 = .free → sc.names.lookup y.1 = some .cell := by
  simp only [Bool.and_eq_true, Bool.or_eq_true, Bool.not_eq_true', decide_eq_true_eq, decide_eq_false_iff_not, List.all_eq_true] at h
  obtain ⟨⟨⟨h1, h2⟩, h3⟩, h4⟩ := h
  exact ⟨h1, h2, h3, fun y hy => (h4 y hy).1, fun y hy e => (h4 y hy).2.elim (fun z => absurd e z) id⟩
/-- f(lambda: ..) -/
theorem s_callL (O : XO NM T orc k 2 N sc X W) {x : Str} {j m : Nat} {be : Expr} {scope : Scope} (h1 : okName x = true) (hg : glB sc x = true) (hj : ix T.defs x = some j)
    (hl : (decide (scope.kind = .function) && !scope.isCoroutine && !scope.isGenerator && scope.names.all fun y => !decide (y.2 = .local) && !decide (y.2 = .cell) && (!decide (y.2 = .free) || decide (sc.names.lookup y.1 = some .cell))) = true) :
    PE X (.Call (.Name x p) [.Lambda noArgs be scope lp] [] pos) (tV X NM T W fun env => orc (.fn j) [.clo (cE T 1 N m scope be) env]) := by
  obtain ⟨hm, hk⟩ := O.fx.gdef x j hj
  obtain ⟨l1, l2, l3, l4, l5⟩ := lamS_of hl
  obtain ⟨cel, cc, PP, tb, ec, hmem, hun⟩ := O.lam rfl
  refine ⟨fun pins s σ H Q I ⟨ρ, env, S, g, er, q⟩ => ?_⟩
  have look5 : ∀ y ∈ scope.names, y.2 = .free → ∃ c, X.env.cells.lookup y.1 = some c := fun y hy e => I.ok.has _ (.inl (by show X.env.scope.names.lookup _ = _; rw [O.sc]; exact l5 y hy e))
  have cm : ∀ {y c}, (cloFrom X.env.cells scope.names []).lookup y = some c → (y, NameKind.free) ∈ scope.names ∧ X.env.cells.lookup y = some c := fun {y c} e => by
    rcases cloFrom_mem (PySem.mem_of_lookup e) with hm | ⟨e1, e2⟩
    · cases hm
    · obtain ⟨c1, hc⟩ := look5 _ e1 rfl
      have hc : X.env.cells.lookup y = some c1 := hc
      refine ⟨e1, ?_⟩
      rw [e2]
      simp only [hc, Option.getD_some]
  refine wpAny_Call_Name_kw (ld_glob I (O.gl hg) hm ?_ (ok_dbg h1))
  refine PySem.W.callWith_K (h₀ := X.base) I.ok.mod.kin hk ?_ rfl rfl
  show wpAny _ _ (spliced [(false, eval (.Lambda noArgs be scope lp) X.env)]) _ _ s
  refine PySem.Calls.spliced_cons (lam_new I tb ec hmem hun g.tabs rfl look5 ?_)
  intro f c' pm ctv H1 s1 I1 ex tabs ge of1 nf co
  refine PySem.Calls.spliced_nil ⟨I1.kIn, ?_⟩
  have hB : ∀ b o, X.base.get? b = some o → b < s.heap.objs.size := fun b o e => Heap.lt_size (I.bk b o e)
  have memC : ∀ {c : Addr}, c ∈ (cloFrom X.env.cells scope.names []).map (·.2) → ∃ y, X.env.cells.lookup y = some c := fun {c} hc => by
    obtain ⟨⟨y, c0⟩, hyc, rfl⟩ := List.mem_map.mp hc
    rcases cloFrom_mem hyc with hm | ⟨e1, e2⟩
    · cases hm
    · obtain ⟨c1, hc1⟩ := look5 _ e1 rfl
      have hc1 : X.env.cells.lookup y = some c1 := hc1
      refine ⟨y, ?_⟩
      rw [hc1, e2, hc1]
      rfl
  have isf : s1.heap.get? f ≠ none := by rw [of1]; exact fun z => by cases z
  have factC : ∀ c ∈ f :: (cloFrom X.env.cells scope.names []).map (·.2), H1 c = none ∧ (∃ o, s1.heap.get? c = some o) ∧ X.base.get? c = none ∧ c ∉ frs X.stack := fun c hc => by
    rcases List.mem_cons.mp hc with rfl | hc
    · refine ⟨nf, ⟨_, of1⟩, ?_, fun z => ?_⟩
      · cases hb : X.base.get? c with
        | none => rfl
        | some o => exact absurd (hB _ _ hb) (Nat.not_lt.mpr ge)
      · rcases List.mem_cons.mp (I.stkSub _ z) with e | e
        · exact absurd (e ▸ I.lt) (Nat.not_lt.mpr ge)
        · exact I.nofs ge e
    · obtain ⟨y, hy⟩ := memC hc
      obtain ⟨v, o, ho, _⟩ := I1.cell y c hy
      exact ⟨I1.freeC y c hy, ⟨o, ho⟩, (cel y c hy).1, (cel y c hy).2⟩
  have n := fun c hc => (factC c hc).1
  have kn := fun c hc => (factC c hc).2.1
  have le1 : Le ρ H ρ H1 := Le.heap (ext_of ex)
  have g1 := gd_ext g ex tabs
  have er1 := er.le le1
  have tm := tmp_knC (H := H1) kn
  have cf : ∀ y c, X.env.cells.lookup y = some c → c ≠ f := fun y c hy z => by
    obtain ⟨v, o, ho, hd⟩ := I1.cell y c hy
    rw [z, of1] at ho
    cases ho
    cases hd
  have cC : ∀ {y c}, (cloFrom X.env.cells scope.names []).lookup y = some c → c ∈ f :: (cloFrom X.env.cells scope.names []).map (·.2) := fun {y c} e => List.mem_cons_of_mem _ (List.mem_map.mpr ⟨_, PySem.mem_of_lookup e, rfl⟩)
  have sub : ∀ a o, H1 a = some o → knC (f :: (cloFrom X.env.cells scope.names []).map (·.2)) s1.heap H1 a = some o := fun a o e => by
    rw [knC_out]
    · exact e
    · intro hc
      rw [n a hc] at e
      cases e
  have g2 := g1.more sub
  have la : LamAt X.base T (knC (f :: (cloFrom X.env.cells scope.names []).map (·.2)) s1.heap H1) (cE T 1 N m scope be) env.length f (X.env.qual ++ "<lambda>") scope be N (cloFrom X.env.cells scope.names []) pm c' ctv :=
    { obj := knC_in List.mem_cons_self of1
      code := sub _ _ co
      kind := l1
      co := l2
      gen := l3
      own := l4
      nd := O.nd
      com := ⟨m, rfl⟩
      len := by rw [← er.length, I.len, O.nm]
      nf := (factC f List.mem_cons_self).2.2.1
      cell := fun p e => by
        have hc : p.2 ∈ (cloFrom X.env.cells scope.names []).map (·.2) := List.mem_map.mpr ⟨p, e, rfl⟩
        obtain ⟨y, hy⟩ := memC hc
        obtain ⟨v, o, ho, hd⟩ := I1.cell y p.2 hy
        exact ⟨(cel y p.2 hy).1, cf y p.2 hy, o, v, knC_in (List.mem_cons_of_mem _ hc) ho, hd⟩
      inj := fun y z c e1 e2 => I.ok.inj y z c (cm e1).2 (cm e2).2
      has := fun y hy e => mem_lookup (cloFrom_has (cells := X.env.cells) (acc := []) (by rw [← e]; exact hy)) }
  have ar : AR X.K NM X.base T ρ (knC (f :: (cloFrom X.env.cells scope.names []).map (·.2)) s1.heap H1) (.clo (cE T 1 N m scope be) env) (.ref f) := by
    simp only [AR]
    refine ⟨f, _, scope, be, N, _, pm, c', ctv, σ, rfl, la, ?_, fun i y u e1 e2 e3 => ?_⟩
    · rw [del_knC n]
      exact er1
    · have hy := PySem.mem_of_lookup e3
      obtain ⟨mp, _, hlo⟩ := I1.loc
      have vis : Vis X.env.scope y := .inr (.inl (by rw [O.sc]; exact l5 _ hy rfl))
      obtain ⟨w', r, lk⟩ := hlo i y u (by rw [O.nm]; exact e1) e2 vis
      rcases lk with ⟨kl, _⟩ | ⟨_, c3, e4, o3, ho3, hd3⟩
      · have kl : X.env.scope.names.lookup y = some .local := kl
        rw [O.sc, l5 _ hy rfl] at kl
        cases kl
      · obtain ⟨c4, h4⟩ := mem_lookup (cloFrom_has (cells := X.env.cells) (acc := []) hy)
        have h5 := (cm h4).2
        rw [e4] at h5
        cases h5
        exact ⟨c3, o3, w', h4, knC_in (cC h4) ho3, hd3, r⟩
  have e0 := I1.env0
  have e2 : Env0 X.prog X.w X.K X.mg X.base X.A X.stack s1 (knC (f :: (cloFrom X.env.cells scope.names []).map (·.2)) s1.heap H1) :=
    { frames := e0.frames
      mod := e0.mod
      bs := fun b o e => ⟨(e0.bs b o e).1, by
        rw [knC_out]
        · exact (e0.bs b o e).2
        · intro hc
          rw [(factC b hc).2.2.1] at e
          cases e⟩
      bsz := e0.bsz
      funs := e0.funs
      frf := fun b hb => by
        rw [knC_out]
        · exact e0.frf b hb
        · exact fun hc => (factC b hc).2.2.2 hb
      hok := hok_knC e0.hok n kn
      bare := e0.bare }
  have q1 : Run X.K NM (rD1 X.K NM) W ρ H1 σ (orc (.fn j) [.clo (cE T 1 N m scope be) env] S) Q := q.base le1
  have c := O.call X.A X.stack s1 _ (.fn j) [.clo (cE T 1 N m scope be) env] (.ref (fnA X.K NM j)) [.ref f] (.ref (fnA X.K NM j)) [.ref f] ⟨[.ref f], []⟩ ρ S _ (fun cls dd H' => W cls dd σ (delC (f :: (cloFrom X.env.cells scope.names []).map (·.2)) H'))
    ((O.room (by decide)).mono (by omega)) (O.gd (by decide)) e2 g2 ar_fn rfl (ARL.one ar) (.cons rfl .nil) (.pos _ _) (q1.kn n kn ([] : L2.St))
  refine wpAny_call (codeAny_mono c fun r s' hq => ?_)
  cases r with
  | error x => exact O.tk x s' (XE.of_call I1 (fun _ _ _ w => w) (cx_del (E := fun cls dd H' => W cls dd σ H') n kn hq))
  | ok fl =>
    cases fl with
    | ret u => exact I1.after (ce_del n kn hq)
    | next => exact hq.elim
    | brk => exact hq.elim
    | cont => exact hq.elim
/-- x(), x a name that holds a lambda -/
theorem s_clv (O : XO NM T orc k q N sc X W) (hq : q ≠ 0) {x : Str} {i : Nat} (hN : X.N[i]? = some x) (hv : Vis X.env.scope x) (h1 : okName x = true) : PE X (.Call (.Name x p) [] [] pos) (tV X NM T W fun env => match env[i]? with
    | some (some (.clo b e)) => orc (.clo b e) []
    | _ => Ev.stuck) := by
  refine ⟨fun pins s σ H Q I ⟨ρ, env, S, g, er, r⟩ => ?_⟩
  have h2 := h1
  unfold okName at h2
  simp only [Bool.and_eq_true, Bool.not_eq_true', decide_eq_false_iff_not] at h2
  dsimp only at r
  rcases he : env[i]? with _ | _ | d
  · rw [he] at r
    exact r.elim
  · rw [he] at r
    exact r.elim
  · rw [he] at r
    cases d <;> first | exact r.elim | skip
    rename_i b en
    obtain ⟨v, e1, ar⟩ := er.get he
    refine wpAny_Call_Name_kw (thn ((pe_var (pos := p) hN hv (beq_eq_false_iff_ne.mpr h2.1) (beq_eq_false_iff_ne.mpr h2.2)).run pins s σ H (fun v' H1 => v' = v ∧ H1 = H) I ⟨v, e1, rfl, rfl⟩) fun u s1 ⟨v', H1, I1, ru, ev, eH⟩ => ?_)
    subst ev eH
    have ar2 := ar
    simp only [AR] at ar2
    obtain ⟨f, q2, scope, be, N2, cl, pm, c', ctv, σ2, rfl, la, _, _⟩ := ar2
    obtain rfl : u = Value.ref f := ru
    obtain ⟨of1, _⟩ := (show ObjOk X.prog X.w H1 s1.heap f (.frz _ (.own 1)) from I1.hok f _ la.obj)
    refine PySem.W.callWith_F0 ⟨_, _, _, _, of1⟩ ?_
    exact run_orc O hq I1 g ar rfl (show ARL X.K NM X.base T ρ H1 [] [] from rfl) .nil (.pos _ _) r
end
end QV
set_option maxRecDepth 100000
set_option maxHeartbeats 8000000
/-! Q13: every expression of the small language is read rightly. -/
namespace QV
open PySem PySem.Spec PyProof.Rows L2
theorem bind_assoc {α β γ : Type} (m : Ev α) (f : α → Ev β) (g : β → Ev γ) : (Ev.bind ((Ev.bind (m) (f))) (g)) = (Ev.bind (m) fun x => Ev.bind (f x) (g)) := by
  funext S
  simp only [Ev.bind]
  cases m S <;> rfl
theorem bind_ret {α β : Type} (a : α) (f : α → Ev β) : (Ev.bind ((Ev.ret a : Ev α)) (f)) = f a := rfl
structure PET (X : Cx) (NM : Nms) (T : CT) (W : WX) (orc : Orc) (e : Expr) (c : C) : Prop where
  pe : PE X e (tV X NM T W (evC orc c))
  pt : PT X e (tT X NM T W fun env => Ev.bind (evC orc c env) (asBl))
section
variable {X : Cx} {NM : Nms} {T : CT} {W : WX} {orc : Orc} {k q : Nat} {N : List Str} {sc : Scope} {e : Expr} {c : C}
theorem pet_stk : PET X NM T W orc e .stk := ⟨pe_stk fun _ _ => rfl, ⟨fun pins s σ H Q I r => by
  obtain ⟨ρ, env, S, g, er, r⟩ := r
  exact r.elim⟩⟩
theorem pet_val (h : PE X e (tV X NM T W (evC orc c))) (he : ∀ whole, PySem.isTrue e X.env whole = (do let v ← whole; standAt e.pos; holding [v] (truthy v))) : PET X NM T W orc e c := ⟨h, st_val h he⟩
theorem XO.blk (O : XO NM T orc k q N sc X W) (hq : q ≠ 0) (s : Shared) (H : Hp) (scope : Scope) (C : Addr) (cl : List (Str × Addr)) (fp : List Addr) : XO NM T orc k 1 N (relB scope sc) (X.blk s H scope (compEnvC scope cl C X.env) fp) WF where
  fx := O.fx
  mor := O.mor
  call := O.call
  nm := O.nm
  nd := O.nd
  sc := by
    have e := O.sc
    subst e
    rfl
  un := O.un
  calm := fun _ => O.calm hq
  room := fun _ => O.room hq
  gd := fun _ => O.gd hq
  tk := fun u s' ⟨_, _, _, _, _, _, _, _, _, _, _, _, _, _, _, _, f⟩ => f.elim
  lam := fun z => by cases z
theorem bin_ok {op : Operator} {o : Op} (h : opOf op = some o) : OpR X (binaryOp op) (rD X.K NM (opD o)) := by
  cases op <;> first | (cases h; done) | skip
  · cases h; exact op_addD
  · cases h; exact op_subD
  · cases h; exact op_mulD
  · cases h; exact op_modD
  · cases h; exact op_powD
  · cases h; exact op_fdivD
theorem cmp_ok (hu : X.A.units + 100 < cLine) {op : CmpOp} {o : Cm} (h : cmOf op = some o) : OpR X (compareOp op) (rD X.K NM (cmD o)) ∧ o ≠ .isN ∧ o ≠ .notN := by
  cases op <;> first | (cases h; done) | skip
  · cases h; exact ⟨op_eqDD hu, by decide, by decide⟩
  · cases h; exact ⟨op_neDD hu, by decide, by decide⟩
  · cases h; exact ⟨op_ltD, by decide, by decide⟩
  · cases h; exact ⟨op_leD, by decide, by decide⟩
  · cases h; exact ⟨op_gtD, by decide, by decide⟩
  · cases h; exact ⟨op_geD, by decide, by decide⟩
  · cases h; exact ⟨op_inD, by decide, by decide⟩
  · cases h; exact ⟨op_notinD, by decide, by decide⟩
theorem ev_cmp {o : Cm} {a b : C} (h1 : o ≠ .isN) (h2 : o ≠ .notN) : evC orc (.cmp o a b) = fun env => Ev.bind (evC orc a env) fun x => Ev.bind (evC orc b env) fun y => cmD o x y := by
  funext env
  cases o <;> first | exact absurd rfl h1 | exact absurd rfl h2 | simp only [evC]
theorem no_mark {op : CmpOp} {b : Expr} (h : isSetE b = false) : behindInMarks op b = false := by cases b <;> first | rfl | cases h
theorem pet_cmp (hu : X.A.units + 100 < cLine) {op : CmpOp} {o : Cm} {a b : Expr} {ca cb : C} {pos : Pos} (h : cmOf op = some o) (hs : isSetE b = false) (ha : PE X a (tV X NM T W (evC orc ca))) (hb : PE X b (tV X NM T W (evC orc cb))) : PET X NM T W orc (.Compare a [op] [b] pos) (.cmp o ca cb) := by
  obtain ⟨h1, h2, h3⟩ := cmp_ok (NM := NM) hu h
  have e := ev_cmp (orc := orc) (a := ca) (b := cb) h2 h3
  refine ⟨?_, ?_⟩
  · rw [e]
    exact s_cmp h1 ha hb (no_mark hs)
  · rw [e]
    exact st_cmp h1 ha hb (no_mark hs)
theorem pet_chn (hu : X.A.units + 100 < cLine) {op op' : CmpOp} {o o' : Cm} {a b d : Expr} {ca cb cd : C} {pos : Pos} (h : cmOf op = some o) (h' : cmOf op' = some o') (hs : isSetE d = false) (ha : PE X a (tV X NM T W (evC orc ca))) (hb : PE X b (tV X NM T W (evC orc cb)))
    (hd : PE X d (tV X NM T W (evC orc cd))) : PET X NM T W orc (.Compare a [op, op'] [b, d] pos) (.chn o o' ca cb cd) := by
  obtain ⟨h1, _, _⟩ := cmp_ok (NM := NM) hu h
  obtain ⟨h2, _, _⟩ := cmp_ok (NM := NM) hu h'
  have e : evC orc (.chn o o' ca cb cd) = fun env => Ev.bind (evC orc ca env) fun x => Ev.bind (evC orc cb env) fun y => Ev.bind (cmD o x y) fun t => Ev.bind (asBl t) fun k => match k with
    | true => Ev.bind (evC orc cd env) fun z => cmD o' y z
    | false => Ev.ret (.bl false) := by
    funext env
    simp only [evC]
    first | done | rfl
  refine ⟨?_, ?_⟩
  · rw [e]
    exact s_chn h1 h2 ha hb hd (no_mark hs)
  · rw [e]
    exact st_chn h1 h2 ha hb hd (no_mark hs)
theorem pet_not {a : Expr} {ca : C} {pos : Pos} (h : PET X NM T W orc a ca) : PET X NM T W orc (.UnaryOp .Not a pos) (.nt ca) := by
  have e : evC orc (.nt ca) = fun env => Ev.bind (evC orc ca env) fun x => Ev.bind (asBl x) fun k => Ev.ret (.bl (!k)) := by
    funext env
    simp only [evC]
    first | done | rfl
  refine ⟨?_, ?_⟩
  · rw [e]
    exact s_not h.pe
  · rw [e]
    exact st_not h.pt
theorem ife_test {mt : En → Ev Bool} {ma mb : En → Ev D} {t a b : Expr} {pos : Pos} (ht : PT X t (tT X NM T W mt)) (ha : PT X a (tT X NM T W fun env => Ev.bind (ma env) (asBl))) (hb : PT X b (tT X NM T W fun env => Ev.bind (mb env) (asBl))) :
    PT X (.IfExp t a b pos) (tT X NM T W fun env => Ev.bind ((Ev.bind (mt env) fun k => match k with
      | true => ma env
      | false => mb env)) (asBl)) := by
  refine ⟨fun pins s σ H Q I ⟨ρ, env, S, g, er, r⟩ => ?_⟩
  have r : Run X.K NM rEq W ρ H σ ((Ev.bind (mt env) fun k => Ev.bind ((match k with
      | true => ma env
      | false => mb env)) (asBl)) S) Q := by
    have e := bind_assoc (mt env) (fun k => match k with
      | true => ma env
      | false => mb env) asBl
    rw [← e]
    exact r
  show wpAny _ _ (PySem.isTrue (.IfExp t a b pos) X.env _) _ _ s
  unfold PySem.isTrue
  refine wpAny_bind (thn (ht.run pins s σ H _ I (go (R := rEq) g er r)) fun v s1 ⟨H1, I1, ρ1, S1, v', l1, g1, (ev : v' = v), r1⟩ => ?_)
  subst ev
  cases v' with
  | true =>
    rw [if_pos rfl]
    exact ha.run pins s1 σ H1 Q I1 ⟨ρ1, env, S1, g1, er.le l1, r1⟩
  | false =>
    rw [if_neg (by decide)]
    exact hb.run pins s1 σ H1 Q I1 ⟨ρ1, env, S1, g1, er.le l1, r1⟩
theorem pet_ife {t a b : Expr} {ct ca cb : C} {pos : Pos} (ht : PET X NM T W orc t ct) (ha : PET X NM T W orc a ca) (hb : PET X NM T W orc b cb) : PET X NM T W orc (.IfExp t a b pos) (.ife ct ca cb) := by
  have e : evC orc (.ife ct ca cb) = fun env => Ev.bind ((Ev.bind (evC orc ct env) (asBl))) fun k => match k with
    | true => evC orc ca env
    | false => evC orc cb env := by
    funext env
    simp only [evC, bind_assoc]
    first | done | rfl
  refine ⟨?_, ?_⟩
  · rw [e]
    exact s_ife ht.pt ha.pe hb.pe
  · rw [e]
    exact ife_test ht.pt ha.pt hb.pt
/-- and, or -/
structure PWW (X : Cx) (NM : Nms) (T : CT) (W : WX) (orc : Orc) (e : Expr) (c : C) : Prop where
  pe : PE X e (tV X NM T W (evC orc c))
  pw : PW X e (tT X NM T W fun env => Ev.bind (evC orc c env) (asBl))
theorem PWW.pet (h : PWW X NM T W orc e c) : PET X NM T W orc e c := ⟨h.pe, h.pw.pt⟩
theorem pww_and1 {a : Expr} {pos : Pos} (h : PET X NM T W orc a c) : PWW X NM T W orc (.BoolOp .And [a] pos) c := ⟨pe_one h.pe, pw_and1 h.pt⟩
theorem pww_or1 {a : Expr} {pos : Pos} (h : PET X NM T W orc a c) : PWW X NM T W orc (.BoolOp .Or [a] pos) c := ⟨pe_one h.pe, pw_or1 h.pt⟩
theorem pww_and {a b : Expr} {rest : List Expr} {ca cb : C} {pos : Pos} (ha : PET X NM T W orc a ca) (hb : PWW X NM T W orc (.BoolOp .And (b :: rest) pos) cb) : PWW X NM T W orc (.BoolOp .And (a :: b :: rest) pos) (.an ca cb) := by
  have e : evC orc (.an ca cb) = fun env => Ev.bind (evC orc ca env) fun x => Ev.bind (asBl x) fun k => match k with
    | true => evC orc cb env
    | false => Ev.ret (.bl false) := by
    funext env
    simp only [evC]
    first | done | rfl
  refine ⟨?_, ?_⟩
  · rw [e]
    exact s_and ha.pe hb.pe
  · rw [e]
    refine PW.of (pw_and ha.pt hb.pw) fun σ H Q ⟨ρ, env, S, g, er, r⟩ => ?_
    have r : Run X.K NM rEq W ρ H σ ((Ev.bind ((Ev.bind (evC orc ca env) (asBl))) fun k => Ev.bind ((match k with
        | true => evC orc cb env
        | false => Ev.ret (.bl false))) (asBl)) S) Q := by
      have e1 : (Ev.bind ((Ev.bind (evC orc ca env) (asBl))) fun k => Ev.bind ((match k with
        | true => evC orc cb env
        | false => Ev.ret (.bl false))) (asBl)) = (Ev.bind ((Ev.bind (evC orc ca env) fun x => Ev.bind (asBl x) fun k => match k with
        | true => evC orc cb env
        | false => Ev.ret (.bl false))) (asBl)) := by
        simp only [bind_assoc]
      rw [e1]
      exact r
    refine (go (R := rEq) g er r).imp fun v H1 ⟨ρ1, S1, v', l1, g1, (ev : v' = v), r1⟩ => ?_
    subst ev
    cases v' with
    | true => exact (if_pos rfl).mpr ⟨ρ1, env, S1, g1, er.le l1, r1⟩
    | false =>
      have r1 : Run X.K NM rEq W ρ1 H1 σ (Ev.ret false S1) Q := r1
      exact (if_neg (by decide)).mpr (r1.ret g1 rfl)
theorem pww_or {a b : Expr} {rest : List Expr} {ca cb : C} {pos : Pos} (ha : PET X NM T W orc a ca) (hb : PWW X NM T W orc (.BoolOp .Or (b :: rest) pos) cb) : PWW X NM T W orc (.BoolOp .Or (a :: b :: rest) pos) (.orr ca cb) := by
  have e : evC orc (.orr ca cb) = fun env => Ev.bind (evC orc ca env) fun x => Ev.bind (asBl x) fun k => match k with
    | true => Ev.ret (.bl true)
    | false => evC orc cb env := by
    funext env
    simp only [evC]
    first | done | rfl
  refine ⟨?_, ?_⟩
  · rw [e]
    exact s_or ha.pe hb.pe
  · rw [e]
    refine PW.of (pw_or ha.pt hb.pw) fun σ H Q ⟨ρ, env, S, g, er, r⟩ => ?_
    have r : Run X.K NM rEq W ρ H σ ((Ev.bind ((Ev.bind (evC orc ca env) (asBl))) fun k => Ev.bind ((match k with
        | true => Ev.ret (.bl true)
        | false => evC orc cb env)) (asBl)) S) Q := by
      have e1 : (Ev.bind ((Ev.bind (evC orc ca env) (asBl))) fun k => Ev.bind ((match k with
        | true => Ev.ret (.bl true)
        | false => evC orc cb env)) (asBl)) = (Ev.bind ((Ev.bind (evC orc ca env) fun x => Ev.bind (asBl x) fun k => match k with
        | true => Ev.ret (.bl true)
        | false => evC orc cb env)) (asBl)) := by
        simp only [bind_assoc]
      rw [e1]
      exact r
    refine (go (R := rEq) g er r).imp fun v H1 ⟨ρ1, S1, v', l1, g1, (ev : v' = v), r1⟩ => ?_
    subst ev
    cases v' with
    | false => exact (if_neg (by decide)).mpr ⟨ρ1, env, S1, g1, er.le l1, r1⟩
    | true =>
      have r1 : Run X.K NM rEq W ρ1 H1 σ (Ev.ret true S1) Q := r1
      exact (if_pos rfl).mpr (r1.ret g1 rfl)
end
end QV
set_option maxRecDepth 100000
set_option maxHeartbeats 8000000
/-! Qe: enumerate(reversed(tuple)). -/
namespace RT
open PySem PySem.Spec PyProof.Rows
section
variable {prog : Program} {w : World} {A : Around} {E : Value → Shared → Prop} {s : Shared}
theorem nextOf_rt_item {it t : Addr} {i : Nat} {items : Array Value} {x : Value} {Q : Value → Shared → Prop} (hit : IsRt s.heap it t (i : Int)) (ht : IsTup s.heap t items) (hx : items[i]? = some x) (hsz : items.size ≤ sizeLine)
    (hQ : ∀ h', IsRt h' it t ((i : Int) - 1) → Heap.SameBut it s.heap h' → Q x { s with heap := h', toks := s.toks + 1 }) : wpAny (model prog w) A (Builtin.SmallTypes.nextOf (.ref it)) Q E s := by
  obtain ⟨o, ho, hc, hd⟩ := id hit
  have hi : i < items.size := (Array.getElem?_eq_some_iff.mp hx).1
  have hT : s.TypeIs (.ref t) "tuple" := IsTup.typeOf' ht
  rw [sizeLine_eq] at hsz
  unfold Builtin.SmallTypes.nextOf
  refine wpAny_bind (wpAny_callSpecial?_slot (name := Str.ofString "__next__") hit.typeIs slot_rt_next
    (wpAny_call_entry slot_rt_next hit.typeIs entry_rt_next ?_ (args_rt_next _)))
  unfold Builtin.«reversed.__next__»
  refine wpAny_bind (wpAny_of_eq (a := (Value.ref it, [])) rfl ?_)
  try dsimp only
  refine wpAny_bind (wpAny_field ho hd (x := .ref t) rfl ?_)
  try dsimp only
  refine wpAny_bind (wpAny_field ho hd (x := rawInt (i : Int)) rfl ?_)
  show wpAny _ _ (if (i : Int) < 0 then _ else _) _ _ s
  rw [if_neg (by omega)]
  try dsimp only
  refine wpAny_bind (wpAny_specialOf hT get_tuple ?_)
  try dsimp only
  try rw [if_neg (by decide)]
  try dsimp only
  refine wpAny_bind (wpAny_mkInt ?_)
  refine wpAny_bind (wpAny_attempt ?_)
  have fin : seqIndex? (i : Int) items.size = some i := seqIndex_of (by omega) (by omega)
  refine PyProof.Rows.getItem_tuple (s := { s with toks := s.toks + 1 }) ht (by omega) (by omega) fin hx ?_
  try dsimp only
  refine wpAny_bind (wpAny_field (s := { s with toks := s.toks + 1 }) ho hd (x := rawInt (i : Int)) rfl ?_)
  try dsimp only
  refine wpAny_bind (wpAny_setField (s := { s with toks := s.toks + 1 }) ho hd (by simp) ?_)
  refine wpAny_pure ⟨x, rfl, wpAny_pure (hQ _ ?_ (Heap.SameBut.update ..))⟩
  exact ⟨_, Heap.get?_update_self _ ho (Obj.isFreed_of_fields (Obj.data_mapFields hd _)), (Obj.cls_mapFields ..).trans hc, by
    rw [Obj.data_mapFields hd]; simp⟩
theorem nextOf_rt_end {it t : Addr} {Q : Value → Shared → Prop} (hh : A.handled = none) (hit : IsRt s.heap it t (-1))
    (hE : ∀ h' e, Heap.ExtBut it s.heap h' → (∃ o, h'.get? e = some o ∧ o.cls = .type "StopIteration") → E (.ref e) { s with heap := h' }) : wpAny (model prog w) A (Builtin.SmallTypes.nextOf (.ref it)) Q E s := by
  obtain ⟨o, ho, hc, hd⟩ := id hit
  unfold Builtin.SmallTypes.nextOf
  refine wpAny_bind (wpAny_callSpecial?_slot (name := Str.ofString "__next__") hit.typeIs slot_rt_next
    (wpAny_call_entry slot_rt_next hit.typeIs entry_rt_next ?_ (args_rt_next _)))
  unfold Builtin.«reversed.__next__»
  refine wpAny_bind (wpAny_of_eq (a := (Value.ref it, [])) rfl ?_)
  try dsimp only
  refine wpAny_bind (wpAny_field ho hd (x := .ref t) rfl ?_)
  try dsimp only
  refine wpAny_bind (wpAny_field ho hd (x := rawInt (-1)) rfl ?_)
  show wpAny _ _ (if (-1 : Int) < 0 then _ else _) _ _ s
  rw [if_pos (by decide)]
  try dsimp only
  refine wpAny_bind (wpAny_rule ?_)
  refine wpAny_bind ?_
  wp_delta
  refine wpAny_bind (wpAny_setField ho hd (by simp) ?_)
  have ho2 := Heap.get?_update_self (Obj.mapFields (·.setIfInBounds 1 (rawInt (-1)))) ho (Obj.isFreed_of_fields (Obj.data_mapFields hd _))
  refine wpAny_setField (s := { s with heap := s.heap.update it (Obj.mapFields (·.setIfInBounds 1 (rawInt (-1)))) }) ho2 (Obj.data_mapFields hd _) (by simp) ?_
  try dsimp only
  first
  | show wpAny _ _ (newExc (.type "StopIteration") [] >>= _) _ _ _
  | (refine wpAny_bind ?_; show wpAny _ _ (newExc (.type "StopIteration") [] >>= _) _ _ _)
  | (refine wpAny_bind ?_; wp_delta; show wpAny _ _ (newExc (.type "StopIteration") [] >>= _) _ _ _)
  refine wpAny_bind ?_
  simp only [newExc, newTuple]
  refine wpAny_bind (wpAny_newObj_type ?_ (by size_fits))
  refine wpAny_bind (m := firstArgMember _ _) (wpAny_of_eq (a := Value.none) (by first | rfl | (simp only [firstArgMember]; rfl)) ?_)
  refine wpAny_newObj_type ?_ (by size_fits)
  simp only [raiseNew]
  refine wpAny_bind (wpAny_handled ?_)
  first | rw [show A.in1.handled = none from hh] | rw [hh]
  refine wpAny_bind (wpAny_pure (wpAny_throw ?_))
  refine hE _ _ ?_ ⟨_, Heap.get?_push_size _ rfl, rfl⟩
  refine ((?_ : Heap.ExtBut it s.heap _).push _).push _
  exact fun b ob hb e => (Heap.get?_update_other _ _ (Ne.symm hb)).trans ((Heap.get?_update_other _ _ (Ne.symm hb)).trans e)
/-- what reversed(tuple) draws -/
theorem draws_rt {t it : Addr} {items : Array Value} (hh : A.handled = none) (hne : it ≠ t) (hsz : items.size ≤ sizeLine) : Draws prog w A it [it, t] items.size (fun i x => items[items.size - 1 - i]? = some x) (fun i h => IsTup h t items ∧ i ≤ items.size ∧ IsRt h it t ((items.size : Int) - 1 - (i : Nat))) where
  live := fun i h ⟨_, _, o, ho, _⟩ => ⟨o, ho⟩
  frame := fun i h h' ⟨⟨o, ho, r⟩, hi, hit⟩ k => ⟨⟨o, k t (by simp) _ ho, r⟩, hi, hit.at fun o q => k it (by simp) o q⟩
  item := fun i s Q E hi ⟨ht, _, hit⟩ hQ => by
    have e1 : (items.size : Int) - 1 - (i : Nat) = ((items.size - 1 - i : Nat) : Int) := by omega
    rw [e1] at hit
    have hlt : items.size - 1 - i < items.size := by omega
    refine nextOf_rt_item hit ht (x := items[items.size - 1 - i]) (Array.getElem?_eq_getElem hlt) hsz fun h' hit' sb => ?_
    refine hQ _ h' (s.toks + 1) (Array.getElem?_eq_getElem hlt) ⟨?_, by omega, ?_⟩ sb
    · obtain ⟨o, ho, r⟩ := ht
      exact ⟨o, (sb.2 t (Ne.symm hne)).trans ho, r⟩
    · have e2 : (items.size : Int) - 1 - ((i + 1 : Nat) : Int) = ((items.size - 1 - i : Nat) : Int) - 1 := by omega
      rw [e2]
      exact hit'
  done := fun s Q E ⟨_, _, hit⟩ hE => by
    have e1 : (items.size : Int) - 1 - (items.size : Nat) = -1 := by omega
    rw [e1] at hit
    exact nextOf_rt_end hh hit hE
end
theorem meets_enumerate_rt (it t : Addr) (k : Int) :
    Meets (Builtin.«enumerate.__new__» ⟨[.type "enumerate", .ref it], []⟩) (fun _ R s => IsRt s.heap it t k ∧
      R (.ok (.ret (.ref s.heap.objs.size))) { s with heap := s.heap.push { cls := .type "enumerate", data := .fields #[.none, .bool false, .ref it, rawInt 0, .none, .none] } }) :=
  .of_wp fun prog w A R s h => by
    obtain ⟨hp, g, d, tk, os⟩ := s; obtain ⟨hl, h⟩ := h
    have hsub := sub_enumerate
    have q1 : ∀ {A' : Around} {E : Value → Shared → Prop} {Q : Value → Shared → Prop}, Q (.ref it) ⟨hp, g, d, tk, os⟩ → wpAny (model prog w) A' (pyIter (.ref it)) Q E ⟨hp, g, d, tk, os⟩ :=
      fun q => iter_rt hl q
    wp_walk using q1
    refine wpAny_stack_any fun st => wpAny_pure ?_
    split
    · rename_i c _ _ _ _ _
      cases (c == Value.type "enumerate")
      · wp_walk using q1
        exact ⟨_, rfl, h⟩
      · wp_walk using q1
        exact ⟨_, rfl, h⟩
    · wp_walk using q1
      exact ⟨_, rfl, h⟩
section
variable {prog : Program} {w : World} {A : Around} {E : Value → Shared → Prop} {s : Shared}
theorem call_enumerate_rt {it t : Addr} {k : Int} {Q : Value → Shared → Prop} (hit : IsRt s.heap it t k)
    (h : ∀ h', IsEnum h' s.heap.objs.size it 0 .none → (∀ b o, s.heap.get? b = some o → h'.get? b = some o) → Q (.ref s.heap.objs.size) { s with heap := h' }) :
    wpAny (model prog w) A (call (.type "enumerate") [.ref it]) Q E s := by
  refine callType_new F.called_enumerate (by decide) (F.typeCall_enumerate_1 _) (F.newCall_enumerate_1 _) (fun obj => F.args_object_init_2 obj _) F.entry_enumerate_new
    (meets_enumerate_rt it t k) ⟨hit, ?_⟩
  have he : IsEnum (s.heap.push { cls := .type "enumerate", data := .fields #[.none, .bool false, .ref it, rawInt 0, .none, .none] }) s.heap.objs.size it 0 .none := Heap.get?_push_size _ rfl
  exact ⟨⟨_, he, rfl⟩, h _ he fun b o x => Heap.get?_push_of_some _ x⟩
end
end RT
namespace QV
open PySem PySem.Spec PyProof.Rows L2 RT
/-- the tuple at a from its end, each item in a new pair -/
def Itv2 (K : PySem.W.Frag) (a : Addr) (n : Nat) : L2.It :=
  ⟨fun i H => ∃ (xs : List V) (x : V), SqT K H a xs ∧ xs.length = n ∧ xs.reverse[i]? = some x, fun i H v H' => ∃ T x, v = .ref T ∧ H T = none ∧ H' = upd H T (.tup [.int (i : Nat), x]) ∧ ∀ xs, SqT K H a xs → xs.reverse[i]? = some x, fun i H => ∃ xs : List V, SqT K H a xs ∧ xs.length = n ∧ n ≤ i⟩
theorem turn_enr {P : Program} {w : World} {K : PySem.W.Frag} {elts : List Expr} {kk : Nat} {tpos : Pos} (a e it : Addr) (n : Nat) :
    Turn P w K (.Tuple elts kk tpos) (Itv2 K a n) [e, it] e (fun i h => (∃ old, IsEnum h e it ((i : Nat) : Int) old) ∧ IsRt h it a ((n : Int) - 1 - (i : Nat)) ∧ i ≤ n ∧ e ≠ it ∧ e ≠ a ∧ it ≠ a) where
  mem := by simp
  obj := fun i h st b hb => by
    obtain ⟨⟨old, he⟩, ⟨o, ho, hc, hd⟩, _⟩ := st
    have e' : b = e ∨ b = it := by simpa using hb
    rcases e' with z | z
    · rw [z]; exact ⟨_, he, fun v q => nomatch q⟩
    · rw [z]; exact ⟨o, ho, fun v q => by rw [hd] at q; cases q⟩
  keep := fun i h h' st k => let ⟨⟨old, he⟩, hi, r⟩ := st; ⟨⟨old, k e (by simp) _ he⟩, hi.at fun o q => k it (by simp) o q, r⟩
  item := by
    intro X hP hw hK hc i pins s σ H E I hf st hg
    subst hP hw hK
    obtain ⟨⟨old, he⟩, hit, hle, hne, hea, hia⟩ := st
    obtain ⟨xs, x, hq, hn, hx⟩ := hg
    subst hn
    obtain ⟨its, rv, p, hz⟩ := I.tuple hq
    have hl := rv.length
    have hlt : i < xs.length := by
      have := (List.getElem?_eq_some_iff.mp hx).1
      simpa using this
    have hel : e < s.heap.objs.size := Heap.lt_size he
    have hil : it < s.heap.objs.size := by obtain ⟨_, q, _⟩ := hit; exact Heap.lt_size q
    have hsz : its.toArray.size = xs.length := by simp only [List.size_toArray]; exact hl.symm
    have D := draws_rt (prog := X.prog) (w := X.w) (A := X.A.in1) (t := a) (it := it) (items := its.toArray) (I.ok.hd hc) hia (by omega)
    refine wpAny_pyNext_enum_itemD D he ⟨p, by omega, by rw [hsz]; exact hit⟩ (by omega) hne (by simp [hne, hea]) fun u h' tk hu ho hst hT _ hk => ?_
    have hu2 : its[xs.length - 1 - i]? = some u := by
      rw [hsz] at hu
      simpa using hu
    have hx2 : xs[xs.length - 1 - i]? = some x := by
      rw [List.getElem?_reverse hlt] at hx
      exact hx
    obtain ⟨u', hu3, ru⟩ := rv.get hx2
    rw [hu2] at hu3
    cases hu3
    refine ⟨_, rfl, wpAny_letOwnedTupleGo_enum (s := { s with heap := h', toks := tk + 1 }) ho fun h'' he' sb => ?_⟩
    have hT2 : h''.get? s.heap.objs.size = some { cls := .type "tuple", data := .seq #[.int i tk, u] } := (sb.2 _ (Nat.ne_of_gt hel)).trans hT
    have new : ObjOk X.prog X.w (upd H s.heap.objs.size (.tup [.int (i : Nat), x])) h'' s.heap.objs.size (.tup [.int (i : Nat), x]) :=
      ⟨by show 2 ≤ sizeLine; decide, [.int i tk, u], .cons ⟨_, rfl⟩ (.cons ru .nil), ⟨_, hT2, rfl, _, rfl⟩⟩
    have I1 : Inv X pins σ (upd H s.heap.objs.size (.tup [.int (i : Nat), x])) { s with heap := h'', toks := tk + 1 } :=
      I.turnedNew (ch := [e, it]) (fun b ob hb q => (sb.2 b (fun z => hb (by simp [z]))).trans (hk b ob (fun z => hb (by simp [z])) (fun z => hb (by simp [z])) q)) hf (Nat.le_refl _) new
    obtain ⟨_, _, hit'⟩ := hst
    refine ⟨.ref s.heap.objs.size, _, I1, rfl, ⟨_, x, rfl, I.hok.fresh (Nat.le_refl _), rfl, fun ys hy => by rw [I.tuple_inj hy hq]; exact hx⟩, ⟨⟨u, ?_⟩, ?_, by omega, hne, hea, hia⟩, fun b hb => ?_⟩
    · have e1 : ((i + 1 : Nat) : Int) = (i : Int) + 1 := by omega
      rw [e1]; exact he'
    · rw [hsz] at hit'
      exact hit'.at fun o q => (sb.2 it (Ne.symm hne)).trans q
    · have hb' : b < s.heap.objs.size := by
        have e' : b = e ∨ b = it := by simpa using hb
        rcases e' with z | z
        · rw [z]; exact hel
        · rw [z]; exact hil
      rw [upd_ne (Nat.ne_of_lt hb')]
      exact (hf b hb).1
  done := by
    intro X hP hw hK hc i pins s σ H E I hf st hg
    subst hP hw hK
    obtain ⟨⟨old, he⟩, hit, hle, hne, hea, hia⟩ := st
    obtain ⟨xs, hq, hn, hx⟩ := hg
    subst hn
    obtain ⟨its, rv, p, hz⟩ := I.tuple hq
    have hl := rv.length
    have hsz : its.toArray.size = xs.length := by simp only [List.size_toArray]; exact hl.symm
    obtain ⟨f0, f1, f2, f3, f4, f5⟩ := hf it (by simp)
    have D := draws_rt (prog := X.prog) (w := X.w) (A := X.A.in1) (t := a) (it := it) (items := its.toArray) (I.ok.hd hc) hia (by omega)
    have ei : i = xs.length := by omega
    refine wpAny_pyNext_enum_endD D he ⟨p, Nat.le_refl _, ?_⟩ fun h' eb => ⟨rfl, I.turned (t' := s.toks) (fun b o hb q => eb b o hb q) f0 f1 f3 f4 f5⟩
    rw [hsz, ← ei]
    rw [ei] at hit ⊢
    exact hit
  self := fun A i s Q E st h => let ⟨⟨_, he⟩, _⟩ := st; wpAny_pyIter_enum he h
def iEnr (K : PySem.W.Frag) (te : TE) : TI := fun σ H R => te σ H fun v H1 => ∃ (a : Addr) (xs : List V), v = .ref a ∧ SqT K H1 a xs ∧ R (Itv2 K a xs.length) H1
section
variable {X : Cx}
theorem pi_enr {e : Expr} {te : TE} {p p2 pos pos2 tpos : Pos} {elts : List Expr} {kk : Nat} (hg : Gl X "enumerate") (hm : X.mg "enumerate" = none) (hg2 : Gl X "reversed") (hm2 : X.mg "reversed" = none) (he : PE X e te) (hs : starEach [e] X.env = (false, eval e X.env) :: starEach [] X.env) :
    PI X (.Tuple elts kk tpos) (.Call (.Name "enumerate" p) [.Call (.Name "reversed" p2) [e] [] pos2] [] pos) (iEnr X.K te) := by
  refine ⟨fun pins s σ H R I h => ?_⟩
  refine Call_ (ld_blt I hg hm boot_enumerate (PyProof.Rows.callWith_type1 (args_cons (Call_ (ld_blt I hg2 hm2 PyProof.Rows.boot_reversed (PyProof.Rows.callWith_type1 (args_cons (thn (he.run pins s σ H _ I h) fun u s1 ⟨v, H1, I1, r1, q1⟩ => args_nil ?_) hs) hs rfl))) rfl) rfl rfl))
  obtain ⟨a, xs, ev, hq, q⟩ := q1
  subst ev
  obtain rfl : u = Value.ref a := r1
  obtain ⟨its, rv, p', hz⟩ := I1.tuple hq
  have hl := rv.length
  have hn := line63
  have hal : a < s1.heap.objs.size := by obtain ⟨_, q, _⟩ := p'; exact Heap.lt_size q
  refine call_reversed_tup p' (fun A E Q k => len_tuple p' (by simp only [List.size_toArray] <;> omega) k) (args_nil ?_)
  refine call_enumerate_rt (it := s1.heap.objs.size) (t := a) (k := ((its.toArray.size : Nat) : Int) - 1) ⟨_, Heap.get?_push_size _ rfl, rfl, rfl⟩ fun h' he' hk => wpAny_pyIter_enum he' ?_
  have ez : (s1.heap.push (rtObj a ((its.toArray.size : Int) - 1))).objs.size = s1.heap.objs.size + 1 := Heap.size_push ..
  have I2 : Inv X pins σ H1 ⟨h', s1.gens, s1.drawn, s1.toks + 1 + 1, s1.os⟩ := I1.kept (t' := s1.toks + 1 + 1) fun b o y => hk b o (Heap.get?_push_of_some _ y)
  have hit : IsRt h' s1.heap.objs.size a ((xs.length : Int) - 1 - ((0 : Nat) : Int)) := by
    refine ⟨_, hk _ _ (Heap.get?_push_size _ rfl), rfl, ?_⟩
    have e1 : ((its.toArray.size : Nat) : Int) - 1 = (xs.length : Int) - 1 - ((0 : Nat) : Int) := by simp only [List.size_toArray]; omega
    show Data.fields #[.ref a, rawInt ((its.toArray.size : Int) - 1)] = _
    rw [e1]
  rw [ez] at he' ⊢
  refine ⟨s1.heap.objs.size + 1, [s1.heap.objs.size + 1, s1.heap.objs.size], _, _, H1, rfl, I2, turn_enr a (s1.heap.objs.size + 1) s1.heap.objs.size xs.length, ⟨⟨.none, he'⟩, hit, Nat.zero_le _, Nat.succ_ne_self _, ?_, ?_⟩, fun b hb => ?_, q⟩
  · exact Nat.ne_of_gt (Nat.lt_succ_of_lt hal)
  · exact Nat.ne_of_gt hal
  · have e' : b = s1.heap.objs.size + 1 ∨ b = s1.heap.objs.size := by simpa using hb
    have hle : s1.heap.objs.size ≤ b := by
      rcases e' with z | z
      · rw [z]; exact Nat.le_add_right _ _
      · rw [z]; exact Nat.le_refl _
    exact I1.fpOk hle (I1.hok.fresh hle)
theorem enumF_get : ∀ {xs : List D} {k i : Nat} {d : D}, (enumF k xs)[i]? = some d → ∃ x, xs[i]? = some x ∧ d = .tup [.int ((k + i : Nat) : Int), x]
  | [], k, i, d, h => by simp [enumF] at h
  | x :: r, k, 0, d, h => by
    simp only [enumF, List.getElem?_cons_zero, Option.some.injEq] at h
    exact ⟨x, rfl, by rw [← h]; rfl⟩
  | x :: r, k, i + 1, d, h => by
    simp only [enumF, List.getElem?_cons_succ] at h
    obtain ⟨y, h1, h2⟩ := enumF_get h
    refine ⟨y, by simpa using h1, ?_⟩
    rw [h2, show k + 1 + i = k + (i + 1) by omega]
theorem enumF_len : ∀ {xs : List D} {k : Nat}, (enumF k xs).length = xs.length
  | [], k => rfl
  | x :: r, k => by simp [enumF, enumF_len]
end
theorem rIt_enr {K : PySem.W.Frag} {NM : Nms} {ρ : List Addr} {H : Hp} {a : Addr} {xs : List D} {vs : List V} (sq : SqT K H a vs) (r : RepL K NM ρ H xs vs) : rIt K NM ρ H (.fix (enumF 0 xs.reverse)) (Itv2 K a vs.length) := by
  intro i ρ' S' H' l g
  have sq' := sqT_ext l.ext sq
  have r' := r.le l
  have hl := r'.length
  refine ⟨fun d hd => ?_, fun h => ⟨vs, sq', rfl, by rw [enumF_len, List.length_reverse] at h; omega⟩⟩
  obtain ⟨y, h1, rfl⟩ := enumF_get hd
  have hlt : i < xs.length := by
    have := (List.getElem?_eq_some_iff.mp h1).1
    simpa using this
  rw [List.getElem?_reverse hlt] at h1
  obtain ⟨v, h3, h4⟩ := r'.get h1
  have h5 : vs.reverse[i]? = some v := by
    rw [List.getElem?_reverse (by omega), hl]
    exact h3
  refine ⟨⟨vs, v, sq', rfl, h5⟩, fun x H2 ⟨T, w, e1, e2, e3, hx⟩ => ?_⟩
  subst e1 e3
  have h6 := hx vs sq'
  rw [h5] at h6
  cases h6
  have le : Le ρ' H' ρ' (upd H' T (.tup [.int (i : Nat), v])) := Le.heap (HExt.new e2)
  refine ⟨le, g.beside e2, ?_⟩
  simp only [Rep, RepL]
  exact ⟨T, _, rfl, .inl (.inl upd_same), _, _, rfl, by simp, _, _, rfl, h4.le le, rfl⟩
theorem si_enr' {X : Cx} {NM : Nms} {T : CT} {W : WX} {orc : Orc} {k q : Nat} {N : List Str} {sc : Scope} {a : Expr} {ma : En → Ev D} {x y : Str} {p p2 pos pos2 tpos : Pos} {elts : List Expr} {kk : Nat} (O : XO NM T orc k q N sc X W) (hb : bltB T sc x "enumerate" = true) (hb2 : bltB T sc y "reversed" = true) (ha : PE X a (tV X NM T W ma)) (hs : isStarE a = false) :
    PI X (.Tuple elts kk tpos) (.Call (.Name x p) [.Call (.Name y p2) [a] [] pos2] [] pos) (tI X NM T W fun env => Ev.bind (ma env) fun z => itEnr z) := by
  obtain ⟨rfl, hg, hm⟩ := blt_b hb
  obtain ⟨rfl, hg2, hm2⟩ := blt_b hb2
  refine PI.of (pi_enr (O.gl hg) (O.fx.gblt _ hm) (O.gl hg2) (O.fx.gblt _ hm2) ha (star_one hs)) fun σ H R ⟨ρ, env, S, g, er, q⟩ => (go g er q).imp fun v H1 ⟨ρ1, S1, d, l1, g1, r1, q1⟩ => ?_
  cases d <;> first | exact q1.elim | skip
  rename_i xs
  simp only [rD1, Rep] at r1
  obtain ⟨p, vs, rfl, sq, r2⟩ := r1
  exact ⟨p, vs, rfl, sq, q1.ret g1 (rIt_enr sq r2)⟩
end QV
set_option maxRecDepth 100000
set_option maxHeartbeats 8000000
/-! Q14: every expression of the small language is read rightly: by the text. -/
namespace QV
open PySem PySem.Spec PyProof.Rows L2
def isTupE : Expr → Bool
  | .Tuple .. => true
  | _ => false
section
variable {X : Cx} {NM : Nms} {T : CT} {W : WX} {orc : Orc} {k q : Nat} {N : List Str} {sc : Scope} {e : Expr} {c : C}
theorem si_enr {tg a : Expr} {ma : En → Ev D} {x y : Str} {p p2 pos pos2 : Pos} (O : XO NM T orc k q N sc X W) (ht : isTupE tg = true) (hq : q ≠ 0) (hb : bltB T sc x "enumerate" = true) (hb2 : bltB T sc y "reversed" = true) (ha : PE X a (tV X NM T W ma)) (hs : isStarE a = false) :
    PI X tg (.Call (.Name x p) [.Call (.Name y p2) [a] [] pos2] [] pos) (tI X NM T W fun env => Ev.bind (ma env) fun z => itEnr z) := by
  cases tg <;> first | exact si_enr' O hb hb2 ha hs | cases ht
theorem pa_stk {es : List Expr} {f : En → Ev (List D)} (h : ∀ env S, f env S = .stk) : PA X es (tL X NM T W f) := ⟨fun p pins s σ H Q I ⟨ρ, env, S, g, er, r⟩ => by
  rw [h] at r
  exact r.elim⟩
theorem pw_stk {f : En → Ev Bool} (h : ∀ env S, f env S = .stk) : PW X e (tT X NM T W f) := ⟨fun wh pins s σ H Q I ⟨ρ, env, S, g, er, r⟩ => by
  rw [h] at r
  exact r.elim⟩
theorem po_stk {o : Option Expr} {f : En → Ev (Option Int)} (h : ∀ env S, f env S = .stk) : PO X o (tO X NM T W f) := ⟨fun pins s σ H Q I ⟨ρ, env, S, g, er, r⟩ => by
  rw [h] at r
  exact r.elim⟩
theorem pi_stk {tg : Expr} {f : En → Ev QV.It} (h : ∀ env S, f env S = .stk) : PI X tg e (tI X NM T W f) := ⟨fun pins s σ H R I ⟨ρ, env, S, g, er, r⟩ => by
  rw [h] at r
  exact r.elim⟩
theorem ev_stk : ∀ env S, evC orc .stk env S = .stk := fun _ _ => rfl
theorem pww_stk : PWW X NM T W orc e .stk := ⟨pet_stk.pe, pw_stk fun _ _ => rfl⟩
/-- the reading of all forms at a measure -/
structure SE (NM : Nms) (T : CT) (orc : Orc) (k n : Nat) : Prop where
  e : ∀ {q N sc X W} (e : Expr), XO NM T orc k q N sc X W → PET X NM T W orc e (cE T q N n sc e)
  call : ∀ {q N sc X W} (x : Str) (es : List Expr) (p pos : Pos), XO NM T orc k q N sc X W → PET X NM T W orc (.Call (.Name x p) es [] pos) (cCall T q N n sc x es)
  es : ∀ {q N sc X W} (es : List Expr), XO NM T orc k q N sc X W → PA X es (tL X NM T W (evCs orc (cEs T q N n sc es)))
  an : ∀ {q N sc X W} (es : List Expr) (pos : Pos), XO NM T orc k q N sc X W → PWW X NM T W orc (.BoolOp .And es pos) (cAn T q N n sc es)
  or_ : ∀ {q N sc X W} (es : List Expr) (pos : Pos), XO NM T orc k q N sc X W → PWW X NM T W orc (.BoolOp .Or es pos) (cOr T q N n sc es)
  o : ∀ {q N sc X W} (o : Option Expr), XO NM T orc k q N sc X W → PO X o (tO X NM T W (evO orc (cO T q N n sc o)))
  w : ∀ {q N sc X W} (tg e : Expr), XO NM T orc k q N sc X W → q ≠ 0 → ((cW T q N n sc e).1 = .enr → isTupE tg = true) → PI X tg e (tI X NM T W fun env => Ev.bind (evC orc (cW T q N n sc e).2 env) (itW (cW T q N n sc e).1))
theorem se_zero : SE NM T orc k 0 where
  e := fun e O => by rw [show cE T _ _ 0 _ e = .stk by simp only [cE]]; exact pet_stk
  call := fun x es p pos O => by rw [show cCall T _ _ 0 _ x es = .stk by simp only [cCall]]; exact pet_stk
  es := fun es O => pa_stk fun env S => by
    simp only [cEs, evCs]
    rfl
  an := fun es pos O => by rw [show cAn T _ _ 0 _ es = .stk by simp only [cAn]]; exact pww_stk
  or_ := fun es pos O => by rw [show cOr T _ _ 0 _ es = .stk by simp only [cOr]]; exact pww_stk
  o := fun o O => po_stk fun env S => by
    simp only [cO, evO]
    rfl
  w := fun tg e O hq h => pi_stk fun env S => by
    simp only [cW]
    rfl
theorem se_es {n : Nat} (S : SE NM T orc k n) (O : XO NM T orc k q N sc X W) (es : List Expr) : PA X es (tL X NM T W (evCs orc (cEs T q N (n + 1) sc es))) := by
  cases es with
  | nil =>
    simp only [cEs]
    have e : evCs orc [] = fun _ => (Ev.ret [] : Ev (List D)) := by
      funext env
      simp only [evCs]
    rw [e]
    exact sl_nil
  | cons a es =>
    by_cases h : isStarE a = true
    · refine pa_stk fun env S => ?_
      simp only [cEs, h, if_true]
      rfl
    · rw [Bool.not_eq_true] at h
      have e : evCs orc (cEs T q N (n + 1) sc (a :: es)) = fun env => Ev.bind (evC orc (cE T q N n sc a) env) fun x => Ev.bind (evCs orc (cEs T q N n sc es) env) fun xs => Ev.ret (x :: xs) := by
        funext env
        simp only [cEs, h, Bool.false_eq_true, if_false, evCs]
      rw [e]
      exact sl_cons (S.e a O).pe (S.es es O) h
theorem se_an {n : Nat} (S : SE NM T orc k n) (O : XO NM T orc k q N sc X W) (es : List Expr) (pos : Pos) : PWW X NM T W orc (.BoolOp .And es pos) (cAn T q N (n + 1) sc es) := by
  match es with
  | [] => simp only [cAn]; exact pww_stk
  | [a] => simp only [cAn]; exact pww_and1 (S.e a O)
  | a :: b :: r => simp only [cAn]; exact pww_and (S.e a O) (S.an (b :: r) pos O)
theorem se_or {n : Nat} (S : SE NM T orc k n) (O : XO NM T orc k q N sc X W) (es : List Expr) (pos : Pos) : PWW X NM T W orc (.BoolOp .Or es pos) (cOr T q N (n + 1) sc es) := by
  match es with
  | [] => simp only [cOr]; exact pww_stk
  | [a] => simp only [cOr]; exact pww_or1 (S.e a O)
  | a :: b :: r => simp only [cOr]; exact pww_or (S.e a O) (S.or_ (b :: r) pos O)
theorem se_o {n : Nat} (S : SE NM T orc k n) (O : XO NM T orc k q N sc X W) (o : Option Expr) : PO X o (tO X NM T W (evO orc (cO T q N (n + 1) sc o))) := by
  cases o with
  | none =>
    have e : evO orc (cO T q N (n + 1) sc none) = fun _ => (Ev.ret none : Ev (Option Int)) := by
      funext env
      simp only [cO, evO]
    rw [e]
    exact so_none
  | some a =>
    have e : evO orc (cO T q N (n + 1) sc (some a)) = fun env => Ev.bind (evC orc (cE T q N n sc a) env) fun x => Ev.bind (asInt x) fun i => Ev.ret (some i) := by
      funext env
      simp only [cO, evO]
    rw [e]
    exact so_some (S.e a O).pe
theorem blt_same {x y : Str} (h : bltB T sc x y = true) : x = y ∧ bltB T sc y y = true := by
  obtain ⟨h1, _, _⟩ := blt_b h
  subst h1
  exact ⟨rfl, h⟩
theorem se_w {n : Nat} (S : SE NM T orc k n) (O : XO NM T orc k q N sc X W) (hq : q ≠ 0) (tg e : Expr) (h : (cW T q N (n + 1) sc e).1 = .enr → isTupE tg = true) :
    PI X tg e (tI X NM T W fun env => Ev.bind (evC orc (cW T q N (n + 1) sc e).2 env) (itW (cW T q N (n + 1) sc e).1)) := by
  have val : ∀ e : Expr, PI X tg e (tI X NM T W fun env => Ev.bind (evC orc (cE T q N n sc e) env) (itW .val)) := fun e => si_val (S.e e O).pe
  unfold cW at h ⊢
  split at h
  · rename_i x px a pos
    split at h
    · rename_i hc
      simp only [Bool.and_eq_true, Bool.not_eq_true'] at hc
      obtain ⟨rfl, hb⟩ := blt_same hc.1
      rw [if_pos (by simp [hc.1, hc.2])]
      exact si_rng O hb (S.e a O).pe hc.2
    · rename_i hc
      rw [if_neg hc]
      split at h
      · rename_i y py b pos2
        split at h
        · rename_i hc2
          rw [if_pos hc2]
          simp only [Bool.and_eq_true, Bool.not_eq_true'] at hc2
          exact si_enr O (h rfl) hq hc2.1.1 hc2.1.2 (S.e b O).pe hc2.2
        · rename_i hc2
          rw [if_neg hc2]
          exact val _
      · exact val _
  · exact val _
theorem pe_ret {d : D} {v : V} (he : PE X e (tC v)) (r : ∀ ρ H, Rep X.K NM ρ H d v) (hc : evC orc c = fun _ => Ev.ret d) (hi : ∀ whole, PySem.isTrue e X.env whole = (do let v ← whole; standAt e.pos; holding [v] (truthy v))) : PET X NM T W orc e c :=
  pet_val (by rw [hc]; exact s_ret he r) hi
theorem pe_fn {x : Str} {j : Nat} {px : Pos} (O : XO NM T orc k q N sc X W) (hg : Gl X x) (hd : (x == ("__debug__" : Str)) = false) (h : ix T.defs x = some j) : PET X NM T W orc (.Name x px) (.fnv j) :=
  pe_ret (d := .fn j) (v := .ref (fnA X.K NM j)) (pe_glob hg (O.fx.gdef x j h).1 rfl hd) (fun ρ H => by simp only [Rep]) (by funext env; simp only [evC]) fun _ => rfl
theorem se_name (O : XO NM T orc k q N sc X W) (x : Str) (px : Pos) : PET X NM T W orc (.Name x px) (if okName x then (if visB sc x then (match ix N x with
        | some i => .var i
        | none => .stk)
      else if glB sc x then (match T.numC.lookup x with
        | some i => .int i
        | none => match T.txtC.lookup x with
          | some s => .str s
          | none => match ix T.defs x with
            | some k => .fnv k
            | none => .stk)
      else .stk) else .stk) := by
  split
  · rename_i h1
    split
    · rename_i h2
      split
      · rename_i i hi
        refine pet_val ?_ fun _ => rfl
        have e : evC orc (.var i) = fun env => match env[i]? with
          | some (some (.clo _ _)) => Ev.stuck
          | some (some d) => Ev.ret d
          | _ => Ev.stuck := by
          funext env
          simp only [evC]
          first | done | rfl
        rw [e]
        exact s_var (by rw [O.nm]; exact ix_get hi) (O.vis h2) h1
      · exact pet_stk
    · split
      · rename_i h2 h3
        have hg := O.gl h3
        have hd := ok_dbg h1
        split
        · rename_i i hi
          obtain ⟨t, ht⟩ := O.fx.gint x i hi
          exact pe_ret (pe_glob (v := .int i) hg ht ⟨t, rfl⟩ hd) (fun _ _ => mk_int i) (by funext env; simp only [evC]) fun _ => rfl
        · split
          · rename_i z hz
            obtain ⟨t, ht⟩ := O.fx.gtxt x z hz
            exact pe_ret (pe_glob (v := .str z) hg ht ⟨t, rfl⟩ hd) (fun _ _ => mk_str z) (by funext env; simp only [evC]) fun _ => rfl
          · split
            · rename_i j hj
              exact pe_fn O hg hd hj
            · exact pet_stk
      · exact pet_stk
  · exact pet_stk
/-- the readings of a display's values -/
def msOf (T : CT) (orc : Orc) (q : Nat) (N : List Str) (sc : Scope) : Nat → List Expr → List (En → Ev D)
  | 0, _ => [fun _ => Ev.stuck]
  | _ + 1, [] => []
  | n + 1, e :: r => evC orc (if isStarE e then .stk else cE T q N n sc e) :: msOf T orc q N sc n r
theorem ms_ev : ∀ (n : Nat) (es : List Expr), evCs orc (cEs T q N n sc es) = evMs (msOf T orc q N sc n es) ∧ (cEs T q N n sc es).length = (msOf T orc q N sc n es).length
  | 0, es => ⟨by funext env; simp only [cEs, evCs, msOf, evMs]; rfl, by simp only [cEs, msOf]; rfl⟩
  | n + 1, [] => ⟨by funext env; simp only [cEs, evCs, msOf, evMs], by simp only [cEs, msOf]; rfl⟩
  | n + 1, e :: r => by
    obtain ⟨h1, h2⟩ := ms_ev n r
    refine ⟨?_, ?_⟩
    · funext env
      simp only [cEs, evCs, msOf, evMs, h1]
    · simp only [cEs, msOf, List.length_cons, h2]
theorem pps_of (O : XO NM T orc k q N sc X W) (pos : Pos) : ∀ (n : Nat) (S : ∀ m, m < n → SE NM T orc k m) (keys : List (Option Expr)) (ks : List Str) (es : List Expr), keysOf keys = some ks → keys.length = es.length → (msOf T orc q N sc n es).length = es.length →
    PPs X pos keys es (prs X NM T W ks (msOf T orc q N sc n es))
  | _, _, [], ks, [], h, _, _ => by
    cases h
    exact pps_nil
  | _, _, [], _, _ :: _, _, hl, _ => by cases hl
  | _, _, _ :: _, _, [], _, hl, _ => by cases hl
  | n, S, key :: keys, ks, e :: es, h, hl, hm => by
    simp only [keysOf] at h
    obtain ⟨x, h1, h2⟩ := Option.bind_eq_some_iff.mp h
    obtain ⟨r, h3, rfl⟩ := map_some h2
    unfold keyOf at h1
    split at h1
    · cases h1
      cases n with
      | zero =>
        simp only [msOf, List.length_cons, List.length_nil] at hm
        have : es = [] := by
          cases es with
          | nil => rfl
          | cons _ _ => simp at hm
        subst this
        have hk : keys = [] := by
          cases keys with
          | nil => rfl
          | cons _ _ => simp at hl
        subst hk
        cases h3
        exact pps_cons pe_str (pe_stk fun _ _ => rfl) pps_nil
      | succ n =>
        simp only [msOf, List.length_cons, Nat.add_right_cancel_iff] at hm
        simp only [msOf]
        refine pps_cons pe_str ?_ (pps_of O pos n (fun m hm => S m (by omega)) keys r es h3 (by simpa using hl) hm)
        by_cases hs : isStarE e = true
        · rw [if_pos hs]
          exact pe_stk fun _ _ => rfl
        · rw [if_neg hs]
          exact ((S n (by omega)).e e O).pe
    · cases h1
theorem keys_len : ∀ {keys : List (Option Expr)} {ks : List Str}, keysOf keys = some ks → keys.length = ks.length ∧ keys.all (·.isSome) = true
  | [], ks, h => by cases h; exact ⟨rfl, rfl⟩
  | key :: keys, ks, h => by
    simp only [keysOf] at h
    obtain ⟨x, h1, h2⟩ := Option.bind_eq_some_iff.mp h
    obtain ⟨r, h3, rfl⟩ := map_some h2
    obtain ⟨a, b⟩ := keys_len h3
    refine ⟨by simp [a], ?_⟩
    unfold keyOf at h1
    split at h1
    · simp only [List.all_cons, b]
      rfl
    · cases h1
theorem se_dic {n : Nat} (O : XO NM T orc k q N sc X W) (S : ∀ m, m < n → SE NM T orc k m) (keys : List (Option Expr)) (es : List Expr) (pos : Pos) : PET X NM T W orc (.Dict keys es pos) (match keysOf keys with
    | some l => if keys.length == es.length then .dic l (cEs T q N n sc es) else .stk
    | none => .stk) := by
  split
  · rename_i ks hk
    split
    · rename_i hl
      have hl := beq_iff_eq.mp hl
      obtain ⟨h1, h2⟩ := ms_ev (T := T) (orc := orc) (q := q) (N := N) (sc := sc) n es
      obtain ⟨a1, a2⟩ := keys_len hk
      refine pet_val ?_ fun _ => rfl
      have e : evC orc (.dic ks (cEs T q N n sc es)) = fun env => onlyIf (decide (0 < ks.length) && decide (ks.length ≤ 15) && decide (ks.length = (msOf T orc q N sc n es).length) && decide ks.Nodup) (Ev.bind (newC (.dic [])) fun d => Ev.bind (evMs (msOf T orc q N sc n es) env) fun xs => fillD d (ks.zip xs)) := by
        funext env
        simp only [evC, h1, h2]
      rw [e]
      by_cases hm : (msOf T orc q N sc n es).length = es.length
      · rw [hm]
        exact s_dic (pps_of O pos n S keys ks es hk hl hm) a2 hl a1 (by rw [hm, ← hl, a1])
      · refine pe_stk fun env S => ?_
        have : decide (ks.length = (msOf T orc q N sc n es).length) = false := decide_eq_false (by omega)
        rw [this]
        simp only [Bool.and_false, Bool.false_and]
        rfl
    · exact pet_stk
  · exact pet_stk
/-- a built-in's name -/
theorem bi_ok (O : XO NM T orc k q N sc X W) (hq : q ≠ 0) {x : Str} {b : Bi} {a : Expr} {es : List Expr} {ml : En → Ev (List D)} {p pos : Pos} (h : biOf T sc x (a :: es).length = some b) (ha : PA X (a :: es) (tL X NM T W ml)) (hs : (a :: es).any isStarE = false) :
    PE X (.Call (.Name x p) (a :: es) [] pos) (tV X NM T W fun env => Ev.bind (ml env) fun xs => biD b xs) := by
  have F : ∀ (y : Str) (id : String) (b : Bi), bltB T sc x y = true → CallR X (.builtin id) (rA X.K NM (biD b)) → bootBuiltins y = some (.builtin id) → y ≠ "__name__" → y ≠ "__debug__" → PE X (.Call (.Name x p) (a :: es) [] pos) (tV X NM T W fun env => Ev.bind (ml env) fun xs => biD b xs) := fun y id b hb hc hv h1 h2 => by
    obtain ⟨rfl, hg, hm⟩ := blt_b hb
    exact s_biF hc (O.gl hg) (O.fx.gblt _ hm) hv h1 h2 ha hs
  have G : ∀ (y : Str) (id : String) (b : Bi), bltB T sc x y = true → CallR X (.type id) (rA X.K NM (biD b)) → bootBuiltins y = some (.type id) → y ≠ "__name__" → y ≠ "__debug__" → PE X (.Call (.Name x p) (a :: es) [] pos) (tV X NM T W fun env => Ev.bind (ml env) fun xs => biD b xs) := fun y id b hb hc hv h1 h2 => by
    obtain ⟨rfl, hg, hm⟩ := blt_b hb
    exact s_biT hc (O.gl hg) (O.fx.gblt _ hm) hv h1 h2 ha hs
  unfold biOf at h
  simp only [Bool.and_eq_true] at h
  split at h
  · rename_i c; cases h; exact F _ _ _ c.1 call_lenD (by rfl) (by decide) (by decide)
  split at h
  · rename_i c; cases h; exact F _ _ _ c.1 call_absD (by rfl) (by decide) (by decide)
  split at h
  · rename_i c; cases h; exact G _ _ _ c.1 call_intD (by rfl) (by decide) (by decide)
  split at h
  · rename_i c; cases h; exact G _ _ _ c.1 call_strD (by rfl) (by decide) (by decide)
  split at h
  · rename_i c; cases h; exact F _ _ _ c.1 (call_reprD O.un (O.gd hq)) (by rfl) (by decide) (by decide)
  split at h
  · rename_i c; cases h; exact F _ _ _ c.1 (call_allD (O.calm hq)) (by rfl) (by decide) (by decide)
  split at h
  · rename_i c; cases h; exact F _ _ _ c.1 (call_anyD (O.calm hq)) (by rfl) (by decide) (by decide)
  split at h
  · rename_i c; cases h; exact F _ _ _ c.1 (call_minD (O.calm hq)) (by rfl) (by decide) (by decide)
  split at h
  · rename_i c; cases h; exact G _ _ _ c.1 call_tupleD (by rfl) (by decide) (by decide)
  · cases h
theorem bi_nil {x : Str} {b : Bi} (h : biOf T sc x 0 = some b) : False := by
  unfold biOf at h
  simp only [Nat.reduceBEq, Bool.and_false, Bool.false_eq_true, if_false] at h
  cases h
theorem se_call {n : Nat} (S : SE NM T orc k n) (O : XO NM T orc k q N sc X W) (x : Str) (es : List Expr) (p pos : Pos) : PET X NM T W orc (.Call (.Name x p) es [] pos) (cCall T q N (n + 1) sc x es) := by
  unfold cCall
  split
  · rename_i h1
    split
    · rename_i h2
      split
      · rename_i i hq hi
        have hq : q ≠ 0 := by simpa using hq
        refine pet_val ?_ fun _ => rfl
        have e : evC orc (.clv i) = fun env => match env[i]? with
          | some (some (.clo b e)) => orc (.clo b e) []
          | _ => Ev.stuck := by
          funext env
          simp only [evC]
          first | done | rfl
        rw [e]
        exact s_clv O hq (by rw [O.nm]; exact ix_get hi) (O.vis h2) h1
      · exact pet_stk
    · split
      · exact pet_stk
      · rename_i hs
        rw [Bool.not_eq_true] at hs
        split
        · rename_i b hb
          split
          · rename_i hq
            have hq : q ≠ 0 := by simpa using hq
            refine pet_val ?_ fun _ => rfl
            have e : evC orc (.bi b (cEs T q N n sc es)) = fun env => Ev.bind (evCs orc (cEs T q N n sc es) env) fun xs => biD b xs := by
              funext env
              simp only [evC]
            rw [e]
            cases es with
            | nil => exact (bi_nil hb).elim
            | cons a es => exact bi_ok O hq hb (S.es (a :: es) O) hs
          · exact pet_stk
        · split
          · rename_i j hq hg hj
            have hq : q ≠ 0 := by simpa using hq
            refine pet_val ?_ fun _ => rfl
            have e : evC orc (.call j (cEs T q N n sc es)) = fun env => Ev.bind (evCs orc (cEs T q N n sc es) env) fun xs => orc (.fn j) xs := by
              funext env
              simp only [evC]
            rw [e]
            cases es with
            | nil =>
              cases n with
              | zero => exact pe_stk fun env S => by simp only [cEs, evCs]; rfl
              | succ n =>
                have e2 : evCs orc (cEs T q N (n + 1) sc []) = fun _ => (Ev.ret [] : Ev (List D)) := by
                  funext env
                  simp only [cEs, evCs]
                rw [e2]
                exact s_call0 O hq h1 hg hj
            | cons a es => exact s_call O hq h1 hg hj (S.es (a :: es) O) hs
          · exact pet_stk
  · exact pet_stk
theorem one_es (n : Nat) (a : Expr) (h : isStarE a = false) : (n = 0 ∧ cEs T q N n sc [a] = [.stk]) ∨ ∃ m, n = m + 1 ∧ (m = 0 ∧ cEs T q N n sc [a] = [.stk, .stk] ∨ ∃ m', m = m' + 1 ∧ cEs T q N n sc [a] = [cE T q N m sc a]) := by
  cases n with
  | zero => exact .inl ⟨rfl, by simp only [cEs]⟩
  | succ n =>
    refine .inr ⟨n, rfl, ?_⟩
    cases n with
    | zero => exact .inl ⟨rfl, by simp only [cEs, h, Bool.false_eq_true, if_false, cE]⟩
    | succ n => exact .inr ⟨n, rfl, by simp only [cEs, h, Bool.false_eq_true, if_false]⟩
theorem mt_id {m : Str} {n : Nat} {mt : Mt} (h : mtOf m n = some mt) : (mt = .append ∧ m = "append" ∧ n = 1) ∨ (mt = .extend ∧ m = "extend" ∧ n = 1) ∨ (mt = .pop ∧ m = "pop" ∧ n ≤ 1) ∨ (mt = .join ∧ m = "join" ∧ n = 1) := by
  unfold mtOf at h
  simp only [Bool.and_eq_true, decide_eq_true_eq, beq_iff_eq] at h
  split at h
  · rename_i c; cases h; exact .inl ⟨rfl, c⟩
  split at h
  · rename_i c; cases h; exact .inr (.inl ⟨rfl, c⟩)
  split at h
  · rename_i c; cases h; exact .inr (.inr (.inl ⟨rfl, c⟩))
  split at h
  · rename_i c; cases h; exact .inr (.inr (.inr ⟨rfl, c⟩))
  · cases h
theorem se_mth {n : Nat} (S : ∀ m, m < n → SE NM T orc k m) (O : XO NM T orc k q N sc X W) (a : Expr) (m : Str) (ap : Pos) (es : List Expr) (pos : Pos) (ha : PE X a (tV X NM T W (evC orc (cE T q N n sc a)))) : PET X NM T W orc (.Call (.Attribute a m ap) es [] pos) (if plainB a && !es.any isStarE && ap.endLine == pos.line then (match mtOf m es.length with
        | some mt => .mth mt (cE T q N n sc a) (cEs T q N n sc es)
        | none => .stk) else .stk) := by
  split
  · rename_i hc
    simp only [Bool.and_eq_true, Bool.not_eq_true'] at hc
    obtain ⟨⟨hb, hs⟩, hl⟩ := hc
    split
    · rename_i mt hm
      refine pet_val ?_ fun _ => rfl
      have e : evC orc (.mth mt (cE T q N n sc a) (cEs T q N n sc es)) = fun env => Ev.bind (evC orc (cE T q N n sc a) env) fun x => Ev.bind (chkM mt x) fun _ => Ev.bind (evCs orc (cEs T q N n sc es) env) fun xs => mthD mt x xs := by
        funext env
        simp only [evC]
      rw [e]
      have one : ∀ {T1 id : String}, PlainAttrs T1 → Slot T1 m id → typeOf (.builtin id) = pure (.type "method_descriptor") → MtR X id (rM X.K NM mt) → T1 = (if mt = .join then "str" else "list") → ∀ b, es = [b] → PE X (.Call (.Attribute a m ap) es [] pos) (tV X NM T W fun env => Ev.bind (evC orc (cE T q N n sc a) env) fun x => Ev.bind (chkM mt x) fun _ => Ev.bind (evCs orc (cEs T q N n sc es) env) fun xs => mthD mt x xs) := fun {T1 id} pa sl ty r hT b eb => by
        subst eb
        simp only [List.any_cons, List.any_nil, Bool.or_false] at hs
        rcases one_es (T := T) (q := q) (N := N) (sc := sc) n b hs with ⟨_, h1⟩ | ⟨m1, e1, ⟨_, h1⟩ | ⟨m2, e2, h1⟩⟩
        · rw [h1]
          have e3 : evCs orc [C.stk] = fun env => Ev.bind ((Ev.stuck : Ev D)) fun y => Ev.bind ((Ev.ret [] : Ev (List D))) fun ys => Ev.ret (y :: ys) := by
            funext env
            simp only [evCs, evC]
          rw [e3]
          exact s_mth (mb := fun _ => Ev.stuck) pa sl ty r hT ha hb hl (pe_stk fun _ _ => rfl) hs
        · rw [h1]
          have e3 : evCs orc [C.stk, C.stk] = fun env => Ev.bind ((Ev.stuck : Ev D)) fun y => Ev.bind ((Ev.ret [] : Ev (List D))) fun ys => Ev.ret (y :: ys) := by
            funext env
            simp only [evCs, evC]
            rfl
          rw [e3]
          exact s_mth (mb := fun _ => Ev.stuck) pa sl ty r hT ha hb hl (pe_stk fun _ _ => rfl) hs
        · rw [h1]
          have e3 : evCs orc [cE T q N m1 sc b] = fun env => Ev.bind (evC orc (cE T q N m1 sc b) env) fun y => Ev.bind ((Ev.ret [] : Ev (List D))) fun ys => Ev.ret (y :: ys) := by
            funext env
            simp only [evCs]
          rw [e3]
          exact s_mth pa sl ty r hT ha hb hl ((S m1 (by omega)).e b O).pe hs
      have oneL : es.length = 1 → ∃ b, es = [b] := fun h => by
        cases es with
        | nil => cases h
        | cons b es =>
          cases es with
          | nil => exact ⟨b, rfl⟩
          | cons _ _ => simp at h
      rcases mt_id hm with ⟨rfl, rfl, hn⟩ | ⟨rfl, rfl, hn⟩ | ⟨rfl, rfl, hn⟩ | ⟨rfl, rfl, hn⟩
      · obtain ⟨b, eb⟩ := oneL hn
        exact one PySem.F.plainAttrs_list PySem.F.slot_list_append PySem.F.type_list_append mt_appD rfl b eb
      · obtain ⟨b, eb⟩ := oneL hn
        exact one PySem.F.plainAttrs_list PySem.F.slot_list_extend PySem.F.type_list_extend mt_extD rfl b eb
      · rcases Nat.eq_or_lt_of_le hn with h1 | h1
        · obtain ⟨b, eb⟩ := oneL h1
          exact one PySem.F.plainAttrs_list PySem.F.slot_list_pop PySem.F.type_list_pop mt_popD rfl b eb
        · have : es = [] := List.length_eq_zero_iff.mp (by omega)
          subst this
          cases n with
          | zero =>
            refine pe_stk fun env S => ?_
            have : cE T q N 0 sc a = .stk := by simp only [cE]
            rw [this]
            simp only [evC]
            rfl
          | succ n =>
            have e2 : evCs orc (cEs T q N (n + 1) sc []) = fun _ => (Ev.ret [] : Ev (List D)) := by
              funext env
              simp only [cEs, evCs]
            rw [e2]
            exact s_mth0 PySem.F.plainAttrs_list PySem.F.slot_list_pop PySem.F.type_list_pop mt_popD rfl ha hb hl
      · obtain ⟨b, eb⟩ := oneL hn
        exact one PySem.F.plainAttrs_str PySem.F.slot_str_join PySem.F.type_str_join mt_joinD rfl b eb
    · exact pet_stk
  · exact pet_stk
theorem loc_b {sc : Scope} {x : Str} (h : locB sc x = true) : L2.Loc sc x := by
  unfold locB at h
  unfold L2.Loc
  split at h
  · exact .inl (by assumption)
  · exact .inr (by assumption)
  · cases h
theorem ev_lc (elt it : C) (own : List Nat) (i : Nat) (kd : Wk) (t : Option C) : evC orc (.lc elt own i kd it t) = fun env => Ev.bind ((Ev.bind (evC orc it env) (itW kd))) fun J => Ev.bind (newC (.lst [])) fun d => match d with
    | .loc n => Ev.bind (lcRun (turnD (evT orc t) (evC orc elt) own i env) n J) fun _ => Ev.ret d
    | _ => Ev.stuck := by
  funext env
  simp only [evC, bind_assoc]
  try rfl
theorem se_lc {n : Nat} (S : SE NM T orc k n) (O : XO NM T orc k q N sc X W) (elt : Expr) (x : Str) (px : Pos) (iter : Expr) (ifs : List Expr) (scope : Scope) (pos : Pos) : PET X NM T W orc (.ListComp elt [⟨.Name x px, iter, ifs, 0⟩] scope pos)
    (match q != 0, ownOf N sc scope, ix N x with
      | true, some own, some i => (match scope.kind, locB scope x, isSetE iter with
        | .function, true, false =>
          let (kd, it) := cW T q N n sc iter
          (match decide (kd = .enr) || !(decide (i ∈ own.map (·.2))) || !(L2.blkC N sc scope own), ifs with
          | false, [] => .lc (cE T 1 N n (relB scope sc) elt) (own.map (·.2)) i kd it none
          | false, [t] => .lc (cE T 1 N n (relB scope sc) elt) (own.map (·.2)) i kd it (some (cE T 1 N n (relB scope sc) t))
          | _, _ => .stk)
        | _, _, _ => .stk)
      | _, _, _ => .stk) := by
  split
  · rename_i own i hq ho hi
    have hq : q ≠ 0 := by simpa using hq
    split
    · rename_i hk hl hs
      dsimp only
      have core : ∀ (t : Option C) (mt : En → Ev Bool), evT orc t = mt → (decide ((cW T q N n sc iter).1 = .enr) || !(decide (i ∈ own.map (·.2))) || !(L2.blkC N sc scope own)) = false →
          (∀ (s : Shared) (H : Hp) (C : Addr) (cl : List (Str × Addr)) (fp : List Addr), PTs (X.blk s H scope (compEnvC scope cl C X.env) fp) ifs (tT X NM T WF mt)) →
          PE X (.ListComp elt [⟨.Name x px, iter, ifs, 0⟩] scope pos) (tV X NM T W (evC orc (.lc (cE T 1 N n (relB scope sc) elt) (own.map (·.2)) i (cW T q N n sc iter).1 (cW T q N n sc iter).2 t))) := fun t mt et hc ht => by
        simp only [Bool.or_eq_false_iff, Bool.not_eq_false', decide_eq_false_iff_not, decide_eq_true_eq] at hc
        rw [ev_lc, et]
        refine s_lc O hq (S.w (.Name x px) iter O hq (fun z => absurd z hc.1.1)) hs ?_ (by rw [O.nm]; exact ix_get hi) (loc_b hl) hc.1.2 ht fun s H C cl fp => (S.e elt (O.blk hq s H scope C cl fp)).pe
        rw [O.nm, O.sc]
        exact blkOk_by hc.2
      split
      · rename_i hc
        exact pet_val (core none _ (by funext env; simp only [evT]) hc fun s H C cl fp => ⟨fun pins s σ H Q I ⟨ρ, env, S', g, er, r⟩ => pts_nil.run pins s σ H Q I (Run.ret (b := true) r g rfl)⟩) fun _ => rfl
      · rename_i t hc
        exact pet_val (core (some _) _ (by funext env; simp only [evT]) hc fun s H C cl fp => pts_one (S.e t (O.blk hq s H scope C cl fp)).pt) fun _ => rfl
      · exact pet_stk
    · exact pet_stk
  · exact pet_stk
theorem star_stk {n : Nat} {a : Expr} (h : isStarE a = true) : cE T q N n sc a = .stk := by
  cases a <;> first | (cases h; done) | skip
  cases n <;> simp only [cE]
theorem ev_isi (a : C) (ts : List Ty) : evC orc (.isi a ts) = fun env => Ev.bind (evC orc a env) fun x => fun S => ofOpt ((isiAny S x ts).map D.bl) S := by
  funext env
  simp only [evC]
theorem se_isi {n : Nat} (S : SE NM T orc k n) (O : XO NM T orc k q N sc X W) (x : Str) (a t : Expr) (p pos : Pos) : PET X NM T W orc (.Call (.Name x p) [a, t] [] pos) (if bltB T sc x "isinstance" then (match t with
          | .Tuple ts _ _ => (match tys T sc ts with
            | some l => if !l.isEmpty && decide (l.length ≤ 1000) then .isi (cE T q N n sc a) l else .stk
            | none => .stk)
          | t => (match ty1 T sc t with
            | some l => .isi (cE T q N n sc a) [l]
            | none => .stk))
        else cCall T q N n sc x [a, t]) := by
  split
  · rename_i hb
    obtain ⟨rfl, hb⟩ := blt_same hb
    by_cases hs : isStarE a = true
    · have e := star_stk (T := T) (q := q) (N := N) (sc := sc) (n := n) hs
      have st : ∀ ts, PET X NM T W orc (.Call (.Name "isinstance" p) [a, t] [] pos) (.isi .stk ts) := fun ts => ⟨pe_stk fun env S => by rw [ev_isi]; rfl, ⟨fun pins s σ H Q I ⟨ρ, env, S, g, er, r⟩ => by
        rw [ev_isi] at r
        exact r.elim⟩⟩
      rw [e]
      split
      · split
        · split
          · exact st _
          · exact pet_stk
        · exact pet_stk
      · split
        · exact st _
        · exact pet_stk
    · rw [Bool.not_eq_true] at hs
      split
      · split
        · rename_i l hl
          split
          · rename_i hc
            simp only [Bool.and_eq_true, Bool.not_eq_true', decide_eq_true_eq] at hc
            refine pet_val ?_ fun _ => rfl
            rw [ev_isi]
            exact s_isiT O hb (S.e a O).pe hs hl (fun z => by rw [z] at hc; cases hc.1) hc.2
          · exact pet_stk
        · exact pet_stk
      · split
        · rename_i l hl
          refine pet_val ?_ fun _ => rfl
          rw [ev_isi]
          exact s_isi1 O hb (S.e a O).pe hs hl
        · exact pet_stk
  · exact S.call x [a, t] p pos O
theorem se_e {n : Nat} (S : ∀ m, m < n + 1 → SE NM T orc k m) (O : XO NM T orc k q N sc X W) (e : Expr) : PET X NM T W orc e (cE T q N (n + 1) sc e) := by
  have Sn := S n (by omega)
  unfold cE
  split
  · exact pe_ret pe_non (fun _ _ => mk_non) (by funext env; simp only [evC]) fun _ => rfl
  · exact pe_ret pe_bl (fun _ _ => mk_bl _) (by funext env; simp only [evC]) fun _ => rfl
  · exact pe_ret pe_int (fun _ _ => mk_int _) (by funext env; simp only [evC]) fun _ => rfl
  · exact pe_ret pe_str (fun _ _ => mk_str _) (by funext env; simp only [evC]) fun _ => rfl
  · exact se_name O _ _
  · rename_i a op b pos
    split
    · rename_i o ho
      refine pet_val ?_ fun _ => rfl
      have e : evC orc (.bin o (cE T q N n sc a) (cE T q N n sc b)) = fun env => Ev.bind (evC orc (cE T q N n sc a) env) fun x => Ev.bind (evC orc (cE T q N n sc b) env) fun y => opD o x y := by
        funext env
        simp only [evC]
      rw [e]
      exact s_bin (bin_ok ho) (Sn.e a O).pe (Sn.e b O).pe
    · exact pet_stk
  · exact pet_not (Sn.e _ O)
  · rename_i a pos
    refine pet_val ?_ fun _ => rfl
    have e : evC orc (.bin .sub (.int 0) (cE T q N n sc a)) = fun env => Ev.bind ((Ev.ret (.int 0) : Ev D)) fun x => Ev.bind (evC orc (cE T q N n sc a) env) fun y => opD .sub x y := by
      funext env
      simp only [evC]
    rw [e]
    exact s_neg (Sn.e a O).pe
  · exact (Sn.an _ _ O).pet
  · exact (Sn.or_ _ _ O).pet
  · exact pet_ife (Sn.e _ O) (Sn.e _ O) (Sn.e _ O)
  · rename_i a _ _ pos
    have e : evC orc (.cmp .isN (cE T q N n sc a) .non) = fun env => Ev.bind (evC orc (cE T q N n sc a) env) fun x => Ev.ret (.bl (isNonD x)) := by
      funext env
      simp only [evC]
    exact ⟨by rw [e]; exact s_isN (Sn.e a O).pe, by rw [e]; exact st_isN (Sn.e a O).pe⟩
  · rename_i a _ _ pos
    have e : evC orc (.cmp .notN (cE T q N n sc a) .non) = fun env => Ev.bind (evC orc (cE T q N n sc a) env) fun x => Ev.ret (.bl (!isNonD x)) := by
      funext env
      simp only [evC]
    exact ⟨by rw [e]; exact s_notN (Sn.e a O).pe, by rw [e]; exact st_notN (Sn.e a O).pe⟩
  · split
    · rename_i ho hs
      exact pet_cmp O.un ho hs (Sn.e _ O).pe (Sn.e _ O).pe
    · exact pet_stk
  · split
    · rename_i ho ho' hs
      exact pet_chn O.un ho ho' hs (Sn.e _ O).pe (Sn.e _ O).pe (Sn.e _ O).pe
    · exact pet_stk
  · rename_i es _ _
    refine pet_val ?_ fun _ => rfl
    have e : evC orc (.tup (cEs T q N n sc es)) = fun env => Ev.bind (evCs orc (cEs T q N n sc es) env) fun xs => onlyIf (decide (xs.length ≤ line)) (Ev.ret (.tup xs)) := by
      funext env
      simp only [evC]
    rw [e]
    exact s_tup (Sn.es es O)
  · rename_i es _
    refine pet_val ?_ fun _ => rfl
    have e : evC orc (.lst (cEs T q N n sc es)) = fun env => Ev.bind (evCs orc (cEs T q N n sc es) env) fun xs => onlyIf (decide (xs.length ≤ line)) (newC (.lst xs)) := by
      funext env
      simp only [evC]
    rw [e]
    exact s_lst (Sn.es es O)
  · exact se_dic O (fun m hm => S m (by omega)) _ _ _
  · rename_i a lo hi _ _
    refine pet_val ?_ fun _ => rfl
    have e : evC orc (.slc (cE T q N n sc a) (cO T q N n sc lo) (cO T q N n sc hi)) = fun env => Ev.bind (evC orc (cE T q N n sc a) env) fun x => Ev.bind (evO orc (cO T q N n sc lo) env) fun l => Ev.bind (evO orc (cO T q N n sc hi) env) fun h => slcD x l h := by
      funext env
      simp only [evC]
    rw [e]
    exact s_slc (Sn.e a O).pe (Sn.o lo O) (Sn.o hi O)
  · rename_i a b pos _
    split
    · exact pet_stk
    · rename_i hs
      rw [Bool.not_eq_true] at hs
      refine pet_val ?_ fun _ => rfl
      have e : evC orc (.idx (cE T q N n sc a) (cE T q N n sc b)) = fun env => Ev.bind (evC orc (cE T q N n sc a) env) fun x => Ev.bind (evC orc (cE T q N n sc b) env) fun y => idxD x y := by
        funext env
        simp only [evC]
      rw [e]
      exact s_idx O.un (Sn.e a O).pe (Sn.e b O).pe hs
  · rename_i a f pos
    split
    · rename_i hc
      simp only [Bool.and_eq_true, decide_eq_true_eq] at hc
      refine pet_val ?_ fun _ => rfl
      have e : evC orc (.fld (cE T q N n sc a) f) = fun env => Ev.bind (evC orc (cE T q N n sc a) env) fun x => match x with
        | .exc _ fs => ofOpt (look fs f)
        | _ => Ev.stuck := by
        funext env
        simp only [evC]
        first | done | rfl
      rw [e]
      exact s_fld O.fx hc.2 (Sn.e a O).pe hc.1
    · exact pet_stk
  · exact se_isi Sn O _ _ _ _ _
  · rename_i x px kn a kp pos
    split
    · rename_i hc
      simp only [Bool.and_eq_true, Bool.not_eq_true', bne_iff_ne, ne_eq] at hc
      split
      · rename_i j hj
        split
        · rename_i hp
          refine pet_val ?_ fun _ => rfl
          have e : evC orc (.call j [cE T q N n sc a]) = fun env => Ev.bind ((Ev.bind (evC orc (cE T q N n sc a) env) fun y => Ev.bind ((Ev.ret [] : Ev (List D))) fun ys => Ev.ret (y :: ys))) fun xs => orc (.fn j) xs := by
            funext env
            simp only [evC, evCs]
          rw [e]
          exact s_callk O hc.1.1.1 hc.1.1.2 hc.1.2 hj (of_decide_eq_true hp) (Sn.e a O).pe
        · exact pet_stk
      · exact pet_stk
    · exact pet_stk
  · rename_i x px body scope lp pos
    split
    · rename_i j hc hj
      simp only [Bool.and_eq_true] at hc
      obtain ⟨⟨⟨⟨⟨⟨⟨h1, h2⟩, h3⟩, h4⟩, h5⟩, h6⟩, h7⟩, h8⟩ := hc
      have hq : q = 2 := beq_iff_eq.mp h1
      subst hq
      refine pet_val ?_ fun _ => rfl
      have e : evC orc (.callL j (cE T 1 N n scope body)) = fun env => orc (.fn j) [.clo (cE T 1 N n scope body) env] := by
        funext env
        simp only [evC]
      rw [e]
      exact s_callL O h2 h4 hj (by rw [h5, h6, h7, h8]; rfl)
    · exact pet_stk
  · exact Sn.call _ _ _ _ O
  · exact se_mth (fun m hm => S m (by omega)) O _ _ _ _ _ (Sn.e _ O).pe
  · exact se_lc Sn O _ _ _ _ _ _ _
  · exact pet_stk
/-- every expression of the small language -/
theorem se_all (n : Nat) : SE NM T orc k n := by
  induction n using Nat.strongRecOn with
  | _ n ih =>
    cases n with
    | zero => exact se_zero
    | succ n => exact {
        e := fun e O => se_e (fun m hm => ih m hm) O e
        call := fun x es p pos O => se_call (ih n (by omega)) O x es p pos
        es := fun es O => se_es (ih n (by omega)) O es
        an := fun es pos O => se_an (ih n (by omega)) O es pos
        or_ := fun es pos O => se_or (ih n (by omega)) O es pos
        o := fun o O => se_o (ih n (by omega)) O o
        w := fun tg e O hq h => se_w (ih n (by omega)) O hq tg e h }
end
end QV
set_option maxRecDepth 100000
set_option maxHeartbeats 4000000
/-! Q15: statements. -/
namespace QV
open PySem PySem.Spec PyProof.Rows L2
section
variable (K : PySem.W.Frag) (NM : Nms) (base : Heap) (T : CT) (W : WX)
/-- what is wanted behind a statement, by trees -/
def RunS (ρ : List Addr) (H : Hp) (D : Ends) (o : SOut) : Prop := match o with
  | .stk => False
  | .nx env S => ∀ ρ' H' σ', Le ρ H ρ' H' → Gd K NM ρ' S H' → EnvR K NM base T ρ' H' env σ' → D.nx σ' H'
  | .rt d S => ∀ ρ' H' v, Le ρ H ρ' H' → Gd K NM ρ' S H' → Rep K NM ρ' H' d v → D.rt v H'
  | .bk env S => ∀ ρ' H' σ', Le ρ H ρ' H' → Gd K NM ρ' S H' → EnvR K NM base T ρ' H' env σ' → D.bk σ' H'
  | .ct env S => ∀ ρ' H' σ', Le ρ H ρ' H' → Gd K NM ρ' S H' → EnvR K NM base T ρ' H' env σ' → D.ct σ' H'
  | .ex e env S => ∀ ρ' H' σ' cls dd, Le ρ H ρ' H' → Gd K NM ρ' S H' → EnvR K NM base T ρ' H' env σ' → ExR K NM ρ' H' e cls dd → W cls dd σ' H'
def tSt (m : Sv) : TS := fun D σ H => ∃ ρ env S, Gd K NM ρ S H ∧ EnvR K NM base T ρ H env σ ∧ RunS K NM base T W ρ H D (m env S)
end
section
variable {K : PySem.W.Frag} {NM : Nms} {base : Heap} {T : CT} {W : WX} {ρ ρ1 : List Addr} {H H1 : Hp} {D D' : Ends} {o : SOut} {σ : L2.St} {env : En} {S : Sto} {α β : Type} {R : RL α β}
theorem RunS.from_ (h : RunS K NM base T W ρ H D o) (l : Le ρ H ρ1 H1) : RunS K NM base T W ρ1 H1 D o := by
  cases o with
  | stk => exact h
  | nx env S => exact fun ρ' H' σ' l' => h ρ' H' σ' (l.trans l')
  | rt d S => exact fun ρ' H' v l' => h ρ' H' v (l.trans l')
  | bk env S => exact fun ρ' H' σ' l' => h ρ' H' σ' (l.trans l')
  | ct env S => exact fun ρ' H' σ' l' => h ρ' H' σ' (l.trans l')
  | ex e env S => exact fun ρ' H' σ' c d l' => h ρ' H' σ' c d (l.trans l')
theorem RunS.ev {m : En → Ev α} {f : α → Sv} (er : EnvR K NM base T ρ H env σ) (h : RunS K NM base T W ρ H D (ofEv m f env S)) :
    Run K NM R W ρ H σ (m env S) (fun b H1 => ∃ ρ1 S1 a, Le ρ H ρ1 H1 ∧ Gd K NM ρ1 S1 H1 ∧ R ρ1 H1 a b ∧ RunS K NM base T W ρ1 H1 D (f a env S1)) := by
  unfold ofEv at h
  cases e : m env S with
  | stk => rw [e] at h; exact h
  | ok a S' => rw [e] at h; exact fun ρ' H' b l g r => ⟨ρ', S', a, l, g, r, h.from_ l⟩
  | ex x S' => rw [e] at h; exact fun ρ' H' c d l g x => h ρ' H' σ c d l g (er.le l) x
/-- an expression ahead of the rest -/
theorem goS {m : En → Ev α} {f : α → Sv} (g : Gd K NM ρ S H) (er : EnvR K NM base T ρ H env σ) (h : RunS K NM base T W ρ H D (ofEv m f env S)) :
    tG K NM base T W R m σ H (fun b H1 => ∃ ρ1 S1 a, Le ρ H ρ1 H1 ∧ Gd K NM ρ1 S1 H1 ∧ R ρ1 H1 a b ∧ RunS K NM base T W ρ1 H1 D (f a env S1)) := ⟨ρ, env, S, g, er, h.ev er⟩
theorem RunS.nx (h : RunS K NM base T W ρ H D (.nx env S)) (g : Gd K NM ρ S H) (er : EnvR K NM base T ρ H env σ) : D.nx σ H := h ρ H σ (Le.refl _ _) g er
end
theorem PS.of {X : Cx} {st : Stmt} {t t' : TS} (h : PS X st t) (k : ∀ D σ H, t' D σ H → t D σ H) : PS X st t' := ⟨fun pins s σ H D I r => h.run pins s σ H D I (k _ _ _ r)⟩
theorem PSs.of {X : Cx} {st : List Stmt} {t t' : TS} (h : PSs X st t) (k : ∀ D σ H, t' D σ H → t D σ H) : PSs X st t' := ⟨fun pins s σ H D I r => h.run pins s σ H D I (k _ _ _ r)⟩
/-- where statements run -/
structure XS (NM : Nms) (T : CT) (orc : Orc) (k : Nat) (q : Nat) (N : List Str) (sc : Scope) (X : Cx) (W : WX) : Prop where
  o : XO NM T orc k q N sc X W
  fn : ∀ x, X.fn x = true
  kd : sc.kind = .function
  own : q ≠ 0 → PassesOwn (model X.prog X.w) X.A X.env X.xe
  stk : q ≠ 0 → X.stack = X.env :: X.outer ∧ X.env.frame = some X.env.locals ∧ X.ex = []
section
variable (X : Cx) (NM : Nms) (T : CT) (W : WX)
abbrev tQ (m : Sv) : TS := tSt X.K NM X.base T W m
end
theorem no_swap {e : Expr} {t : Option Expr} {l : Nat} {env : Env} (h : isCompE e = false) : swapsWith e t l env = pure false := by cases e <;> first | rfl | cases h
theorem no_swap1 {e t : Expr} {l : Nat} {env : Env} (h : isCompE e = false) : swapsWithSole [t] e l env = pure false := by
  unfold swapsWithSole
  exact no_swap h
section
variable {X : Cx} {NM : Nms} {T : CT} {W : WX} {orc : Orc} {k q F : Nat} {N : List Str} {sc : Scope} {a b e : Expr} {st : Stmt} {sts : List Stmt} {ma mb : En → Ev D} {m m2 : Sv} {pos p px py : Pos} {x y : Str} {i j : Nat} {TB : Tb}
theorem q_stk {f : Sv} (h : ∀ env S, f env S = .stk) : PS X st (tQ X NM T W f) := ⟨fun pins s σ H D I ⟨ρ, env, S, g, er, r⟩ => by
  rw [h] at r
  exact r.elim⟩
theorem qs_nil : PSs X [] (tQ X NM T W fun env S => .nx env S) := PSs.of pss_nil fun D σ H ⟨ρ, env, S, g, er, r⟩ => r.nx g er
theorem seq_read {D : Ends} {ρ : List Addr} {H : Hp} {o : SOut} {f : Sv} (h : RunS X.K NM X.base T W ρ H D (match o with
    | .nx env' S' => f env' S'
    | r => r)) : RunS X.K NM X.base T W ρ H { D with nx := tQ X NM T W f D } o := by
  cases o with
  | stk => exact h
  | nx env S => exact fun ρ' H' σ' l g er => ⟨ρ', env, S, g, er, h.from_ l⟩
  | rt d S => exact h
  | bk env S => exact h
  | ct env S => exact h
  | ex e env S => exact h
theorem qs_cons (h1 : PS X st (tQ X NM T W m)) (h2 : PSs X sts (tQ X NM T W m2)) : PSs X (st :: sts) (tQ X NM T W (seqS m m2)) :=
  PSs.of (pss_cons h1 h2) fun D σ H ⟨ρ, env, S, g, er, r⟩ => ⟨ρ, env, S, g, er, seq_read r⟩
theorem q_pass : PS X (.Pass pos) (tQ X NM T W fun env S => .nx env S) := PS.of ps_pass fun D σ H ⟨ρ, env, S, g, er, r⟩ => r.nx g er
theorem q_brk : PS X (.Break pos) (tQ X NM T W fun env S => .bk env S) := PS.of ps_break fun D σ H ⟨ρ, env, S, g, er, r⟩ => r ρ H σ (Le.refl _ _) g er
theorem q_cnt : PS X (.Continue pos) (tQ X NM T W fun env S => .ct env S) := PS.of ps_continue fun D σ H ⟨ρ, env, S, g, er, r⟩ => r ρ H σ (Le.refl _ _) g er
theorem q_doc {z n p1 p2} : PS X (.Expr (.Constant (.str z) n p1) p2) (tQ X NM T W fun env S => .nx env S) := PS.of ps_doc fun D σ H ⟨ρ, env, S, g, er, r⟩ => r.nx g er
theorem q_ex (ha : PE X a (tV X NM T W ma)) (h : isCompE a = false) : PS X (.Expr a pos) (tQ X NM T W (ofEv ma fun _ env S => .nx env S)) :=
  PS.of (ps_expr ha (no_swap h)) fun D σ H ⟨ρ, env, S, g, er, r⟩ => (goS g er r).imp fun v H1 ⟨ρ1, S1, d, l1, g1, r1, q1⟩ => q1.nx g1 (er.le l1)
theorem q_ret (ha : PE X a (tV X NM T W ma)) : PS X (.Return (some a) pos) (tQ X NM T W (ofEv ma fun x _ S => .rt x S)) :=
  PS.of (ps_ret ha) fun D σ H ⟨ρ, env, S, g, er, r⟩ => (goS g er r).imp fun v H1 ⟨ρ1, S1, d, l1, g1, r1, q1⟩ => q1 ρ1 H1 v (Le.refl _ _) g1 r1
theorem q_retN : PS X (.Return none pos) (tQ X NM T W fun _ S => .rt .non S) := PS.of ps_retN fun D σ H ⟨ρ, env, S, g, er, r⟩ => r ρ H .non (Le.refl _ _) g mk_non
theorem q_if {mt : En → Ev Bool} {as bs : List Stmt} (ht : PT X a (tT X NM T W mt)) (ha : PSs X as (tQ X NM T W m)) (hb : PSs X bs (tQ X NM T W m2)) : PS X (.If a as bs pos) (tQ X NM T W (ofEv mt fun k => match k with
    | true => m
    | false => m2)) :=
  PS.of (ps_if ht ha hb) fun D σ H ⟨ρ, env, S, g, er, r⟩ => (goS (R := rEq) g er r).imp fun v H1 ⟨ρ1, S1, d, l1, g1, (r1 : d = v), q1⟩ => by
    subst r1
    cases d with
    | true => exact (if_pos rfl).mpr ⟨ρ1, env, S1, g1, er.le l1, q1⟩
    | false => exact (if_neg (by decide)).mpr ⟨ρ1, env, S1, g1, er.le l1, q1⟩
/-! stores -/
/-- a target by trees -/
def tTg (X : Cx) (NM : Nms) (T : CT) (tg : Tg) (g : TG) : Prop := ∀ (d : D) (v : V) (σ : L2.St) (H : Hp) (env env' : En) (ρ : List Addr), Rep X.K NM ρ H d v → EnvR X.K NM X.base T ρ H env σ → bindT tg d env = some env' → ∀ Q : L2.St → Hp → Prop, (∀ σ', EnvR X.K NM X.base T ρ H env' σ' → Q σ' H) → g v σ H Q
theorem tg_nm : tTg X NM T (.nm i) (gName i) := fun d v σ H env env' ρ r er e Q q => by
  cases e
  exact q _ (EnvR.set (AR.of r) i er)
def gNms : List Nat → TGs
  | [] => gNil
  | i :: is => gCons (gName i) (gNms is)
theorem tg_all {ρ : List Addr} {H : Hp} : ∀ {is : List Nat} {ds : List D} {vs : List V} {σ : L2.St} {env env' : En} {Q : L2.St → Hp → Prop}, RepL X.K NM ρ H ds vs → EnvR X.K NM X.base T ρ H env σ → setAll env is ds = some env' → (∀ σ', EnvR X.K NM X.base T ρ H env' σ' → Q σ' H) → gNms is vs σ H Q ∧ vs.length = is.length
  | [], [], vs, σ, env, env', Q, r, er, e, q => by
    simp only [RepL] at r
    subst r
    cases e
    exact ⟨⟨rfl, q σ er⟩, rfl⟩
  | i :: is, d :: ds, vs, σ, env, env', Q, r, er, e, q => by
    simp only [RepL] at r
    obtain ⟨v, t, rfl, r1, r2⟩ := r
    obtain ⟨h1, h2⟩ := tg_all r2 (EnvR.set (AR.of r1) i er) e q
    exact ⟨⟨v, t, rfl, h1⟩, by rw [List.length_cons, List.length_cons, h2]⟩
  | [], _ :: _, _, _, _, _, _, _, _, e, _ => by cases e
  | _ :: _, [], _, _, _, _, _, _, _, e, _ => by cases e
theorem tg_tp {is : List Nat} {n : Nat} (hn : n = is.length) : tTg X NM T (.tp is) (gTup X.K n (gNms is)) := fun d v σ H env env' ρ r er e Q q => by
  cases d <;> first | (cases e; done) | skip
  obtain ⟨a, vs, rfl, sq, r2⟩ := rep_tup r
  obtain ⟨h1, h2⟩ := tg_all r2 er e q
  exact ⟨a, vs, rfl, sq, by rw [h2, hn], h1⟩
theorem bind_read {De : Ends} {ρ : List Addr} {H : Hp} {tg : Tg} {g : TG} {d : D} {v : V} {σ : L2.St} {env : En} {S : Sto} {f : Sv} (ht : tTg X NM T tg g) (r : Rep X.K NM ρ H d v) (er : EnvR X.K NM X.base T ρ H env σ) (gd : Gd X.K NM ρ S H)
    (h : RunS X.K NM X.base T W ρ H De (bindS tg d f env S)) {Q : L2.St → Hp → Prop} (q : ∀ σ' env', EnvR X.K NM X.base T ρ H env' σ' → RunS X.K NM X.base T W ρ H De (f env' S) → Q σ' H) : g v σ H Q := by
  unfold bindS at h
  split at h
  · rename_i env' e
    exact ht d v σ H env env' ρ r er e Q fun σ' er' => q σ' env' er' h
  · exact h.elim
theorem asg_read {tg : Tg} {g : TG} (ht : tTg X NM T tg g) (D : Ends) (σ : L2.St) (H : Hp) (h : tQ X NM T W (ofEv ma fun x => bindS tg x fun env S => .nx env S) D σ H) : tAsg (tV X NM T W ma) g D σ H := by
  obtain ⟨ρ, env, S, gd, er, r⟩ := h
  exact (goS gd er r).imp fun v H1 ⟨ρ1, S1, d, l1, g1, r1, q1⟩ => bind_read ht r1 (er.le l1) g1 q1 fun σ' env' er' q => q.nx g1 er'
theorem q_set (O : XS NM T orc k q N sc X W) (hi : X.N[i]? = some x) (hx : L2.Loc X.env.scope x) (ha : PE X a (tV X NM T W ma)) (h : isCompE a = false) : PS X (.Assign [.Name x px] a pos) (tQ X NM T W (ofEv ma fun z => bindS (.nm i) z fun env S => .nx env S)) :=
  PS.of (ps_set (by rw [O.o.nm]; exact O.o.nd) hi hx ha (no_swap h) (.inl (O.fn x))) fun D σ H h => asg_read tg_nm D σ H h
theorem pgs_names (O : XS NM T orc k q N sc X W) : ∀ {ts : List Expr} {is : List Nat}, slots N sc ts = some is → PGs X ts (gNms is) ∧ (assignEach ts X.env).length = is.length ∧ (assignEach ts X.env).findIdx? (·.1) = none
  | [], is, h => by
    cases h
    exact ⟨pgs_nil, rfl, rfl⟩
  | t :: ts, is, h => by
    cases t <;> first | (cases h; done) | skip
    rename_i x p
    simp only [slots] at h
    split at h
    · rename_i i hl hi
      obtain ⟨js, h1, rfl⟩ := map_some h
      obtain ⟨p1, p2, p3⟩ := pgs_names O h1
      have hl2 : L2.Loc X.env.scope x := by rw [O.o.sc]; exact loc_b hl
      refine ⟨pgs_cons (pg_name (by rw [O.o.nm]; exact O.o.nd) (by rw [O.o.nm]; exact ix_get hi) hl2 (.inl (O.fn x))) p1 rfl, ?_, ?_⟩
      · show ((false, _) :: assignEach ts X.env).length = _
        rw [List.length_cons, List.length_cons, p2]
      · show List.findIdx? (·.1) ((false, _) :: assignEach ts X.env) = none
        rw [List.findIdx?_cons]
        simp only [Bool.false_eq_true, if_false, p3]
        rfl
    · cases h
theorem pg_tp (O : XS NM T orc k q N sc X W) (hq : q ≠ 0) {ts : List Expr} {is : List Nat} {n : Nat} (h : slots N sc ts = some is) : PG X (.Tuple ts n p) (gTup X.K is.length (gNms is)) := by
  obtain ⟨p1, p2, p3⟩ := pgs_names O h
  exact pg_tup (O.o.calm hq) p1 p2 p3
theorem q_tup (O : XS NM T orc k q N sc X W) (hq : q ≠ 0) {ts : List Expr} {is : List Nat} {n : Nat} (h : slots N sc ts = some is) (ha : PE X a (tV X NM T W ma)) (hc : isCompE a = false) (ht : isTupE a = false) :
    PS X (.Assign [.Tuple ts n p] a pos) (tQ X NM T W (ofEv ma fun z => bindS (.tp is) z fun env S => .nx env S)) :=
  PS.of (ps_asg ha (pg_tp O hq h) (no_swap1 hc) (by cases a <;> first | rfl | cases ht) rfl) fun D σ H h => asg_read (tg_tp rfl) D σ H h
theorem q_setI (O : XS NM T orc k q N sc X W) {mv : En → Ev D} (hv : PE X e (tV X NM T W mv)) (ha : PE X a (tV X NM T W ma)) (hb : PE X b (tV X NM T W mb)) (hc : isCompE e = false) (hs : isSliceE b = false) :
    PS X (.Assign [.Subscript a b p] e pos) (tQ X NM T W (ofEv mv fun v => ofEv ma fun x => ofEv mb fun y => ofEv (fun _ => setD x y v) fun _ env S => .nx env S)) :=
  PS.of (ps_asg hv (pg_sub ha hb (set_dK O.o.un) (by intro v; cases b <;> first | rfl | cases hs)) (no_swap1 hc) rfl rfl) fun D σ H ⟨ρ, env, S, g, er, r⟩ => (goS g er r).imp fun v H1 ⟨ρ1, S1, d, l1, g1, r1, q1⟩ => (goS g1 (er.le l1) q1).imp fun x H2 ⟨ρ2, S2, d2, l2, g2, r2, q2⟩ =>
    (goS g2 ((er.le l1).le l2) q2).imp fun y H3 ⟨ρ3, S3, d3, l3, g3, r3, q3⟩ => by
      have q4 := (RunS.ev (R := (fun _ _ (_ : Unit) (_ : Unit) => True : RL Unit Unit)) (((er.le l1).le l2).le l3) q3).noex setD_noex ([] : L2.St)
      exact ⟨ρ3, S3, d2, d3, d, g3, Rep.le l3 r2, r3, Rep.le l3 (Rep.le l2 r1), q4.imp fun _ H4 ⟨ρ4, S4, _, l4, g4, _, q5⟩ => q5.nx g4 ((((er.le l1).le l2).le l3).le l4)⟩
theorem iop_D {op : Operator} {o : Op} (h : (op = .Add ∧ o = .add) ∨ (op = .Sub ∧ o = .sub)) : PIp X op (rD X.K NM (opD o)) := by
  intro pins s σ H x y v u Q I rx ry h1
  obtain ⟨ρ, S, a, b, g, ra, rb, r⟩ := h1
  rcases h with ⟨rfl, rfl⟩ | ⟨rfl, rfl⟩
  · cases a <;> cases b <;> first | exact r.elim | skip
    · have e1 := rep_int ra
      have e2 := rep_int rb
      subst e1 e2
      exact iop_add pins s σ H _ _ v u Q I rx ry ⟨_, _, rfl, rfl, r.ret g (mk_int _)⟩
    · have e1 := rep_str ra
      have e2 := rep_str rb
      subst e1 e2
      obtain ⟨c, r⟩ := onlyIf_run r
      exact iop_add_str pins s σ H _ _ v u Q I rx ry ⟨_, _, rfl, rfl, by rw [← line_eq]; exact of_decide_eq_true c, r.ret g (mk_str _)⟩
  · cases a <;> cases b <;> first | exact r.elim | skip
    have e1 := rep_int ra
    have e2 := rep_int rb
    subst e1 e2
    exact iop_sub pins s σ H _ _ v u Q I rx ry ⟨_, _, rfl, rfl, r.ret g (mk_int _)⟩
theorem q_aug (O : XS NM T orc k q N sc X W) {op : Operator} {o : Op} (ho : (op = .Add ∧ o = .add) ∨ (op = .Sub ∧ o = .sub)) (hi : X.N[i]? = some x) (hx : L2.Loc X.env.scope x) (ha : PE X a (tV X NM T W ma)) :
    PS X (.AugAssign (.Name x px) op a pos) (tQ X NM T W (ofEv (fun env => match env[i]? with
      | some (some (.clo _ _)) => Ev.stuck
      | some (some d) => Ev.ret d
      | _ => Ev.stuck) fun x => ofEv ma fun y => ofEv (fun _ => opD o x y) fun z env S => .nx (env.set i (some z)) S)) :=
  PS.of (ps_aug (by rw [O.o.nm]; exact O.o.nd) hi hx ha (iop_D (NM := NM) ho) (.inl (O.fn x))) fun D σ H ⟨ρ, env, S, g, er, r⟩ => by
    have key : ∃ d v, σ[i]? = some (some v) ∧ Rep X.K NM ρ H d v ∧ RunS X.K NM X.base T W ρ H D ((ofEv ma fun y => ofEv (fun _ => opD o d y) fun z env S => .nx (env.set i (some z)) S) env S) := by
      unfold ofEv at r
      dsimp only at r
      rcases he : env[i]? with _ | _ | d
      · rw [he] at r
        exact r.elim
      · rw [he] at r
        exact r.elim
      · rw [he] at r
        obtain ⟨v, h2, h3⟩ := er.get he
        cases d <;> first
          | exact r.elim
          | exact ⟨_, v, h2, AR.rep (fun b e z => by cases z) h3, r⟩
    obtain ⟨d, v, h1, h2, r⟩ := key
    refine ⟨v, h1, (goS g er r).imp fun y H1 ⟨ρ1, S1, d2, l1, g1, r1, q1⟩ => ?_⟩
    have q4 := (RunS.ev (R := rD1 X.K NM) (er.le l1) q1).noex opD_noex ([] : L2.St)
    exact ⟨ρ1, S1, d, d2, g1, h2.le l1, r1, q4.imp fun z H2 ⟨ρ2, S2, d3, l2, g2, r2, q2⟩ => q2.nx g2 (EnvR.set (AR.of r2) i ((er.le l1).le l2))⟩
end
end QV
set_option maxRecDepth 100000
set_option maxHeartbeats 4000000
/-! Q16: loops; pairs of stores; a comprehension's store. -/
namespace QV
open PySem PySem.Spec PyProof.Rows L2
section
variable {X : Cx} {NM : Nms} {T : CT} {W : WX} {orc : Orc} {k q F : Nat} {N : List Str} {sc : Scope} {a b e : Expr} {st : Stmt} {sts : List Stmt} {ma mb : En → Ev D} {m m2 : Sv} {pos p px py : Pos} {x y : Str} {i j : Nat} {TB : Tb}
/-- what a loop's turn is to reach -/
def aft (X : Cx) (NM : Nms) (T : CT) (W : WX) (ρ0 : List Addr) (H0 : Hp) (next : Sv) (De : Ends) (σ : L2.St) (H : Hp) : Prop := ∃ ρ env S, Le ρ0 H0 ρ H ∧ Gd X.K NM ρ S H ∧ EnvR X.K NM X.base T ρ H env σ ∧ RunS X.K NM X.base T W ρ H De (next env S)
theorem turn_st {De : Ends} {ρ ρ0 : List Addr} {H H0 : Hp} {next : Sv} {env : En} {S : Sto} (l0 : Le ρ0 H0 ρ H) (h : RunS X.K NM X.base T W ρ H De (turnS m next env S)) :
    RunS X.K NM X.base T W ρ H { De with nx := aft X NM T W ρ0 H0 next De, ct := aft X NM T W ρ0 H0 next De, bk := De.nx } (m env S) := by
  unfold turnS at h
  cases e : m env S with
  | stk => rw [e] at h; exact h
  | nx env S => rw [e] at h; exact fun ρ' H' σ' l g er => ⟨ρ', env, S, l0.trans l, g, er, h.from_ l⟩
  | rt d S => rw [e] at h; exact h
  | bk env S => rw [e] at h; exact h
  | ct env S => rw [e] at h; exact fun ρ' H' σ' l g er => ⟨ρ', env, S, l0.trans l, g, er, h.from_ l⟩
  | ex e env S => rw [e] at h; exact h
theorem q_whl (O : XS NM T orc k q N sc X W) (hq : q ≠ 0) {mt : En → Ev Bool} (ht : PT X a (tT X NM T W mt)) (hb : PSs X sts (tQ X NM T W m)) : PS X (.While a sts [] pos) (tQ X NM T W (whlRun mt m F)) := by
  refine PS.of (ps_while (O.own hq) ht hb) fun De σ H h => ?_
  refine ⟨fun f σ H => tQ X NM T W (whlRun mt m f) De σ H, ⟨F, h⟩, fun f σ H ⟨ρ, env, S, g, er, r⟩ => ?_⟩
  cases f with
  | zero => exact r.elim
  | succ f =>
    refine (goS (R := rEq) g er r).imp fun v H1 ⟨ρ1, S1, d, l1, g1, (r1 : d = v), q1⟩ => ?_
    subst r1
    cases d with
    | false => exact (if_neg (by decide)).mpr (RunS.nx q1 g1 (er.le l1))
    | true => exact (if_pos rfl).mpr ⟨aft X NM T W ρ1 H1 (whlRun mt m f) De, fun σ' H' ⟨ρ2, env2, S2, _, z⟩ => ⟨f, by omega, ρ2, env2, S2, z⟩, ρ1, env, S1, g1, er.le l1, turn_st (Le.refl _ _) q1⟩
theorem q_for (O : XS NM T orc k q N sc X W) (hq : q ≠ 0) {tgE iter : Expr} {tg : Tg} {gt : TG} {mi : En → Ev QV.It} (hi : PI X tgE iter (tI X NM T W mi)) (hg : PG X tgE gt) (ht : tTg X NM T tg gt) (hs : isSetE iter = false) (hb : PSs X sts (tQ X NM T W m)) :
    PS X (.For tgE iter sts [] pos) (tQ X NM T W (ofEv mi fun J => forRun tg m J)) := by
  refine PS.of (ps_for (O.own hq) (O.o.calm hq) hi hg hb (set_free hs)) fun De σ H ⟨ρ, env, S, g, er, r⟩ => (goS g er r).imp fun J' H1 ⟨ρ1, S1, J, l1, g1, r1, q1⟩ => ?_
  cases J with
  | fix xs =>
    refine ⟨fun i f σ H => f = xs.length - i ∧ aft X NM T W ρ1 H1 (forFix tg m (xs.drop i)) De σ H,
      ⟨_, rfl, ρ1, env, S1, Le.refl _ _, g1, er.le l1, q1⟩, fun i f σ H ⟨ef, ρ', env', S', l', g', er', qi⟩ => ?_⟩
    have ri := r1 i ρ' S' H l' g'
    rcases hd : xs[i]? with _ | d
    · have hlen : xs.length ≤ i := List.getElem?_eq_none_iff.mp hd
      rw [List.drop_eq_nil_of_le hlen] at qi
      exact .inl ⟨ri.2 hlen, RunS.nx qi g' er'⟩
    · obtain ⟨hgo, hy⟩ := ri.1 d hd
      have hlt := (List.getElem?_eq_some_iff.mp hd).1
      have edrop : xs.drop i = d :: xs.drop (i + 1) := by
        rw [List.drop_eq_getElem_cons hlt]
        congr 1
        exact (List.getElem?_eq_some_iff.mp hd).2
      rw [edrop] at qi
      refine .inr ⟨hgo, aft X NM T W ρ1 H1 (forFix tg m (xs.drop (i + 1))) De, fun σ2 H2 z => ⟨xs.length - (i + 1), by omega, rfl, z⟩, fun v H2 hyl => ?_⟩
      obtain ⟨l3, g3, r3⟩ := hy v H2 hyl
      exact bind_read ht r3 (er'.le l3) g3 (RunS.from_ qi l3) fun σ' env2 er2 q2 => ⟨ρ', env2, S', g3, er2, turn_st (l'.trans l3) q2⟩
  | live n0 =>
    obtain ⟨a0, ha0, rfl⟩ := r1
    replace q1 : RunS X.K NM X.base T W ρ1 H1 De (match asL S1 (.loc n0) with
      | some xs => forLive tg m n0 xs.length 0 env S1
      | none => .stk) := q1
    split at q1
    · rename_i xs0 hx0
      refine ⟨fun i f σ H => aft X NM T W ρ1 H1 (forLive tg m n0 f i) De σ H, ⟨_, ρ1, env, S1, Le.refl _ _, g1, er.le l1, q1⟩, fun i f σ H ⟨ρ', env', S', l', g', er', qi⟩ => ?_⟩
      have ha' : ρ'[n0]? = some a0 := l'.get ha0
      have stop : ∀ xs : List D, asL S' (.loc n0) = some xs → xs.length ≤ i → RunS X.K NM X.base T W ρ' H De (.nx env' S') → (Itl X.K a0).stop i H ∧ De.nx σ H := fun xs hxs hlen qs => by
        obtain ⟨p, vs, e, sq, rv⟩ := asL_some g' hxs (mk_loc ha')
        cases e
        exact ⟨⟨vs, sq, by rw [rv.length]; exact hlen⟩, RunS.nx qs g' er'⟩
      cases f with
      | zero =>
        replace qi : RunS X.K NM X.base T W ρ' H De (match asL S' (.loc n0) with
          | some xs => if xs.length ≤ i then .nx env' S' else .stk
          | none => .stk) := qi
        split at qi
        · rename_i xs hxs
          split at qi
          · rename_i hlen
            exact .inl (stop xs hxs hlen qi)
          · exact qi.elim
        · exact qi.elim
      | succ f =>
        replace qi : RunS X.K NM X.base T W ρ' H De (match asL S' (.loc n0) with
          | some xs => match xs[i]? with
            | none => .nx env' S'
            | some x => bindS tg x (turnS m (forLive tg m n0 f (i + 1))) env' S'
          | none => .stk) := qi
        split at qi
        · rename_i xs hxs
          split at qi
          · rename_i hnone
            exact .inl (stop xs hxs (List.getElem?_eq_none_iff.mp hnone) qi)
          · rename_i d hd
            obtain ⟨p, vs, e, sq, rv⟩ := asL_some g' hxs (mk_loc ha')
            cases e
            obtain ⟨v, hv, r3⟩ := rv.get hd
            refine .inr ⟨⟨vs, v, sq, hv⟩, aft X NM T W ρ1 H1 (forLive tg m n0 f (i + 1)) De, fun σ2 H2 z => ⟨f, by omega, z⟩, fun u H2 hyl => ?_⟩
            obtain ⟨eH, hu⟩ := hyl
            subst eH
            have := hu vs sq
            rw [hv] at this
            cases this
            exact bind_read ht r3 er' g' qi fun σ' env2 er2 q2 => ⟨ρ', env2, S', g', er2, turn_st l' q2⟩
        · exact qi.elim
    · exact q1.elim
/-- a, b = x, y -/
theorem par_sw {kt k2 : Nat} {pt pt2 : Pos} {env : Env} (hk : env.scope.kind = .function) (hl : (px.line == py.line) = true) (hx : env.scope.names.lookup x = some .local) (hy : env.scope.names.lookup y = some .local) (hn : x ≠ y) (sa : isStarE a = false) (sb : isStarE b = false)
    (h1 : ((foldedForSure 8 a) && (foldedForSure 8 b)) = false) (h2 : ((constantsAlone 8 a) && (constantsAlone 8 b)) = false) :
    swappedStores [.Tuple [.Name x px, .Name y py] kt pt] (.Tuple [a, b] k2 pt2) env = pure (some [x, y]) := by
  have ek : ∀ z, env.kindOf z = env.scope.names.lookup z := fun _ => rfl
  have hl' := beq_iff_eq.mp hl
  have hb : env.blockKind = .function := by
    unfold Env.blockKind
    rw [hk]
    rfl
  have hne : (x == y) = false := beq_eq_false_iff_ne.mpr hn
  have hne2 : (y == x) = false := beq_eq_false_iff_ne.mpr (Ne.symm hn)
  have er : [x, y].eraseDups = [x, y] := by
    simp [List.eraseDups_cons, hne, hne2, hn, Ne.symm hn]
  unfold swappedStores
  simp only [List.any_cons, List.any_nil, Bool.or_false, List.all_cons, List.all_nil, Bool.and_true, h1, h2, hb, List.filterMap_cons, List.filterMap_nil, ek, hx, hy, List.head?_cons, Option.map_some, Option.getD_some, Expr.pos, hl', beq_self_eq_true, Bool.and_self, if_true, er, List.length_cons, List.length_nil, bne_self_eq_false]
  rw [if_neg (by decide)]
  split
  · cases sa
  · split
    · cases sb
    · rfl
theorem q_par (O : XS NM T orc k q N sc X W) (hq : q ≠ 0) {kt k2 : Nat} {pt pt2 : Pos} (hi : X.N[i]? = some x) (hj : X.N[j]? = some y) (hij : i ≠ j) (hl : (px.line == py.line) = true) (hx : X.env.scope.names.lookup x = some .local) (hy : X.env.scope.names.lookup y = some .local) (hn : x ≠ y)
    (sa : isStarE a = false) (sb : isStarE b = false) (h1 : ((foldedForSure 8 a) && (foldedForSure 8 b)) = false) (h2 : ((constantsAlone 8 a) && (constantsAlone 8 b)) = false) (hk : X.env.scope.kind = .function) (ha : PE X a (tV X NM T W ma)) (hb : PE X b (tV X NM T W mb)) :
    PS X (.Assign [.Tuple [.Name x px, .Name y py] kt pt] (.Tuple [a, b] k2 pt2) pos) (tQ X NM T W (ofEv ma fun x => ofEv mb fun y env S => .nx ((env.set i (some x)).set j (some y)) S)) :=
  PS.of (ps_par (O.o.calm hq) (by rw [O.o.nm]; exact O.o.nd) hi hj hij hx hy (pa_cons ha (pa_cons hb pa_nil (star_one sb)) (star_one sa)) (par_sw hk hl hx hy hn sa sb h1 h2) (no_swap1 rfl)) fun De σ H ⟨ρ, env, S, g, er, r⟩ =>
    (goS g er r).imp fun v H1 ⟨ρ1, S1, d, l1, g1, r1, q1⟩ => (goS g1 (er.le l1) q1).imp fun w H2 ⟨ρ2, S2, d2, l2, g2, r2, q2⟩ => ⟨v, w, rfl, RunS.nx q2 g2 (EnvR.set (AR.of r2) j (EnvR.set (AR.of (Rep.le l2 r1)) i ((er.le l1).le l2)))⟩
/-- name = [.. for ..] -/
theorem q_setLc {n : Nat} (S : SE NM T orc k n) (O : XS NM T orc k q N sc X W) {elt : Expr} {gen : Comprehension} {scope : Scope} {lp : Pos} (hi : ix N x = some i) (hx : X.env.scope.names.lookup x = some .local) (hl : (px.line == lp.line) = true) (hk : X.env.scope.kind = .function)
    (hs : (scope.names.any fun (m, k) => m == x && (k == .local || k == .cell)) = false) : PS X (.Assign [.Name x px] (.ListComp elt [gen] scope lp) pos) (tQ X NM T W (ofEv (evC orc (cE T q N (n + 1) sc (.ListComp elt [gen] scope lp))) fun z => bindS (.nm i) z fun env S => .nx env S)) := by
  have stuck : PS X (.Assign [.Name x px] (.ListComp elt [gen] scope lp) pos) (tQ X NM T W (ofEv (evC orc .stk) fun z => bindS (.nm i) z fun env S => .nx env S)) := q_stk fun _ _ => rfl
  have nd : X.N.Nodup := by rw [O.o.nm]; exact O.o.nd
  cases gen with
  | mk tg iter ifs as =>
  unfold cE
  split
  all_goals first
    | exact stuck
    | (rename_i hh; cases hh; done)
    | skip
  rename_i elt2 y2 p2 iter2 ifs2 scope2 p3 heq
  injection heq with e1 e2 e3 e4
  injection e2 with e5 _
  injection e5 with e6 e7 e8 e9
  subst e1 e3 e4 e6 e7 e8 e9
  split
  · rename_i own i2 hq ho hi2
    have hq : q ≠ 0 := by simpa using hq
    split
    · rename_i hk2 hl2 hs2
      dsimp only
      have core : ∀ (t : Option C) (mt : En → Ev Bool), evT orc t = mt → (decide ((cW T q N n sc iter).1 = .enr) || !(decide (i2 ∈ own.map (·.2))) || !(L2.blkC N sc scope own)) = false →
          (∀ (s : Shared) (H : Hp) (C : Addr) (cl : List (Str × Addr)) (fp : List Addr), PTs (X.blk s H scope (compEnvC scope cl C X.env) fp) ifs (tT X NM T WF mt)) →
          PS X (.Assign [.Name x px] (.ListComp elt [⟨.Name y2 p2, iter, ifs, 0⟩] scope lp) pos) (tQ X NM T W (ofEv (evC orc (.lc (cE T 1 N n (relB scope sc) elt) (own.map (·.2)) i2 (cW T q N n sc iter).1 (cW T q N n sc iter).2 t)) fun z => bindS (.nm i) z fun env S => .nx env S)) := fun t mt et hc ht => by
        simp only [Bool.or_eq_false_iff, Bool.not_eq_false', decide_eq_false_iff_not, decide_eq_true_eq] at hc
        rw [ev_lc, et]
        refine PS.of (ps_setLc (O.o.calm hq) nd (by rw [O.o.nm]; exact ix_get hi) hx (sw_true hk hx hl hs) (S.w (.Name y2 p2) iter O.o hq (fun z => absurd z hc.1.1)) (own := own) (te := tV X NM T WF (evC orc (cE T 1 N n (relB scope sc) elt))) ?_ (lc_pg O.o (by rw [O.o.nm]; exact ix_get hi2) (loc_b hl2)) ht (fun s H C cl fp => (S.e elt (O.o.blk hq s H scope C cl fp)).pe) (set_free hs2)) fun De σ H h => ?_
        · rw [O.o.nm, O.o.sc]
          exact blkOk_by hc.2
        · exact lc_read hc.1.2 (asg_read tg_nm De σ H h)
      split
      · rename_i hc
        exact core none _ (by funext env; simp only [evT]) hc fun s H C cl fp => ⟨fun pins s σ H Q I ⟨ρ, env, S', g, er, r⟩ => pts_nil.run pins s σ H Q I (Run.ret (b := true) r g rfl)⟩
      · rename_i t hc
        exact core (some _) _ (by funext env; simp only [evT]) hc fun s H C cl fp => pts_one (S.e t (O.o.blk hq s H scope C cl fp)).pt
      · exact stuck
    · exact stuck
  · exact stuck
end
end QV
set_option maxRecDepth 100000
set_option maxHeartbeats 4000000
/-! Q17: try, except x as n: the caught exception is known from then on. -/
namespace QV
open PySem PySem.Spec PyProof.Rows L2
section
variable {X : Cx} {pins : List (Addr × Obj)} {σ : L2.St} {H : Hp} {s : Shared}
/-- into the suite, the exception at a known -/
theorem suite_in (I : Inv X pins σ H s) {a : Addr} {oe : Obj} {vs : Array Value} (ha : s.heap.get? a = some oe) (hd : oe.data = .fields vs) (na : H a = none) (nL : a ≠ X.env.locals) (n0 : X.s_0.heap.get? a = none) (np : ∀ p ∈ X.pn ++ pins, p.1 ≠ a) :
    Inv (X.suite a (X.pn ++ pins)) [] σ (upd H a (.frz oe (.own 0))) s := by
  have keep : ∀ {b u}, H b = some u → upd H a (.frz oe (.own 0)) b = some u := fun {b u} e => by rw [upd_ne (ne_of_none e na)]; exact e
  refine ⟨I.ok.suite _ _, I.os, I.bare, ⟨I.base.keep, I.base.slot, fun b o e hn hx => ?_, I.base.there, fun b xs e => keep (I.base.tups b xs e), fun b o u e => keep (I.base.frzs b o u e), fun b ps e => ?_⟩, I.loc, I.cell, ?_, fun y c e => ?_, fun p hp => ?_, fun b u e => ?_, I.len⟩
  · rw [upd_ne (fun z => by rw [z, n0] at e; cases e)]
    exact I.base.free b o e hn hx
  · obtain ⟨more, z⟩ := I.base.tbls b ps e
    exact ⟨more, keep z⟩
  · rw [upd_ne (Ne.symm nL)]
    exact I.free
  · obtain ⟨v, o, ho, hv⟩ := I.cell y c e
    rw [upd_ne (fun z => by rw [z, ha] at ho; cases ho; rw [hd] at hv; cases hv)]
    exact I.freeC y c e
  · rw [List.append_nil] at hp
    obtain ⟨e1, e2, e3, e4, e5⟩ := I.pin p hp
    exact ⟨e1, by rw [upd_ne (np p hp)]; exact e2, e3, e4, e5⟩
  · by_cases hb : b = a
    · subst hb
      rw [upd_same] at e
      cases e
      exact ⟨ha, oe, ha⟩
    · rw [upd_ne hb] at e
      exact objOk_more (I.hok b u e) (fun d z => keep z) (fun d xs z => keep z)
theorem suite_out {a : Addr} {pn' : List (Addr × Obj)} (I : Inv (X.suite a (X.pn ++ pins)) pn' σ H s) (ok : X.Ok) : Inv X pins σ H s :=
  ⟨ok, I.os, I.bare, I.base, I.loc, I.cell, I.free, I.freeC, fun p hp => I.pin p (List.mem_append_left _ hp), I.hok, I.len⟩
end
/-- what the clause wishes of an exception of the body: it takes it -/
def wKeep (K : PySem.W.Frag) (c : Value) (i : Nat) (ts : TS) (D : Ends) : WX := fun cls d σ H => PySem.W.exmOne K cls c = some true ∧
  ∀ a oe, H a = none → Zc cls d oe → (∃ us, oe.data = .fields us) → ts { nx := fun σ' H' => D.nx (σ'.set i none) H', rt := D.rt, bk := fun σ' H' => D.bk (σ'.set i none) H', ct := fun σ' H' => D.ct (σ'.set i none) H' } (σ.set i (some (.ref a))) (upd H a (.frz oe (.own 0)))
section
variable {X : Cx} {x n : Str} {c : Value} {i : Nat} {body suite : List Stmt} {b1 : Stmt} {np pos pos' : Pos} {tb : WX → TS} {ts : TS}
theorem try_keep (hs : X.stack = X.env :: X.outer) (hf : X.env.frame = some X.env.locals) (hex : X.ex = []) (hN : X.N.Nodup) (hi : X.N[i]? = some n) (hln : X.env.kindOf n = some .local) (hc : Names X x c)
    (hb : ∀ (W : WX) (pn : List (Addr × Obj)) (xe : Value → Shared → Prop), Takes (X.tr pn xe) W → PassesOwn (model X.prog X.w) X.A X.env xe → PSs (X.tr pn xe) body (tb W))
    (hsu : ∀ (a : Addr) (pn : List (Addr × Obj)), PSs (X.suite a pn) (b1 :: suite) ts) :
    PS X (.Try body [.ExceptHandler (some (.Name x np)) (some n) (b1 :: suite) pos'] [] [] pos) (fun D σ H => tb (wKeep X.K c i ts D) D σ H) := by
  refine ⟨fun pins s σ H D I h => ?_⟩
  have ok := I.ok
  have frames : X.A.frames = some (X.env :: X.outer) := by rw [ok.frames, hs]
  refine wpAny_Try_except (wpAny_mono ((hb (wKeep X.K c i ts D) (X.pn ++ pins) (fun u s1 => wpAny (model X.prog X.w) X.A (noteFrame u X.env) (fun _ s2 => wpAny (model X.prog X.w) X.A (setFlight u none) (fun _ s3 =>
    wpAny (model X.prog X.w) X.A (handleBy u X.env [.ExceptHandler (some (.Name x np)) (some n) (b1 :: suite) pos']) (SP X pins D) X.xe s3) X.xe s2) X.xe s1) (fun u s' air => ?_) PassesOwn.looking).run [] s σ H D (I.toTry _) h) (fun f s1 hsp => ?_) (fun u s1 z => z))
  · obtain ⟨a, B, sI, pins', σ1, H1, cls, d, rfl, J0, nb, up, sky, na, os, ag, q1, yes⟩ := air
    have J : Inv X pins σ1 H1 sI := J0.ofTry ok
    have sky1 : Sky B (X.env :: X.outer) a (Zc cls d) X.env.locals s'.heap := by rw [← hs]; exact sky
    show wpAny (model X.prog X.w) X.A (noteFrame (.ref a) X.env) _ _ _
    refine Sky.land Zc.steady frames hf sky1 fun h3 fly up3 => ?_
    have J3 : Inv X pins σ1 H1 { s' with heap := h3 } := J.landed nb fly.1 (up.trans up3) os ag
    obtain ⟨oe3, vs3, at3, z3, d3⟩ := fly.there
    have outF : a ∉ frs (X.env :: X.outer) := fun hm => by
      obtain ⟨_, o1, e1, nf1⟩ := fly.2.2.1.mem hm
      rw [at3] at e1
      cases e1
      exact nf1 _ d3
    have nL : a ≠ X.env.locals := fun z => outF (List.mem_filterMap.mpr ⟨X.env, List.mem_cons_self, by rw [hf, z]⟩)
    have nF : a ∉ X.fs := fun hm => by
      obtain ⟨e1, m1, q⟩ := List.mem_filterMap.mp hm
      exact outF (List.mem_filterMap.mpr ⟨e1, List.mem_cons_of_mem _ m1, q⟩)
    have notI : sI.heap.get? a = none := by
      rcases h9 : sI.heap.get? a with _ | o9
      · rfl
      · have := nb a o9 h9 (by rw [hs]; exact outF)
        rw [fly.2.1] at this
        cases this
    have not0 : X.s_0.heap.get? a = none := by
      rcases h9 : X.s_0.heap.get? a with _ | o9
      · rfl
      · obtain ⟨o8, h8⟩ := J.base.there a o9 h9 (by rw [hex]; simp)
        rw [notI] at h8
        cases h8
    have notP : ∀ p ∈ X.pn ++ pins, p.1 ≠ a := fun p hp z => by
      have := (J.pin p hp).1
      rw [z, notI] at this
      cases this
    have S3 := J3.suite at3 d3 na nL nF
    refine wpAny_handleBy_cons (codeAny_handlers_test ?_) (by intro q; cases q)
    have LT : PySem.W.Looks (model X.prog X.w) h3 (typeOf (.ref a)) cls := fun A Q E s k q => wpAny_typeOf_ref (k _ _ at3) (by rw [z3.1]; exact q)
    have LM := PySem.W.exm_one (M := model X.prog X.w) (J3.kIn) LT q1
    have name : ∀ {Q : Value → Shared → Prop} {E : Value → Shared → Prop}, Q c { s' with heap := h3 } → wpAny (model X.prog X.w) (X.A.mark (some (.ref a))) (eval (.Name x np) X.env) Q E { s' with heap := h3 } := fun {Q E} q => by
      obtain ⟨hg, dbg, hm | ⟨hm, hv, nn⟩⟩ := hc
      · exact ld_glob (X := X.suite a ((a, oe3) :: (X.pn ++ pins))) S3 hg hm q dbg
      · exact ld_blt (X := X.suite a ((a, oe3) :: (X.pn ++ pins))) S3 hg hm hv q nn dbg
    refine name (LM.here ?_)
    refine codeAny_handlers_suite_as (HandSPX.lands_againZ fly fun h4 fly4 up4 => ?_)
    have J4 : Inv X pins σ1 H1 { s' with heap := h4 } := J.landed nb fly4.1 ((up.trans up3).trans up4) os ag
    obtain ⟨oe4, vs4, at4, z4, d4⟩ := fly4.there
    have S4 := suite_in J4 at4 d4 na nL not0 notP
    refine store_ok (X := X.suite a (X.pn ++ pins)) (v := .ref a) S4 hN hi (.inl hln) rfl (fun s5 S5 => ?_) (.inr hln)
    refine wpAny_mono ((hsu a (X.pn ++ pins)).run [] s5 _ _ _ S5 (yes a oe4 na z4 ⟨_, d4⟩)) (fun f s6 hsp => ?_) (fun _ _ z => z.elim)
    have fin : ∀ {σ6 : L2.St} {H6 : Hp} {Q : Shared → Prop}, Inv (X.suite a (X.pn ++ pins)) [] σ6 H6 s6 → (∀ s7, Inv X pins (σ6.set i none) H6 s7 → Q s7) →
        wpAny (model X.prog X.w) X.A (do bindName X.env n .none; unbindBehindTheSuite X.env n pos') (fun _ s7 => Q s7) X.xe s6 := fun {σ6 H6 Q} S6 hq => gone_ok (suite_out S6 ok) hN hi hln hq
    cases f with
    | ret u =>
      obtain ⟨v6, σ6, H6, S6, r6, q6⟩ := hsp
      exact fin S6 fun s7 J7 => ⟨_, _, _, J7, r6, q6⟩
    | next =>
      obtain ⟨σ6, H6, S6, q6⟩ := hsp
      exact fin S6 fun s7 J7 => ⟨_, _, J7, q6⟩
    | cont =>
      obtain ⟨σ6, H6, S6, q6⟩ := hsp
      exact fin S6 fun s7 J7 => ⟨_, _, J7, q6⟩
    | brk =>
      obtain ⟨σ6, H6, S6, q6⟩ := hsp
      exact fin S6 fun s7 J7 => ⟨_, _, J7, q6⟩
  · cases f with
    | ret u =>
      obtain ⟨v6, σ6, H6, J6, r6, q6⟩ := hsp
      exact ⟨v6, σ6, H6, J6.ofTry ok, r6, q6⟩
    | next =>
      obtain ⟨σ6, H6, J6, q6⟩ := hsp
      exact wpAny_execs_nil ⟨σ6, H6, J6.ofTry ok, q6⟩
    | cont =>
      obtain ⟨σ6, H6, J6, q6⟩ := hsp
      exact ⟨σ6, H6, J6.ofTry ok, q6⟩
    | brk =>
      obtain ⟨σ6, H6, J6, q6⟩ := hsp
      exact ⟨σ6, H6, J6.ofTry ok, q6⟩
end
section
variable {X : Cx} {NM : Nms} {T : CT} {W : WX} {orc : Orc} {k q : Nat} {N : List Str} {sc : Scope} {x n : Str} {i j : Nat} {body suite : List Stmt} {b1 : Stmt} {np pos pos' : Pos} {mb ms : Sv} {TB : Tb}
/-- try, by trees -/
def tryD (TB : Tb) (j i : Nat) (mb ms : Sv) : Sv := fun env S => match mb env S with
  | .ex (.exc e fs) env' S' => (match excIs TB e j with
    | true => (match ms (env'.set i (some (.exc e fs))) S' with
      | .nx env2 S2 => .nx (env2.set i none) S2
      | .bk env2 S2 => .bk (env2.set i none) S2
      | .ct env2 S2 => .ct (env2.set i none) S2
      | .rt d S2 => .rt d S2
      | _ => .stk)
    | false => .stk)
  | .ex _ _ _ => .stk
  | r => r
theorem q_try (O : XS NM T orc k q N sc X W) (hq : q ≠ 0) (exm : ∀ e, e < NM.excs.length → excIs TB e j = true → PySem.W.exmOne X.K (.ref (clA X.K NM e)) (.ref (clA X.K NM j)) = some true)
    (hi : X.N[i]? = some n) (hn : X.env.scope.names.lookup n = some .local) (hg : Gl X x) (hd : (x == ("__debug__" : Str)) = false) (hx : X.mg x = some (.ref (clA X.K NM j)))
    (hb : ∀ (W : WX) (pn : List (Addr × Obj)) (xe : Value → Shared → Prop), Takes (X.tr pn xe) W → PassesOwn (model X.prog X.w) X.A X.env xe → PSs (X.tr pn xe) body (tQ X NM T W mb))
    (hsu : ∀ (a : Addr) (pn : List (Addr × Obj)), PSs (X.suite a pn) (b1 :: suite) (tQ X NM T WF ms)) :
    PS X (.Try body [.ExceptHandler (some (.Name x np)) (some n) (b1 :: suite) pos'] [] [] pos) (tQ X NM T W (tryD TB j i mb ms)) := by
  obtain ⟨s1, s2, s3⟩ := O.stk hq
  refine PS.of (try_keep (tb := fun W => tQ X NM T W mb) (ts := tQ X NM T WF ms) s1 s2 s3 (by rw [O.o.nm]; exact O.o.nd) hi hn ⟨hg, hd, .inl hx⟩ hb hsu) fun De σ H ⟨ρ, env, S, g, er, r⟩ => ⟨ρ, env, S, g, er, ?_⟩
  unfold tryD at r
  cases e : mb env S with
  | stk => rw [e] at r; exact r
  | nx env S => rw [e] at r; exact r
  | rt d S => rw [e] at r; exact r
  | bk env S => rw [e] at r; exact r
  | ct env S => rw [e] at r; exact r
  | ex e1 env1 S1 =>
    rw [e] at r
    cases e1 <;> first | exact r.elim | skip
    rename_i c fs
    intro ρ' H' σ' cls dd l g' er' xr
    obtain ⟨hlt, rfl, hdd⟩ := xr
    dsimp only at r
    cases hc : excIs TB c j with
    | false => rw [hc] at r; exact r.elim
    | true =>
      rw [hc] at r
      refine ⟨exm c hlt hc, fun a oe na z ⟨us, hus⟩ => ?_⟩
      have l2 : Le ρ' H' ρ' (upd H' a (.frz oe (.own 0))) := Le.heap (HExt.new na)
      have rp : Rep X.K NM ρ' (upd H' a (.frz oe (.own 0))) (.exc c fs) (.ref a) := by
        simp only [Rep]
        refine ⟨hlt, a, oe, us, rfl, upd_same, z.1, hus, ?_⟩
        rcases hdd with ⟨h1, h2⟩ | ⟨d, gs, h1, h2, h3⟩
        · exact .inl ⟨h1, by rw [z.2]; exact h2⟩
        · exact .inr ⟨d, gs, by rw [z.2]; exact h1, by rw [upd_ne (ne_of_none h2 na)]; exact h2, RepF.le l2 h3⟩
      refine ⟨ρ', env1.set i (some (.exc c fs)), S1, g'.beside na, EnvR.set (AR.of rp) i (er'.le l2), ?_⟩
      dsimp only at r
      cases em : ms (env1.set i (some (.exc c fs))) S1 with
      | stk => rw [em] at r; exact r
      | ex _ _ _ => rw [em] at r; exact r.elim
      | rt d S => rw [em] at r; exact fun ρ2 H2 v l3 => r ρ2 H2 v ((l.trans l2).trans l3)
      | nx env2 S2 => rw [em] at r; exact fun ρ2 H2 σ2 l3 g3 er3 => r ρ2 H2 _ ((l.trans l2).trans l3) g3 (EnvR.unset i er3)
      | bk env2 S2 => rw [em] at r; exact fun ρ2 H2 σ2 l3 g3 er3 => r ρ2 H2 _ ((l.trans l2).trans l3) g3 (EnvR.unset i er3)
      | ct env2 S2 => rw [em] at r; exact fun ρ2 H2 σ2 l3 g3 er3 => r ρ2 H2 _ ((l.trans l2).trans l3) g3 (EnvR.unset i er3)
end
end QV
set_option maxRecDepth 100000
set_option maxHeartbeats 8000000
/-! Q18: every statement of the small language is read rightly. -/
namespace QV
open PySem PySem.Spec PyProof.Rows L2
/-- raise C(..) -/
def RaiF (NM : Nms) (T : CT) (TB : Tb) (orc : Orc) (k : Nat) : Prop := ∀ {q : Nat} {N : List Str} {sc : Scope} {X : Cx} {W : WX}, XS NM T orc k q N sc X W → q ≠ 0 → ∀ (x : Str) (es : List Expr) (j : Nat) (p pos rp : Pos) (ml : En → Ev (List D)), okName x = true → glB sc x = true → ix T.excs x = some j → es.any isStarE = false →
  PA X es (tL X NM T W ml) → PS X (.Raise (some (.Call (.Name x p) es [] pos)) none rp) (tQ X NM T W (ofEv ml fun xs => match excOf TB j xs with
    | some e => fun env S => .ex e env S
    | none => fun _ _ => .stk))
structure SF (NM : Nms) (T : CT) (TB : Tb) (orc : Orc) (k : Nat) : Prop where
  rai : RaiF NM T TB orc k
  exm : ∀ (P : Program) (K : PySem.W.Frag) (mg : Str → Option Value), NM.mor P K mg → Fx NM T K mg → ∀ e j, e < NM.excs.length → j < NM.excs.length → excIs TB e j = true → PySem.W.exmOne K (.ref (clA K NM e)) (.ref (clA K NM j)) = some true
section
variable {X : Cx} {NM : Nms} {T : CT} {W : WX} {orc : Orc} {k q F : Nat} {N : List Str} {sc : Scope} {TB : Tb}
theorem XS.tr (O : XS NM T orc k q N sc X W) {W' : WX} {pn : List (Addr × Obj)} {xe : Value → Shared → Prop} (tk : Takes (X.tr pn xe) W') (po : PassesOwn (model X.prog X.w) X.A X.env xe) : XS NM T orc k q N sc (X.tr pn xe) W' where
  o := { fx := O.o.fx, mor := O.o.mor, call := O.o.call, nm := O.o.nm, nd := O.o.nd, sc := O.o.sc, un := O.o.un, calm := O.o.calm, room := O.o.room, gd := O.o.gd, tk := tk, lam := fun h => ⟨(O.o.lam h).cel, (O.o.lam h).tab⟩ }
  fn := O.fn
  kd := O.kd
  own := fun _ => po
  stk := O.stk
theorem XS.suite (O : XS NM T orc k q N sc X W) (a : Addr) (pn : List (Addr × Obj)) : XS NM T orc k 0 N sc (X.suite a pn) WF where
  o := { fx := O.o.fx, mor := O.o.mor, call := O.o.call, nm := O.o.nm, nd := O.o.nd, sc := O.o.sc, un := O.o.un, calm := fun h => absurd rfl h, room := fun h => absurd rfl h, gd := fun h => absurd rfl h, tk := fun u s' ⟨_, _, _, _, _, _, _, _, _, _, _, _, _, _, _, _, f⟩ => f.elim, lam := fun h => by cases h }
  fn := O.fn
  kd := O.kd
  own := fun h => absurd rfl h
  stk := fun h => absurd rfl h
structure SS (NM : Nms) (T : CT) (TB : Tb) (orc : Orc) (k F n : Nat) : Prop where
  s : ∀ {q N sc X W} (st : Stmt), XS NM T orc k q N sc X W → PS X st (tQ X NM T W (evS TB orc F (cS T q N n sc st)))
  ss : ∀ {q N sc X W} (sts : List Stmt), XS NM T orc k q N sc X W → PSs X sts (tQ X NM T W (evSs TB orc F (cSs T q N n sc sts)))
theorem pss_stk {sts : List Stmt} {f : Sv} (h : ∀ env S, f env S = .stk) : PSs X sts (tQ X NM T W f) := ⟨fun pins s σ H D I ⟨ρ, env, S, g, er, r⟩ => by
  rw [h] at r
  exact r.elim⟩
theorem ss_zero : SS NM T TB orc k F 0 where
  s := fun st O => q_stk fun env S => by
    simp only [cS, evS]
  ss := fun sts O => pss_stk fun env S => by
    simp only [cSs, evSs, evS, seqS]
theorem ss_ss {n : Nat} (S : SS NM T TB orc k F n) (O : XS NM T orc k q N sc X W) (sts : List Stmt) : PSs X sts (tQ X NM T W (evSs TB orc F (cSs T q N (n + 1) sc sts))) := by
  cases sts with
  | nil =>
    have e : evSs TB orc F (cSs T q N (n + 1) sc []) = fun env S => .nx env S := by
      simp only [cSs, evSs]
    rw [e]
    exact qs_nil
  | cons st sts =>
    have e : evSs TB orc F (cSs T q N (n + 1) sc (st :: sts)) = seqS (evS TB orc F (cS T q N n sc st)) (evSs TB orc F (cSs T q N n sc sts)) := by
      simp only [cSs, evSs]
    rw [e]
    exact qs_cons (S.s st O) (S.ss sts O)
theorem op_as {o : Op} {op : Operator} (h : opOf op = some o) : (o = .add → op = .Add) ∧ (o = .sub → op = .Sub) := by
  cases op <;> simp only [opOf] at h <;> first | (cases h; done) | (cases h; simp)
theorem ev_asg (t : Tg) (e : C) : evS TB orc F (.asg t e) = ofEv (evC orc e) fun x => bindS t x fun env S => .nx env S := by simp only [evS]
theorem for_name {n : Nat} (S : SS NM T TB orc k F n) (O : XS NM T orc k q N sc X W) (hq : q ≠ 0) {tgE iter : Expr} {tg : Tg} {gt : TG} {body : List Stmt} {pos : Pos} (hs : isSetE iter = false) (hg : PG X tgE gt) (ht : tTg X NM T tg gt) (hk : (cW T q N n sc iter).1 = .enr → isTupE tgE = true) :
    PS X (.For tgE iter body [] pos) (tQ X NM T W (evS TB orc F (.fors tg (cW T q N n sc iter).1 (cW T q N n sc iter).2 (cSs T q N n sc body)))) := by
  have e : evS TB orc F (.fors tg (cW T q N n sc iter).1 (cW T q N n sc iter).2 (cSs T q N n sc body)) = ofEv (fun env => Ev.bind (evC orc (cW T q N n sc iter).2 env) (itW (cW T q N n sc iter).1)) fun J => forRun tg (evSs TB orc F (cSs T q N n sc body)) J := by
    simp only [evS]
  rw [e]
  exact q_for O hq ((se_all n).w tgE iter O.o hq hk) hg ht hs (S.ss body O)
theorem ss_s {n : Nat} (F0 : SF NM T TB orc k) (S : SS NM T TB orc k F n) (O : XS NM T orc k q N sc X W) (st : Stmt) : PS X st (tQ X NM T W (evS TB orc F (cS T q N (n + 1) sc st))) := by
  have E := se_all (NM := NM) (T := T) (orc := orc) (k := k) n
  have stuck : PS X st (tQ X NM T W (evS TB orc F .stk)) := q_stk fun env S => by simp only [evS]
  have loc : ∀ {x : Str}, locB sc x = true → L2.Loc X.env.scope x := fun {x} h => by rw [O.o.sc]; exact loc_b h
  have slot : ∀ {x : Str} {i : Nat}, ix N x = some i → X.N[i]? = some x := fun {x i} h => by rw [O.o.nm]; exact ix_get h
  unfold cS
  split
  · have e : evS TB orc F .pas = fun env S => .nx env S := by simp only [evS]
    rw [e]
    exact q_doc
  · rename_i e _ _
    split
    · exact stuck
    · rename_i hc
      rw [Bool.not_eq_true] at hc
      have e2 : evS TB orc F (.ex (cE T q N n sc e)) = ofEv (evC orc (cE T q N n sc e)) fun _ env S => .nx env S := by simp only [evS]
      rw [e2]
      exact q_ex (E.e e O.o).pe hc
  · rename_i x px e p
    split
    · rename_i i hl hi
      split
      · rename_i hc
        rw [ev_asg]
        exact q_set O (slot hi) (loc hl) (E.e e O.o).pe hc
      · split
        · rename_i elt gen s2 lp hx hc
          split
          · rename_i hh
            simp only [Bool.and_eq_true, Bool.not_eq_true'] at hh
            rw [ev_asg]
            cases n with
            | zero => exact q_stk fun env S => by simp only [cE, evC]; rfl
            | succ n => exact q_setLc (se_all n) O hi (by rw [O.o.sc]; exact of_decide_eq_true hx) hh.1 (by rw [O.o.sc]; exact O.kd) hh.2
          · exact stuck
        · exact stuck
    · exact stuck
  · rename_i x px y py _ _ a b _ _ p
    split
    · rename_i i j hc hi hj
      simp only [Bool.and_eq_true, Bool.not_eq_true', decide_eq_true_eq, decide_eq_false_iff_not, bne_iff_ne, ne_eq] at hc
      obtain ⟨⟨⟨⟨⟨⟨⟨⟨h1, h2⟩, h3⟩, h4⟩, h5⟩, h6⟩, h7⟩, h8⟩, h9⟩ := hc
      split
      · exact stuck
      · rename_i hij
        have e2 : evS TB orc F (.par i j (cE T q N n sc a) (cE T q N n sc b)) = ofEv (evC orc (cE T q N n sc a)) fun x => ofEv (evC orc (cE T q N n sc b)) fun y env S => .nx ((env.set i (some x)).set j (some y)) S := by simp only [evS]
        rw [e2]
        exact q_par O h1 (slot hi) (slot hj) (fun z => hij (by rw [z]; exact beq_self_eq_true j)) h2 (by rw [O.o.sc]; exact h3) (by rw [O.o.sc]; exact h4) h5 h6 h7 h8 h9 (by rw [O.o.sc]; exact O.kd) (E.e a O.o).pe (E.e b O.o).pe
    · exact stuck
  · exact stuck
  · rename_i ts _ _ e p _ hnt
    split
    · rename_i is hc hs
      simp only [Bool.and_eq_true, Bool.not_eq_true', bne_iff_ne, ne_eq] at hc
      rw [ev_asg]
      exact q_tup O hc.1 hs (E.e e O.o).pe hc.2 (by cases e <;> first | rfl | exact absurd rfl (hnt _ _ _))
    · exact stuck
  · rename_i o i _ e p
    split
    · exact stuck
    · rename_i hc
      rw [Bool.not_eq_true, Bool.or_eq_false_iff] at hc
      have e2 : evS TB orc F (.setI (cE T q N n sc o) (cE T q N n sc i) (cE T q N n sc e)) = ofEv (evC orc (cE T q N n sc e)) fun v => ofEv (evC orc (cE T q N n sc o)) fun x => ofEv (evC orc (cE T q N n sc i)) fun y => ofEv (fun _ => setD x y v) fun _ env S => .nx env S := by simp only [evS]
      rw [e2]
      exact q_setI O (E.e e O.o).pe (E.e o O.o).pe (E.e i O.o).pe hc.1 hc.2
  · rename_i x px op e p
    split
    · rename_i i o hl hi ho
      have e2 : ∀ o, evS TB orc F (.aug i o (cE T q N n sc e)) = ofEv (fun env => match env[i]? with
          | some (some (.clo _ _)) => Ev.stuck
          | some (some d) => Ev.ret d
          | _ => Ev.stuck) fun x => ofEv (evC orc (cE T q N n sc e)) fun y => ofEv (fun _ => opD o x y) fun z env S => .nx (env.set i (some z)) S := fun o => by
        have e3 : evC orc (.var i) = fun env => match env[i]? with
          | some (some (.clo _ _)) => Ev.stuck
          | some (some d) => Ev.ret d
          | _ => Ev.stuck := by
          funext env
          simp only [evC]
          first | done | rfl
        simp only [evS, e3]
      split
      · rw [e2]
        exact q_aug O (.inl ⟨(op_as ho).1 rfl, rfl⟩) (slot hi) (loc hl) (E.e e O.o).pe
      · rw [e2]
        exact q_aug O (.inr ⟨(op_as ho).2 rfl, rfl⟩) (slot hi) (loc hl) (E.e e O.o).pe
      · exact stuck
    · exact stuck
  · have e : evS TB orc F .retN = fun _ S => .rt .non S := by simp only [evS]
    rw [e]
    exact q_retN
  · rename_i e _
    have e2 : evS TB orc F (.ret (cE T q N n sc e)) = ofEv (evC orc (cE T q N n sc e)) fun x _ S => .rt x S := by simp only [evS]
    rw [e2]
    exact q_ret (E.e e O.o).pe
  · rename_i t a b _
    have e2 : evS TB orc F (.ifs (cE T q N n sc t) (cSs T q N n sc a) (cSs T q N n sc b)) = ofEv (fun env => Ev.bind (evC orc (cE T q N n sc t) env) (asBl)) fun k => match k with
      | true => evSs TB orc F (cSs T q N n sc a)
      | false => evSs TB orc F (cSs T q N n sc b) := by
      simp only [evS, evT]
      first | done | rfl
    rw [e2]
    exact q_if (E.e t O.o).pt (S.ss a O) (S.ss b O)
  · rename_i t body _
    split
    · rename_i hq
      have hq : q ≠ 0 := by simpa using hq
      have e2 : evS TB orc F (.whl (cE T q N n sc t) (cSs T q N n sc body)) = whlRun (fun env => Ev.bind (evC orc (cE T q N n sc t) env) (asBl)) (evSs TB orc F (cSs T q N n sc body)) F := by
        simp only [evS, evT]
      rw [e2]
      exact q_whl O hq (E.e t O.o).pt (S.ss body O)
    · exact stuck
  · rename_i tg iter body _
    split
    · rename_i hq
      simp only [Bool.and_eq_true, Bool.not_eq_true', bne_iff_ne, ne_eq] at hq
      split
      · rename_i x px
        split
        · rename_i i hl hi
          dsimp only
          split
          · exact stuck
          · rename_i hk
            exact for_name S O hq.1 hq.2 (pg_name (by rw [O.o.nm]; exact O.o.nd) (slot hi) (loc hl) (.inl (O.fn x))) tg_nm (fun z => absurd z hk)
        · exact stuck
      · rename_i ts _ px
        split
        · rename_i is hs
          dsimp only
          split
          · exact stuck
          · exact for_name S O hq.1 hq.2 (pg_tp O hq.1 hs) (tg_tp rfl) (fun _ => rfl)
        · exact stuck
      · exact stuck
    · exact stuck
  · have e : evS TB orc F .brk = fun env S => .bk env S := by simp only [evS]
    rw [e]
    exact q_brk
  · have e : evS TB orc F .cnt = fun env S => .ct env S := by simp only [evS]
    rw [e]
    exact q_cnt
  · have e : evS TB orc F .pas = fun env S => .nx env S := by simp only [evS]
    rw [e]
    exact q_pass
  · rename_i x px es pos rp
    split
    · rename_i j hc hj
      simp only [Bool.and_eq_true, Bool.not_eq_true', bne_iff_ne, ne_eq] at hc
      have e2 : evS TB orc F (.rai j (cEs T q N n sc es)) = ofEv (evCs orc (cEs T q N n sc es)) fun xs => match excOf TB j xs with
        | some e => fun env S => .ex e env S
        | none => fun _ _ => .stk := by
        simp only [evS]
        first | done | rfl
      rw [e2]
      exact F0.rai O hc.1.1.1 x es j px pos rp _ hc.1.1.2 hc.1.2 hj hc.2 (E.es es O.o)
    · exact stuck
  · rename_i body x px m b suite p2 pos
    split
    · rename_i j i hc hj hi
      simp only [Bool.and_eq_true, decide_eq_true_eq, bne_iff_ne, ne_eq] at hc
      have e2 : evS TB orc F (.tryA (cSs T q N n sc body) j i (cSs T 0 N n sc (b :: suite))) = tryD TB j i (evSs TB orc F (cSs T q N n sc body)) (evSs TB orc F (cSs T 0 N n sc (b :: suite))) := by
        simp only [evS]
        first | done | rfl
      rw [e2]
      refine q_try O hc.1.1.1 (fun e he hx => F0.exm X.prog X.K X.mg O.o.mor O.o.fx e j he ?_ hx) (slot hi) (by rw [O.o.sc]; exact hc.2) (O.o.gl hc.1.2) (ok_dbg hc.1.1.2) (O.o.fx.gexc _ _ hj) (fun W pn xe tk po => S.ss body (O.tr tk po)) fun a pn => S.ss (b :: suite) (O.suite a pn)
      rw [O.o.fx.len]
      exact (List.getElem?_eq_some_iff.mp (ix_get hj)).1
    · exact stuck
  · exact stuck
/-- every statement of the small language -/
theorem ss_all (F0 : SF NM T TB orc k) : ∀ n, SS NM T TB orc k F n
  | 0 => ss_zero
  | n + 1 => { s := fun st O => ss_s F0 (ss_all F0 n) O st, ss := fun sts O => ss_ss (ss_all F0 n) O sts }
end
end QV
set_option maxRecDepth 100000
set_option maxHeartbeats 8000000
/-! Q19: the calls. -/
namespace QV
open PySem PySem.Spec PyProof.Rows L2
/-- what the module says of a def -/
def DFn (NM : Nms) (T : CT) (K : PySem.W.Frag) (mg : Str → Option Value) (base : Heap) (j : Nat) (df : Nat × Nat × List Sm) : Prop :=
  ∃ (oc : Value) (od an : Option Addr) (osl : Array (Option Value)) (name qual : Str) (params : Arguments) (body : List Stmt) (scope : Scope) (dV kV doc pm cdv ct : Value) (N ps : List Str) (q n : Nat),
    K.lookup (fnA K NM j) = some ⟨oc, od, .func (PySem.W.fnOf name qual params body scope dV kV doc pm an cdv ct), osl⟩ ∧ PySem.W.codeIn K cdv qual = true ∧ FnScope N ps scope ∧ q ≠ 0 ∧ df = (ps.length, N.length, cSs T q N n scope body) ∧ T.pars[j]? = some ps ∧
    (∀ us : List Value, us.length = ps.length → bindArgs (PySem.W.fnOf name qual params body scope dV kV doc pm an cdv ct) ⟨us, []⟩ = pure (ps.zip us)) ∧
    (∀ (p : Str) (u : Value), ps = [p] → bindArgs (PySem.W.fnOf name qual params body scope dV kV doc pm an cdv ct) ⟨[], [(p, u)]⟩ = pure [(p, u)]) ∧
    (q = 2 → ∃ cc PP, cdv = .ref cc ∧ LamX.TabB base mg cc PP ∧ (PP, (qual ++ ".<locals>." : Str) ++ "<lambda>") ∈ NM.tabs ∧ ∀ p ∈ NM.tabs, p.1 = PP → p.2 = (qual ++ ".<locals>." : Str) ++ "<lambda>")
/-- the context of a lambda's body -/
def lcx (P : Program) (w : World) (K : PySem.W.Frag) (mg : Str → Option Value) (base : Heap) (N : List Str) (en : Env) (A : Around) (outer : List Env) (s : Shared) (H : Hp) (E : XK) : Cx :=
  { prog := P, w := w, K := K, mg := mg, base := base, A := A.deeper en, N := N, s_0 := s, H_0 := H, env := en, outer := outer, stack := en :: outer, ex := [], fn := fun _ => false, calm := true, pn := [],
    xe := fun e s' => wpAny (model P w) (A.deeper en) (leaving en e) (fun _ s2 => L2.CX P w outer H s E e s2) (fun e' s2 => L2.CX P w outer H s E e' s2) s' }
section
variable {P : Program} {w : World} {K : PySem.W.Frag} {mg : Str → Option Value} {base : Heap} {NM : Nms} {T : CT} {TB : Tb} {F k : Nat} {orc : Orc}
/-- a lambda's body is entered -/
theorem lam_in {A : Around} {outer : List Env} {s : Shared} {H : Hp} {E : XK} {N : List Str} {q2 : Str} {scope : Scope} {f c' : Addr} {cl : List (Str × Addr)} {C : List Addr} {σ : L2.St} {h1 : Heap} {tk : Nat} (hkind : scope.kind = .function) (own : ∀ y ∈ scope.names, y.2 ≠ .local ∧ y.2 ≠ .cell) (inj : ∀ x y c, cl.lookup x = some c → cl.lookup y = some c → x = y)
    (has : ∀ y ∈ scope.names, y.2 = .free → ∃ c, cl.lookup y.1 = some c) (cel : ∀ x c, cl.lookup x = some c → c ∈ C ∧ ∃ oc uv, H c = some (.frz oc (.own 1)) ∧ oc.data = .cell uv)
    (cap : ∀ (i : Nat) (y : Str) (u : V), N[i]? = some y → σ[i]? = some (some u) → scope.names.lookup y = some .free → ∃ c oc w, cl.lookup y = some c ∧ H c = some (.frz oc (.own 1)) ∧ oc.data = .cell (some w) ∧ RelV u w)
    (tm : Tmp C H) (hd : A.handled = none) (e0 : Env0 P w K mg base A outer s H) (hl : σ.length = N.length) (hns : h1.Ns s.heap.objs.size fun y => ([] : List (Str × Value)).reverse.lookup y) (kp : ∀ b o, s.heap.get? b = some o → h1.get? b = some o) :
    Inv (lcx P w K mg base N (PySem.W.envX q2 scope s.heap.objs.size f (.ref c') cl) A outer s (delC C H) E) [] σ (delC C H) { s with heap := h1, toks := tk } := by
  have noA : ∀ b : Addr, b ∉ ([] : List Addr) := fun b => by simp
  have dn : ∀ {b}, H b = none → delC C H b = none := fun {b} e => by
    by_cases hb : b ∈ C
    · exact delC_in hb
    · rw [delC_out hb]; exact e
  have cellAt : ∀ {c : Addr} {oc : Obj} {uv : Option Value}, H c = some (.frz oc (.own 1)) → oc.data = .cell uv → h1.IsCell c uv := fun {c oc uv} e d => ⟨oc, kp _ _ (e0.hok c _ e).1, d⟩
  have okd := hok_del e0.hok tm
  refine ⟨⟨e0.mod, hkind, rfl, rfl, Nat.le_refl _, inj, fun y hy => ?_, fun y c z _ => ?_, fun _ => hd, Around.frames_deeper e0.frames, .inr ⟨rfl, rfl⟩, fun b z => absurd z (noA b), fun b o e => ⟨(e0.bs b o e).1, dn (e0.bs b o e).2⟩, e0.bsz, fun b _ _ => noA b,
      fun b z => absurd z (noA b), e0.funs, fun b hb => dn (e0.frf b hb)⟩,
    rfl, e0.bare, Un.kept kp, ⟨_, hns, fun i y v a1 a2 a3 => ?_⟩, fun y c e => ?_, dn (e0.hok.fresh (Nat.le_refl _)), fun y c e => delC_in (cel y c e).1, fun q hq => absurd (show q ∈ ([] : List (Addr × Obj)) ++ [] from hq) (by simp), okd.kept kp, hl⟩
  · have hy : scope.names.lookup y = some .cell ∨ scope.names.lookup y = some .free := hy
    rcases hy with hy | hy
    · exact absurd rfl (own _ (PySem.mem_of_lookup hy)).2
    · exact has _ (PySem.mem_of_lookup hy) rfl
  · cases (z : false = true)
  · have a3 : Vis scope y := a3
    rcases a3 with z | z | z
    · exact absurd rfl (own _ (PySem.mem_of_lookup z)).1
    · exact absurd rfl (own _ (PySem.mem_of_lookup z)).2
    · obtain ⟨c, oc, wv, b1, b2, b3, b4⟩ := cap i y v a1 a2 z
      exact ⟨wv, b4, .inr ⟨.inr z, c, b1, cellAt b2 b3⟩⟩
  · obtain ⟨_, oc, uv, b1, b2⟩ := cel y c e
    exact ⟨uv, cellAt b1 b2⟩
theorem XO.lamb (fx : Fx NM T K mg) (mo : NM.mor P K mg) (call : CallOk NM T P w K mg base k orc) {N : List Str} (nd : N.Nodup) {en : Env} {A : Around} {outer : List Env} {s : Shared} {H : Hp} {E : XK} (hf : en.frame = some en.locals) (hr : Room (k + 2) (A.deeper en)) (hg : A.guards = some []) :
    XO NM T orc k 1 N en.scope (lcx P w K mg base N en A outer s H E) (fun cls d _ H => E cls d H) where
  fx := fx
  mor := mo
  call := call
  nm := rfl
  nd := nd
  sc := rfl
  un := by
    have := hr.un
    show (A.deeper en).units + 100 < cLine
    omega
  calm := fun _ => rfl
  room := fun _ => hr
  gd := fun _ => hg
  tk := takes_of rfl hf rfl rfl
  lam := fun z => by cases z
theorem cx_add {outer : List Env} {s s' : Shared} {H : Hp} {C : List Addr} {E : XK} {u : Value} (t : Tmp C H) (ok : HOk P w H s.heap) (nf : ∀ c ∈ C, c ∉ frs outer) (x : L2.CX P w outer (delC C H) s (fun cls dd H' => (∀ c ∈ C, H' c = none) → E cls dd (addC C H H')) u s') : L2.CX P w outer H s E u s' := by
  obtain ⟨a, B, H', cls, d, a1, a2, a3, a4, a5, a6, a7, a8⟩ := x
  have n : ∀ c ∈ C, H' c = none := fun c hc => by
    obtain ⟨o, e⟩ := t c hc
    exact a4.free c o (ok c _ e).1 (delC_in hc)
  obtain ⟨b1, b2⟩ := ub_add a4 a3 ok t nf n
  refine ⟨a, B, _, cls, d, a1, a2, b2, b1, ?_, a6, a7, a8 n⟩
  rw [addC_out]
  · exact a5
  · intro hc
    obtain ⟨o, e⟩ := t a hc
    have := a4.keep a o (ok a _ e).1 (delC_in hc) (nf a hc)
    rw [a2.2.1] at this
    cases this
theorem call_clo (fx : Fx NM T K mg) (mo : NM.mor P K mg) (IH : CallOk NM T P w K mg base k orc) {A : Around} {outer : List Env} {s : Shared} {H : Hp} {body : C} {env : En} {fv : V} {fu : Value} {ρ : List Addr} {S : Sto} {Q : VK} {E : XK} (hr : Room (k + 3) A) (hg : A.guards = some []) (e0 : Env0 P w K mg base A outer s H) (g : Gd K NM ρ S H)
    (af : AR K NM base T ρ H (.clo body env) fv) (rf : RelV fv fu) (q : Run K NM (rD1 K NM) (fun cls dd _ H => E cls dd H) ρ H ([] : L2.St) (evC orc body env S) Q) :
    codeAny (model P w) A (.call fu ⟨[], []⟩) (CR (L2.CX P w) outer P w H s Q E) s := by
  simp only [AR] at af
  obtain ⟨f, q2, scope, be, N, cl, pm, c', ctv, σ, rfl, la, er, cap⟩ := af
  obtain rfl : fu = Value.ref f := rf
  obtain ⟨of1, _⟩ := (show ObjOk P w H s.heap f (.frz _ (.own 1)) from e0.hok f _ la.obj)
  obtain ⟨⟨oc, vs, t, hoc, hdc, hvc⟩, _, _⟩ := (show ObjOk P w H s.heap c' (LamX.CodeO c' q2) from e0.hok c' _ la.code)
  obtain ⟨m, rfl⟩ := la.com
  have tm : Tmp (f :: cl.map (·.2)) H := fun c hc => by
    rcases List.mem_cons.mp hc with rfl | hc
    · exact ⟨_, la.obj⟩
    · obtain ⟨p, hy, rfl⟩ := List.mem_map.mp hc
      obtain ⟨_, _, oc, uv, z, _⟩ := la.cell p hy
      exact ⟨oc, z⟩
  have nf : ∀ c ∈ f :: cl.map (·.2), c ∉ frs outer := fun c hc hm => by
    obtain ⟨o, e⟩ := tm c hc
    rw [e0.frf c hm] at e
    cases e
  have hl : σ.length = N.length := by rw [er.length, la.len]
  have lim : s.heap.NoLimit := e0.mod.nolimit.keeps fun b o e => (e0.bs b o e).1
  refine PySem.W.kla_callFunE hr.depth of1 rfl la.co la.gen rfl ⟨c', oc, vs, t, rfl, hoc, hdc, hvc⟩ ?_
  have hb : bindArgs (PySem.W.kla_fn lamName q2 noArgs be scope cl pm (.ref c') ctv) ⟨[], []⟩ = pure [] := rfl
  rw [hb]
  refine wpAny_pure (wpAny_newFunctionEnv (fun y hy => (la.own y hy).2) (fun y hy => absurd hy (by simp)) (fun h1 hns hsb => ⟨lim.fresh _ hsb, ?_⟩) la.kind)
  show codeAny _ _ (.expr be (PySem.W.envX q2 scope s.heap.objs.size f (.ref c') cl)) _ _
  have kp : ∀ b o, s.heap.get? b = some o → h1.get? b = some o := fun b o e => hsb.extBut b o (Nat.ne_of_lt (Heap.lt_size e)) (Heap.get?_push_of_some _ e)
  have J := lam_in (tk := s.toks + ([] : List (Str × Value)).length) (q2 := q2) (f := f) (c' := c') (E := fun cls dd H' => (∀ c ∈ f :: cl.map (·.2), H' c = none) → E cls dd (addC (f :: cl.map (·.2)) H H')) la.kind la.own la.inj la.has (fun x c e => ⟨List.mem_cons_of_mem _ (List.mem_map.mpr ⟨_, PySem.mem_of_lookup e, rfl⟩), (la.cell _ (PySem.mem_of_lookup e)).2.2⟩) cap tm hr.hd e0 hl hns kp
  have O := XO.lamb (E := fun cls dd H' => (∀ c ∈ f :: cl.map (·.2), H' c = none) → E cls dd (addC (f :: cl.map (·.2)) H H')) (outer := outer) (s := s) (H := delC (f :: cl.map (·.2)) H) fx mo IH la.nd (en := PySem.W.envX q2 scope s.heap.objs.size f (.ref c') cl) (A := A) rfl (hr.deeper _) hg
  have PEb := ((se_all m).e be O).pe
  have gdel := g.del tm
  have r2 := q.un (C := f :: cl.map (·.2)) ([] : L2.St)
  have r3 : Run K NM (rD1 K NM) (fun cls dd _ H' => (∀ c ∈ f :: cl.map (·.2), H' c = none) → E cls dd (addC (f :: cl.map (·.2)) H H')) ρ (delC (f :: cl.map (·.2)) H) σ (evC orc (cE T 1 N m scope be) env S) (fun v H' => (∀ c ∈ f :: cl.map (·.2), H' c = none) → Q v (addC (f :: cl.map (·.2)) H H')) := by
    revert r2
    generalize evC orc (cE T 1 N m scope be) env S = o
    intro r2
    cases o <;> exact r2
  refine PySem.W.kla_codeExpr (wpAny_mono (PEb.run [] _ σ _ _ J ⟨ρ, env, S, gdel, er, r3⟩) (fun v s' hq => ?_) fun e s' hq => ?_)
  · obtain ⟨w', H', J', rv, qq⟩ := hq
    have nC : ∀ c ∈ f :: cl.map (·.2), H' c = none := fun c hc => by
      obtain ⟨o, e⟩ := tm c hc
      exact J'.base.free c o (e0.hok c _ e).1 (delC_in hc) (by show c ∉ ([] : List Addr); simp)
    obtain ⟨u1, u2⟩ := un_add J'.base J'.hok e0.hok tm nf nC
    exact ⟨w', _, J'.os, J'.bare, u1, u2, rv, qq nC⟩
  · exact wpAny_mono hq (fun _ s2 z => cx_add tm e0.hok nf z) fun _ s2 z => cx_add tm e0.hok nf z
/-- a def's body in its context -/
theorem XS.deff (fx : Fx NM T K mg) (mo : NM.mor P K mg) (IH : CallOk NM T P w K mg base k orc) {N ps : List Str} {qual : Str} {scope : Scope} {f : Addr} {cdv : Value} {A : Around} {outer : List Env} {s : Shared} {H : Hp} {E : XK} {q : Nat} (S : FnScope N ps scope) (hr : Room (k + 2) (A.deeper (envOfC qual scope s.heap.objs.size f cdv))) (hg : A.guards = some []) (e0 : Env0 P w K mg base A outer s H)
    (hq : q = 2 → ∃ cc PP, cdv = .ref cc ∧ LamX.TabB base mg cc PP ∧ (PP, (qual ++ ".<locals>." : Str) ++ "<lambda>") ∈ NM.tabs ∧ ∀ p ∈ NM.tabs, p.1 = PP → p.2 = (qual ++ ".<locals>." : Str) ++ "<lambda>") :
    XS NM T orc k q N scope (cxOf (L2.CX P w) P w K mg base N qual scope f cdv A outer s H E) (fun cls d _ H => E cls d H) where
  o := {
    fx := fx
    mor := mo
    call := IH
    nm := rfl
    nd := S.nd
    sc := rfl
    un := by
      have := hr.un
      show (A.deeper _).units + 100 < cLine
      omega
    calm := fun _ => rfl
    room := fun _ => hr
    gd := fun _ => hg
    tk := takes_of rfl rfl rfl rfl
    lam := fun z => by
      obtain ⟨cc, PP, h1, h2, h3, h4⟩ := hq z
      refine ⟨fun x c hc => ?_, cc, PP, h2, h1, h3, h4⟩
      have hc : (cellsFrom (s.heap.objs.size + 1) scope.names []).lookup x = some c := hc
      have ge : s.heap.objs.size + 1 ≤ c := by
        rcases cells_mem (h := s.heap.push { cls := .type "dict", data := .dict #[] }) (by rw [Heap.size_push]; exact PySem.mem_of_lookup hc) with z | ⟨_, z, _⟩
        · cases z
        · rw [Heap.size_push] at z
          exact z
      refine ⟨?_, fun hm => ?_⟩
      · show base.get? c = none
        cases hb : base.get? c with
        | none => rfl
        | some o => exact absurd (Nat.lt_of_lt_of_le (Nat.lt_succ_of_lt (Heap.lt_size (e0.bs c o hb).1)) ge) (Nat.lt_irrefl _)
      · rcases List.mem_cons.mp (show c ∈ s.heap.objs.size :: frs outer from hm) with z | z
        · rw [z] at ge
          exact absurd ge (Nat.not_succ_le_self _)
        · obtain ⟨_, o, e, _⟩ := e0.funs.mem z
          exact absurd (Nat.lt_of_lt_of_le (Nat.lt_succ_of_lt (Heap.lt_size e)) ge) (Nat.lt_irrefl _) }
  fn := fun _ => rfl
  kd := S.kind
  own := fun _ => passes_of rfl
  stk := fun _ => ⟨rfl, rfl, rfl⟩
theorem call_def (fx : Fx NM T K mg) (mo : NM.mor P K mg) (IH : CallOk NM T P w K mg base k orc) (F0 : SF NM T TB orc k) {A : Around} {outer : List Env} {s : Shared} {H : Hp} {j : Nat} {df : Nat × Nat × List Sm} {ds : List D} {vs : List V} {us : List Value} {args : Args} {ρ : List Addr} {S : Sto} {Q : VK} {E : XK}
    (hd : DFn NM T K mg base j df) (hr : Room (k + 3) A) (hg : A.guards = some []) (e0 : Env0 P w K mg base A outer s H) (g : Gd K NM ρ S H) (al : ARL K NM base T ρ H ds vs) (rl : Vals vs us) (ao : AOk T (.fn j) args us)
    (q : Run K NM (rD1 K NM) (fun cls dd _ H => E cls dd H) ρ H ([] : L2.St) (runDef TB orc F df ds S) Q) : codeAny (model P w) A (.call (.ref (fnA K NM j)) args) (CR (L2.CX P w) outer P w H s Q E) s := by
  obtain ⟨oc, od, an, osl, name, qual, params, body, scope, dV, kV, doc, pm, cdv, ct, N, ps, q', n, lk, hcd, SC, hq', rfl, hp, b1, b2, hl⟩ := hd
  have q2 : Run K NM (rD1 K NM) (fun cls dd _ H => E cls dd H) ρ H ([] : L2.St) (match decide (ds.length = ps.length) && decide (ps.length ≤ N.length) with
      | false => .stk
      | true => match evSs TB orc F (cSs T q' N n scope body) (ds.map some ++ List.replicate (N.length - ps.length) none) S with
        | .nx _ S' => .ok .non S'
        | .rt v S' => .ok v S'
        | .ex e _ S' => .ex e S'
        | _ => .stk) Q := q
  cases hc : decide (ds.length = ps.length) && decide (ps.length ≤ N.length) with
  | false => rw [hc] at q2; exact q2.elim
  | true =>
    rw [hc] at q2
    simp only [Bool.and_eq_true, decide_eq_true_eq] at hc
    have hvs : vs.length = ps.length := by rw [al.length, hc.1]
    have hus : us.length = ps.length := by rw [← rl.length, hvs]
    have hb : BindsTo s (PySem.W.fnOf name qual params body scope dV kV doc pm an cdv ct) args (ps.zip us) := by
      cases ao with
      | pos _ _ => exact .of_eq (b1 us hus)
      | kw _ p u hp2 =>
        rw [hp] at hp2
        cases hp2
        exact .of_eq (b2 p u rfl)
    refine LamX.run_ofS (k := k + 2) lk hcd SC hr e0 hb rl hvs fun hr2 => ?_
    have O := XS.deff (q := q') (E := E) (f := fnA K NM j) fx mo IH SC hr2 hg e0 hl
    refine ⟨_, (ss_all (F := F) F0 n).ss body O, ρ, ds.map some ++ List.replicate (N.length - ps.length) none, S, g, ?_, ?_⟩
    · unfold L2.start
      rw [hvs]
      exact EnvR.start _ al
    · revert q2
      generalize evSs TB orc F (cSs T q' N n scope body) (ds.map some ++ List.replicate (N.length - ps.length) none) S = o
      intro q2
      cases o with
      | stk => exact q2
      | nx env S' => exact fun ρ' H' σ' l g' _ => q2 ρ' H' .non l g' mk_non
      | rt v S' => exact fun ρ' H' b l g' r => q2 ρ' H' b l g' r
      | bk env S' => exact q2.elim
      | ct env S' => exact q2.elim
      | ex e env S' => exact fun ρ' H' σ' cls dd l g' _ x => q2 ρ' H' cls dd l g' x
/-- THE CALLS: at every depth -/
theorem calls_ok (fx : Fx NM T K mg) (mo : NM.mor P K mg) (hd : ∀ j df, TB.defs[j]? = some df → DFn NM T K mg base j df) (F0 : ∀ d, SF NM T TB (callN TB F d) (3 * d)) : ∀ d, CallOk NM T P w K mg base (3 * d) (callN TB F d)
  | 0 => fun A outer s H f ds fv vs fu us args ρ S Q E hr hg e0 g af rf al rl ao q => q.elim
  | d + 1 => fun A outer s H f ds fv vs fu us args ρ S Q E hr hg e0 g af rf al rl ao q => by
    have IH := calls_ok fx mo hd F0 d
    have hr : Room (3 * d + 3) A := hr
    cases f <;> first | exact q.elim | skip
    · rename_i j
      have q2 : Run K NM (rD1 K NM) (fun cls dd _ H => E cls dd H) ρ H ([] : L2.St) ((match TB.defs[j]? with
        | some df => runDef TB (callN TB F d) F df ds
        | none => Ev.stuck) S) Q := q
      cases hj : TB.defs[j]? with
      | none => rw [hj] at q2; exact q2.elim
      | some df =>
        rw [hj] at q2
        simp only [AR, Rep] at af
        subst af
        obtain rfl : fu = Value.ref (fnA K NM j) := rf
        exact call_def fx mo IH (F0 d) (hd j df hj) hr hg e0 g al rl ao q2
    · rename_i body env
      cases ds with
      | cons _ _ => exact q.elim
      | nil =>
        have hv : vs = [] := al
        subst hv
        cases rl
        cases ao
        exact call_clo fx mo IH hr hg e0 g af rf q
end
end QV
set_option maxRecDepth 100000
set_option maxHeartbeats 8000000
/-! Q20: an own exception whose __init__ says super().__init__(text) and self.line = line. -/
namespace QV
open PySem PySem.Spec PyProof.Rows L2 PySem.Calls
section
open PySem.W
variable {prog : Program} {w : World} {A : Around} {Ex : Value → Shared → Prop} {h : Heap} {g : Array GenState} {d : Drawn} {t : Nat} {os : OsState} {K : Frag}
/-- the bound __init__ of the built-in class, called -/
theorem call_mw {B i newId : String} {bmB : List Value} (FB : ExcBaseFacts B newId i bmB) {u e t0 C : Addr} {rest : List Value} {Q : Value → Shared → Prop} (kin : K.In h) (q : excInitIn K C bmB newId = true) (he : h.get? e = some (HandSPX.excO C t0)) (hu : h.get? u = some (kxs_mw i e)) (hz : rest.length ≤ sizeLine)
    (fin : ∀ h' t1, (∀ b o, b ≠ e → h.get? b = some o → h'.get? b = some o) → h'.get? e = some (HandSPX.excO C t1) → Q .none ⟨h', g, d, t, os⟩) : wpAny (model prog w) A (PySem.call (.ref u) rest) Q Ex ⟨h, g, d, t, os⟩ := by
  obtain ⟨nm, N', qn, bs, bm, hdct, sn, sub, ab, col, dd, k0, k1, k2, k3, k5, hC, hT⟩ := excInit_of kin q
  have m1 : (Value.type "method-wrapper" == Value.type "method" || Value.type "method-wrapper" == Value.type "builtin_function_or_method" || Value.type "method-wrapper" == Value.type "method-wrapper") = true := by decide
  refine wpAny_call (codeAny_of_tree ?_)
  show wpAny _ A.in1 (callAny (.ref u) ⟨rest, []⟩) _ _ _
  simp only [callAny]
  refine wpAny_bind (wpAny_load hu ?_)
  simp only [kxs_mw, m1, if_true]
  refine KFB.if_so (by decide) (wpAny_bind (check_bound_init FB.toExcCallFacts hC he rfl (wpAny_bind (wpAny_pure (wpAny_pure ⟨plainId_quiet FB.init.plain _, codeAny_builtin FB.initEntry ?_⟩)))))
  exact exc_init_tree (cls := .ref C) (t0 := t0) (dv := none) (c2 := .none) (c3 := .none) (b4 := .bool false) he hz fun h' k e' _ => fin h' _ k e'
end
/-- the text of such a class's __init__, in the module -/
structure Ini (prog : Program) (K : PySem.W.Frag) (mg : Str → Option Value) (C fI : Addr) (fl : Str) (fd : FuncData) : Prop where
  ox : OexC K C
  it : PySem.W.excInitIn K C HandSPX.veTail "ValueError.__new__" = true
  iC : PySem.W.findIn K (.ref C) "__init__" = some (some (.ref fI))
  tI : PySem.W.typeIn K (.ref fI) = some (.type "function")
  no : PySem.W.findIn K (.ref C) fl = some none
  sub : PySem.W.subIn K (.ref C) (.type "ValueError") = some true
  opq : PySem.W.nsIn K cStatics "thirdparty.any" = some none
  sup : PySem.W.ks_superIn K C C "__init__" = some (some (.builtin "ValueError.__init__"))
  mro : PySem.W.mroIn K C (.ref C) = some true
  gs : mg "super" = none
  fn : ∃ (oc : Value) (od an : Option Addr) (osl : Array (Option Value)) (name qual : Str) (params : Arguments) (body : List Stmt) (scope : Scope) (dV kV doc pm ct : Value) (cda cc : Addr) (p0 p1 p2 p3 p4 p5 p6 p7 p8 p9 : Pos),
    K.lookup fI = some ⟨oc, od, .func fd, osl⟩ ∧ fd = PySem.W.ksFn name qual params body scope dV kV doc pm an (.ref cda) ct cc ∧ PySem.W.codeIn K (.ref cda) qual = true ∧
    body = [.Expr (.Call (.Attribute (.Call (.Name "super" p0) [] [] p1) "__init__" p2) [.Name "text" p3] [] p4) p5, .Assign [.Attribute (.Name "self" p6) fl p7] (.Name "line" p8) p9] ∧ (∀ env : Env, ∃ pl : Sem Bool, eval (.Call (.Attribute (.Call (.Name "super" p0) [] [] p1) "__init__" p2) [.Name "text" p3] [] p4) env = (do
      let ov ← attributeBase (.Call (.Name "super" p0) [] [] p1) "__init__" env (eval (.Call (.Name "super" p0) [] [] p1) env)
      standAt p2.atName
      let (f, first) ← holding [ov] (getMethod ov "__init__" pl)
      callWith p4 f first (backTo p4 (starEach [.Name "text" p3] env)) [])) ∧
    (∃ ar, (params.posonlyargs ++ params.args).head? = some ar ∧ ar.arg = "self") ∧
    (∃ (ccl : Value) (cdd : Option Addr) (vs : Array Value) (ccs : Array (Option Value)) (file : Str) (tf : Tok), K.lookup cda = some ⟨ccl, cdd, .fields vs, ccs⟩ ∧ vs[2]? = some (.str file tf) ∧ ((prog.main.file : Str) == file) = true) ∧
    (∃ (cl : Value) (cld : Option Addr) (csl : Array (Option Value)), K.lookup cc = some ⟨cl, cld, .cell (some (.ref C)), csl⟩) ∧
    (prog.main.scope.names.lookup ("super" : Str)).isSome = false ∧ scope.kind = .function ∧ scope.isCoroutine = false ∧ scope.isGenerator = false ∧ (∀ x ∈ scope.names, x.2 ≠ .cell) ∧
    scope.names.lookup ("super" : Str) = some .globalImplicit ∧ scope.names.lookup ("__class__" : Str) = some .free ∧ scope.names.lookup ("self" : Str) = some .local ∧ scope.names.lookup ("text" : Str) = some .local ∧ scope.names.lookup ("line" : Str) = some .local
/-- what it promises: the field stands in a new dict -/
def spI (K : PySem.W.Frag) (C : Addr) (fl : Str) : Sp := fun vs H Q E => ∃ (a : Addr) (vt vl : V), vs = [.ref a, vt, vl] ∧ H a = some (exo a C none) ∧ ∀ dx, H dx = none → dx ≠ a → Q .non (upd (upd H dx (exd dx [(fl, vl)])) a (exo a C (some dx)))
theorem ini_ok {P : Program} {w : World} {K : PySem.W.Frag} {mg : Str → Option Value} {base : Heap} {C fI : Addr} {fl : Str} {fd : FuncData} {k : Nat} (J : Ini P K mg C fI fl fd) : FnOk P w K mg base (L2.CX P w) k fI fd ["self", "text", "line"] (spI K C fl) := by
  refine ⟨fun vs H Q E ⟨a, vt, vl, e, _⟩ => by rw [e]; rfl, fun A outer s H args us vs Q E hr e0 hb r hsp => ?_⟩
  obtain ⟨oc, od, an, osl, name, qual, params, body, scope, dV, kV, doc, pm, ct, cda, cc, p0, p1, p2, p3, p4, p5, p6, p7, p8, p9, lk, rfl, hcd, rfl, hline, ⟨ar, har, hself⟩, ⟨ccl, cdd, vs2, ccs, file, tf, lcode, hv2, hfile⟩, ⟨cl, cld, csl, lcell⟩, htop, hk, hco, hgen, hcell, ks, kc, kself, ktext, kline⟩ := J.fn
  obtain ⟨a, vt, vl, rfl, ea, hQ⟩ := hsp
  obtain ⟨ua, r⟩ : ∃ ua, ∃ r' : List Value, us = ua :: r' ∧ RelV (.ref a) ua ∧ Vals [vt, vl] r' := by cases r with | cons h1 h2 => exact ⟨_, _, rfl, h1, h2⟩
  obtain ⟨r', rfl, rfl, r2⟩ := r
  obtain ⟨ut, ul, rfl, rt, rl⟩ := vals2 r2
  have kin : K.In s.heap := e0.mod.kin.keeps fun b o e => (e0.bs b o e).1
  have lim : s.heap.NoLimit := e0.mod.nolimit.keeps fun b o e => (e0.bs b o e).1
  have na : base.get? a = none := by
    cases hb2 : base.get? a with
    | none => rfl
    | some o =>
      have := (e0.bs a o hb2).2
      rw [ea] at this
      cases this
  obtain ⟨t0, oa⟩ := exo_at e0.hok ea
  obtain ⟨hh, gg, dd, tt, oo⟩ := s
  refine ks_codeAny_call_defAt hr.depth (kin _ _ lk) rfl lim (PySem.W.codeRec_of kin hcd) rfl hb hcell (fun x hx => ?_) (fun h1 hns kp => ?_) hco hgen hk
  · have hx := (List.of_mem_zip hx).1
    simp only [List.mem_cons, List.not_mem_nil, or_false] at hx
    rcases hx with e | e | e <;> rw [e] <;> assumption
  · have lself : ((["self", "text", "line"] : List Str).zip [Value.ref a, ut, ul]).reverse.lookup ("self" : Str) = some (Value.ref a) := rfl
    have ltext : ((["self", "text", "line"] : List Str).zip [Value.ref a, ut, ul]).reverse.lookup ("text" : Str) = some ut := rfl
    have lline : ((["self", "text", "line"] : List Str).zip [Value.ref a, ut, ul]).reverse.lookup ("line" : Str) = some ul := rfl
    have kb1 : ∀ b o, base.get? b = some o → h1.get? b = some o := fun b o e => kp b o (e0.bs b o e).1
    have kin1 : K.In h1 := e0.mod.kin.keeps kb1
    have oa1 := kp _ _ oa
    have nL : a ≠ hh.objs.size := Nat.ne_of_lt (Heap.lt_size oa)
    obtain ⟨mb, nsb, hbb⟩ := e0.mod.blt
    obtain ⟨nm, qn, N, bs, bm, sn, sub, ab, col, dct, k0, k1, k2, k3, k5, hC, hbm⟩ := J.ox.cls
    have hcl : PySem.W.clsIn K C = some { name := nm, bases := bs, mro := .ref C :: bm, ns := N, qualname := qn, hasDict := true, slotNames := sn, subclasses := sub, abstract := ab, collection := col, hasDel := false } := by
      unfold PySem.W.clsIn
      rw [hC]
    have sup := J.sup
    unfold PySem.W.ks_superIn at sup
    rw [hcl, Option.bind_some] at sup
    let env := PySem.W.ksEnv qual scope hh.objs.size fI (.ref cda) cc
    show _root_.PySem.wpAt (model P w) (A.deeper env) (.func _ env) (execs _ env) _ _ _
    have inst1 : PySem.W.InstAt h1 a (HandSPX.excO C t0) C none := ⟨oa1, rfl, rfl, trivial⟩
    obtain ⟨pl, hcall⟩ := hline env
    have quiet : interactive env = false := by
      unfold interactive
      rw [show env.scope.kind = .function from hk]
      rfl
    refine ks_wpAt_execs_cons (ks_wpAt_Expr_any (hi := quiet) (ks_wpAt_MethodCall (pl := pl) (he := hcall) (ks_wpAt_super_base ks kc (by decide) rfl (kin1 _ _ lk) rfl har rfl (kin1 _ _ lcode) rfl hv2 hfile htop ?_)))
    refine PySem.W.ks_loadName_global hk ks (PySem.Calls.loadGlobal_builtin (env := env) (e0.mod.glob.keeps kb1) J.gs (nsb.keeps kb1) ((hbb _ (by decide)).trans (by rfl : bootBuiltins "super" = some (.type "super"))) ⟨rfl, ?_⟩)
    refine wpAny_loadName_free hk kc rfl ⟨_, kin1 _ _ lcell, rfl⟩ ?_
    rw [hself]
    refine wpAny_loadName_local hk kself hns lself ?_
    refine ks_wpAny_isType_cls (kin1 _ _ hC) rfl ⟨rfl, ?_⟩
    refine ks_wpAny_call_super (kin1 _ _ hC) rfl oa1 rfl (fun c e => by cases e) (PySem.W.looks_mroIn kin1 J.mro) (fun h2 so k2 => ?_)
    have kb2 : ∀ b o, base.get? b = some o → h2.get? b = some o := fun b o e => k2 b o (kb1 b o e)
    have kin2 : K.In h2 := e0.mod.kin.keeps kb2
    have inst2 : PySem.W.InstAt h2 a (HandSPX.excO C t0) C none := ⟨k2 _ _ oa1, rfl, rfl, trivial⟩
    have aC : a ≠ C := fun z => by
      have := kin1 _ _ hC
      rw [← z, oa1] at this
      cases this
    refine PySem.W.kxs_getMethod PySem.W.kxs_ValueError so (PySem.W.looks_opaque kin2 J.opq) (l₀ := .ref C :: bm) (fun A Q E s k q => wpAny_bind ((PySem.W.looks_clsIn kin2 hcl) A _ E s k (wpAny_pure q))) rfl kin2 sup (inst2.type.andThen (PySem.W.looks_subIn kin2 J.sub)) aC (by decide) ?_
    have k3 : ∀ b o, h2.get? b = some o → (h2.push (PySem.W.kxs_mw "ValueError.__init__" a)).get? b = some o := fun b o e => Heap.get?_push_of_some _ e
    have atu : (h2.push (PySem.W.kxs_mw "ValueError.__init__" a)).get? h2.objs.size = some (PySem.W.kxs_mw "ValueError.__init__" a) := Heap.get?_push_size _ rfl
    have ns3 : (h2.push (PySem.W.kxs_mw "ValueError.__init__" a)).Ns env.locals (fun x => ((["self", "text", "line"] : List Str).zip [Value.ref a, ut, ul]).reverse.lookup x) := by
      obtain ⟨oL, es, ep, hL, rr⟩ := hns
      exact ⟨oL, es, ep, k3 _ _ (k2 _ _ hL), rr⟩
    refine PySem.W.kxs_callWith (i := "ValueError.__init__") (x := a) rfl (PySem.Calls.evalArgs_plain (PySem.Calls.spliced_cons (ESX.ldL ns3 ltext (PySem.Calls.spliced_nil ⟨atu, ?_⟩) hk ktext)))
    have aS : a ≠ h2.objs.size := Nat.ne_of_lt (Heap.lt_size (k2 _ _ oa1))
    have kin3 := kin2.keeps k3
    refine call_mw F.excBase_ValueError kin3 J.it (k3 _ _ (k2 _ _ oa1)) atu (by show 1 ≤ _; rw [sizeLine_eq]; omega) (fun h4 t1 k4 oa4 => ?_)
    have kb4 : ∀ b o, base.get? b = some o → h4.get? b = some o := fun b o e => k4 b o (fun z => by rw [z, na] at e; cases e) (k3 _ _ (kb2 _ _ e))
    have kin4 : K.In h4 := e0.mod.kin.keeps kb4
    have ns4 : h4.Ns env.locals (fun x => ((["self", "text", "line"] : List Str).zip [Value.ref a, ut, ul]).reverse.lookup x) := by
      obtain ⟨oL, es, ep, hL, rr⟩ := ns3
      exact ⟨oL, es, ep, k4 _ _ (fun z => nL z.symm) hL, rr⟩
    refine ks_wpAt_execs_cons (ks_wpAt_Assign_Attr (PySem.wpAt_of_wpAny (ESX.ldL ns4 lline (ESX.ldL ns4 lself ?_ hk kself) hk kline)))
    refine PySem.W.set_plain kin4 (ox := HandSPX.excO C t1) (od := none) ⟨oa4, rfl, rfl, trivial⟩ J.ox.sa ?_
    refine PySem.HandSPX.exc_osa kin4 oa4 hcl (show PySem.HandSPX.refsVE (.ref C :: bm) = true from hbm) rfl J.no (fun h5 tk5 dx k5 dn dne hx hn => ?_)
    refine (PySem.wpAt_of_wpAny (wpAny_execs_nil ?_))
    show CE outer P w H ⟨hh, gg, dd, tt, oo⟩ Q _ _
    have nd : ∀ {b : Addr} {o : Obj}, h4.get? b = some o → b ≠ dx := fun {b o} q => Nat.ne_of_lt (Nat.lt_of_lt_of_le (Heap.lt_size q) dn)
    have k14 : ∀ b o, b ≠ a → hh.get? b = some o → h4.get? b = some o := fun b o n e => k4 b o n (k3 _ _ (k2 _ _ (kp _ _ e)))
    have k15 : ∀ b o, b ≠ a → hh.get? b = some o → h5.get? b = some o := fun b o n e => k5 b o n (k14 b o n e)
    have ndh : ∀ {b : Addr} {o : Obj}, hh.get? b = some o → b ≠ dx := fun {b o} q z => by
      by_cases hb : b = a
      · exact dne (z ▸ hb)
      · exact nd (k14 b o hb q) z
    have hnd : H dx = none := HOk.gone e0.hok (by
      cases hd : hh.get? dx with
      | none => rfl
      | some o => exact absurd rfl (ndh hd))
    have na' : ∀ {b : Addr}, H b = none → b ≠ a := fun {b} n z => by
      rw [z, ea] at n
      cases n
    refine ⟨.non, upd (upd H dx (exd dx [(fl, vl)])) a (exo a C (some dx)), rfl, e0.bare, {
      keep := fun b o q n _ _ => k15 b o (na' n) q
      slot := fun b o q n _ _ => ⟨o.slots, k15 b o (na' n) q⟩
      free := fun b o q n _ => by rw [upd_ne (na' n), upd_ne (ndh q)]; exact n
      there := fun b o q _ => by
        by_cases hb : b = a
        · exact ⟨_, by rw [hb]; exact hx⟩
        · exact ⟨o, k15 b o hb q⟩
      tups := fun b xs q => by rw [upd_ne (at_ne ea q exo_tup), upd_ne (ne_of_none q hnd)]; exact q
      frzs := fun b o v q => by rw [upd_ne (at_ne ea q exo_frz), upd_ne (ne_of_none q hnd)]; exact q
      tbls := fun b ps q => ⟨#[], by rw [upd_ne (at_ne ea q exo_tbl), upd_ne (ne_of_none q hnd), q]; simp⟩ }, fun b o q => ?_, rfl, hQ dx hnd dne⟩
    by_cases hb : b = a
    · subst hb
      rw [upd_same] at q
      cases q
      exact exo_ok hx
    · rw [upd_ne hb] at q
      by_cases hd : b = dx
      · subst hd
        rw [upd_same] at q
        cases q
        exact exd_ok hn (relO_put (fs := []) rl fun g => True.intro)
      · rw [upd_ne hd] at q
        exact (e0.hok b o q).stay (fun c v hc z => k15 c v (by
            rcases hc with hc | hc
            · rw [hc]
              exact hb
            · exact at_ne ea hc exo_own) z)
          (fun c hc => by rw [upd_ne (at_ne ea hc exo_own), upd_ne (ne_of_none hc hnd)]; exact hc) (fun c xs hc => by rw [upd_ne (at_ne ea hc exo_tup), upd_ne (ne_of_none hc hnd)]; exact hc)
end QV
set_option maxRecDepth 100000
set_option maxHeartbeats 8000000
/-! Q21: raise C(text, v). -/
namespace QV
open PySem PySem.Spec PyProof.Rows L2
/-- what is known of the exceptions' classes -/
structure Rx (NM : Nms) (TB : Tb) (P : Program) (K : PySem.W.Frag) (mg : Str → Option Value) : Prop where
  exm : ∀ e j, e < NM.excs.length → j < NM.excs.length → excIs TB e j = true → PySem.W.exmOne K (.ref (clA K NM e)) (.ref (clA K NM j)) = some true
  keep : ∀ j, j < NM.excs.length → PySem.W.keepIn K (.ref (clA K NM j)) = true
  ini : ∀ j f, j < NM.excs.length → TB.excs[j]? = some (some f) → ∃ fI fd, Ini P K mg (clA K NM j) fI f fd ∧ Binds K fd ["self", "text", "line"] []
section
variable {X : Cx} {NM : Nms} {T : CT} {W : WX} {orc : Orc} {k q F : Nat} {N : List Str} {sc : Scope} {TB : Tb}
theorem exc_none {j : Nat} {xs : List D} (h : ∀ f, TB.excs[j]? ≠ some (some f)) : excOf TB j xs = none := by
  unfold excOf
  split
  · rename_i f _ _ e
    exact absurd e (h f)
  · rfl
theorem exc_nil {j : Nat} : excOf TB j [] = none := by
  unfold excOf
  split
  · rename_i e
    cases e
  · rfl
theorem pmk_stk {x : Str} {p pos : Pos} {e : Expr} {es : List Expr} {C : Addr} {ta : TA} (kC : PySem.W.keepIn X.K (.ref C) = true) (hg : Gl X x) (hm : X.mg x = some (.ref C)) (ha : PA X (e :: es) ta)
    (hdb : (x == ("__debug__" : Str)) = false) (he : starEach (e :: es) X.env = (false, eval e X.env) :: starEach es X.env) (hpl : (backTo pos (starEach es X.env)).any (·.1) = false) :
    PMk X (.Call (.Name x p) (e :: es) [] pos) (fun σ H _ => ta σ H fun _ _ => False) := by
  intro pins s σ H Q I h
  refine wpAny_Call_Name_kw (ld_glob I hg hm ?_ hdb)
  exact PySem.W.callWith_K (h₀ := X.base) I.ok.mod.kin kC (thn (ha.run pos pins s σ H _ I h) fun us s1 ⟨vs, H1, I1, r1, z⟩ => z.elim) he hpl
theorem pmk_nil {e : Expr} {ta : TA} (ha : PA X [] ta) : PMk X e (fun σ H _ => ta σ H fun vs _ => vs ≠ []) := by
  intro pins s σ H Q I h Γ p hΓ
  have h2 := ha.run (Pos.mk 0 0 0 0) pins s σ H _ I h Γ p hΓ
  have h3 : ∃ vs H1, Inv X pins σ H1 s ∧ Vals vs [] ∧ vs ≠ [] := h2
  obtain ⟨vs, H1, _, r, z⟩ := h3
  cases r
  exact absurd rfl z
theorem ix_lt {x : Str} {l : List Str} {i : Nat} (h : ix l x = some i) : i < l.length := (List.getElem?_eq_some_iff.mp (ix_get h)).1
theorem exc_some {j : Nat} {f : Str} {xs : List D} (h : TB.excs[j]? = some (some f)) : (∃ z v, xs = [.str z, v] ∧ excOf TB j xs = some (.exc j [(f, v)])) ∨ excOf TB j xs = none := by
  by_cases hx : ∃ z v, xs = [.str z, v]
  · obtain ⟨z, v, rfl⟩ := hx
    refine .inl ⟨z, v, rfl, ?_⟩
    unfold excOf
    rw [h]
  · refine .inr ?_
    unfold excOf
    split
    · exact absurd ⟨_, _, rfl⟩ hx
    · rfl
theorem made_eq {H1 : Hp} {fs : List (Str × V)} {a dx C : Addr} {o : HO} {u : HO} (na : H1 a = none) (n : dx ≠ a) {f : HO} : upd (del (upd (upd (upd H1 a f) dx o) a u) a) dx (.xd fs) = upd H1 dx (.xd fs) := by
  funext b
  by_cases h : b = dx
  · rw [h, upd_same, upd_same]
  · rw [upd_ne h, upd_ne h]
    by_cases h2 : b = a
    · rw [h2, del_same, na]
    · rw [del_ne h2, upd_ne h2, upd_ne h, upd_ne h2]
theorem rai_ok (hm : ∀ P K mg, NM.mor P K mg → Rx NM TB P K mg) : RaiF NM T TB orc k := by
  intro q N sc X W O hq x es j p pos rp ml h1 hg hj hst ha
  have R := hm _ _ _ O.o.mor
  have hm := O.o.fx.gexc x j hj
  have hlt : j < NM.excs.length := by
    rw [O.o.fx.len]
    exact ix_lt hj
  cases es with
  | nil =>
    refine PS.of (ps_raise (O.o.calm hq) O.o.tk (pmk_nil ha)) fun D σ H ⟨ρ, env, S, g, er, r⟩ => (goS g er r).imp fun vs H1 ⟨ρ1, S1, ds, l1, g1, r1, q1⟩ => ?_
    intro z
    subst z
    have hl := RepL.length r1
    cases ds with
    | nil =>
      rw [exc_nil] at q1
      exact q1
    | cons _ _ => cases hl
  | cons e es =>
    simp only [List.any_cons, Bool.or_eq_false_iff] at hst
    have he := star_one (env := X.env) (e := e) (es := es) hst.1
    have hpl := star_none (env := X.env) (pos := pos) hst.2
    by_cases hi : ∃ f, TB.excs[j]? = some (some f)
    · obtain ⟨f, hf⟩ := hi
      obtain ⟨fI, fd, J, hb⟩ := R.ini j f hlt hf
      have F1 := ini_ok (w := X.w) (base := X.base) (k := k + 1) J
      refine PS.of (ps_raise (O.o.calm hq) O.o.tk (pmk_oex (C := clA X.K NM j) (dvs := []) J.ox J.iC J.tI F1 (O.o.room hq) hb .nil (passes_call O.o.tk fun _ _ _ _ h => h.elim) (O.o.gl hg) hm ha (ok_dbg h1) he hpl)) fun D σ H ⟨ρ, env, S, g, er, r⟩ => ?_
      refine (goS g er r).imp fun vs H1 ⟨ρ1, S1, ds, l1, g1, r1, q1⟩ => ?_
      rcases exc_some (TB := TB) (xs := ds) hf with ⟨z, d, rfl, hx⟩ | hx
      · rw [hx] at q1
        have r1 : RepL X.K NM ρ1 H1 [.str z, d] vs := r1
        simp only [RepL, Rep] at r1
        obtain ⟨_, _, rfl, rfl, vl, _, rfl, rl, rfl⟩ := r1
        refine ⟨by simp, fun a na => ⟨a, _, vl, rfl, upd_same, fun dx nd ne => ⟨rfl, dx, [(f, vl)], upd_same, ?_, ?_, ?_⟩⟩⟩
        · rw [upd_ne ne, upd_same]
        · rw [upd_ne ne] at nd
          exact nd
        · rw [upd_ne ne] at nd
          rw [made_eq (C := a) na ne]
          have l2 : Le ρ1 H1 ρ1 (upd H1 dx (.xd [(f, vl)])) := Le.heap (HExt.new nd)
          exact q1 ρ1 _ σ _ _ l2 (g1.beside nd) ((er.le l1).le l2) ⟨hlt, rfl, .inr ⟨dx, _, rfl, upd_same, by simp only [RepF]; exact ⟨vl, [], rfl, rl.le l2, rfl⟩⟩⟩
      · rw [hx] at q1
        exact q1.elim
    · refine PS.of (ps_raise (O.o.calm hq) O.o.tk (pmk_stk (R.keep j hlt) (O.o.gl hg) hm ha (ok_dbg h1) he hpl)) fun D σ H ⟨ρ, env, S, g, er, r⟩ => (goS g er r).imp fun vs H1 ⟨ρ1, S1, ds, l1, g1, r1, q1⟩ => ?_
      rw [exc_none fun f z => hi ⟨f, z⟩] at q1
      exact q1
theorem sf_of (hm : ∀ P K mg, NM.mor P K mg → Rx NM TB P K mg) : SF NM T TB orc k := ⟨rai_ok hm, fun P K mg h _ => (hm P K mg h).exm⟩
end
end QV
set_option maxRecDepth 100000
set_option maxHeartbeats 8000000
/-! Q22: the law called by the claim's caller. -/
namespace QV
open PySem PySem.Spec PyProof.Rows L2
/-- what may be tracked at the start -/
def OddD : Data → Bool
  | .fields us => us.isEmpty
  | .seq _ _ => true
  | _ => false
section
variable (K : PySem.W.Frag) (a : Addr) (ts : List Addr) (oL : Obj) (xs : List V)
/-- the first abstract heap: the tables, the script where the written part does not hold it -/
def H0 : Hp := fun b => if ts.contains b then some (.tbl #[]) else if b == a && (K.lookup a).isNone then some (.frz oL (.lst xs)) else none
end
section
variable {K : PySem.W.Frag} {a : Addr} {ts : List Addr} {oL : Obj} {xs : List V} {h : Heap}
theorem H0_tab {b : Addr} (hb : b ∈ ts) : H0 K a ts oL xs b = some (.tbl #[]) := if_pos (by simpa using hb)
theorem H0_cases (b : Addr) : (b ∈ ts ∧ H0 K a ts oL xs b = some (.tbl #[])) ∨ (b ∉ ts ∧ b = a ∧ K.lookup a = none ∧ H0 K a ts oL xs b = some (.frz oL (.lst xs))) ∨ (b ∉ ts ∧ H0 K a ts oL xs b = none) := by
  by_cases hb : b ∈ ts
  · exact .inl ⟨hb, H0_tab hb⟩
  · by_cases h2 : b = a
    · cases h3 : K.lookup a with
      | none => exact .inr (.inl ⟨hb, h2, rfl, by simp [H0, hb, h2, h3, show a ∉ ts from h2 ▸ hb]⟩)
      | some o => exact .inr (.inr ⟨hb, by simp [H0, h2, h3, show a ∉ ts from h2 ▸ hb]⟩)
    · exact .inr (.inr ⟨hb, by simp [H0, hb, h2]⟩)
variable {P : Program} {w : World} {mg mb : Str → Option Value} {NM : Nms} {T : CT} {orc : Orc} {k j : Nat} {cs : List (Addr × Addr)} {s : Shared} {us : List Value} {ns : List Int}
/-- the script and the tables stand as the first abstract heap says -/
theorem H0_ok (hT : ∀ p ∈ cs, h.get? p.2 = some { cls := .none, data := .fields #[] }) (ha : h.get? a = some { cls := .type "list", data := .seq us.toArray }) (rv : Vals xs us) (hl : xs.length ≤ sizeLine) : HOk P w (H0 K a (cs.map (·.2)) { cls := .type "list", data := .seq us.toArray } xs) h := by
  intro b u z
  rcases H0_cases (K := K) (a := a) (ts := cs.map (·.2)) (oL := { cls := .type "list", data := .seq us.toArray }) (xs := xs) b with ⟨m, e⟩ | ⟨_, eb, _, e⟩ | ⟨_, e⟩
  · rw [e] at z
    cases z
    obtain ⟨p, hp, ep⟩ := List.mem_map.mp m
    exact ep ▸ hT p hp
  · rw [e] at z
    cases z
    subst eb
    exact ⟨ha, hl, us, _, rv, ha⟩
  · rw [e] at z
    cases z
theorem H0_ro (KX : K.In h) (ha : h.get? a = some { cls := .type "list", data := .seq us.toArray }) (aT : a ∉ ts) (rv : Vals xs us) (hl : xs.length ≤ sizeLine) : SqRo K (H0 K a ts { cls := .type "list", data := .seq us.toArray } xs) a xs := by
  cases hk : K.lookup a with
  | none =>
    rcases H0_cases (K := K) (a := a) (ts := ts) (oL := { cls := .type "list", data := .seq us.toArray }) (xs := xs) a with ⟨m, _⟩ | ⟨_, _, _, e⟩ | ⟨_, e⟩
    · exact absurd m aT
    · exact .inl ⟨_, e⟩
    · simp [H0, hk, aT] at e
  | some o =>
    have e := KX a o hk
    rw [ha] at e
    cases e
    exact .inr ⟨_, us.toArray, _, hk, rfl, rfl, rfl, by rw [List.size_toArray, ← rv.length]; exact hl, by simpa using rv⟩
/-- what is tracked at the start is odd, and no part of the written module -/
theorem H0_free (hT : ∀ p ∈ cs, h.get? p.2 = some { cls := .none, data := .fields #[] }) (ha : h.get? a = some { cls := .type "list", data := .seq us.toArray }) {b : Addr} {o : Obj} (e : h.get? b = some o) (hd : OddD o.data = false) : H0 K a (cs.map (·.2)) oL xs b = none := by
  rcases H0_cases (K := K) (a := a) (ts := cs.map (·.2)) (oL := oL) (xs := xs) b with ⟨m, _⟩ | ⟨_, eb, _, _⟩ | ⟨_, e2⟩
  · obtain ⟨p, hp, ep⟩ := List.mem_map.mp m
    have q := hT p hp
    rw [ep, e] at q
    cases q
    cases hd
  · rw [eb, ha] at e
    cases e
    cases hd
  · exact e2
theorem H0_mod (nT : ∀ p ∈ cs, K.lookup p.2 = none) {b : Addr} {o : Obj} (e : K.lookup b = some o) : H0 K a (cs.map (·.2)) oL xs b = none := by
  rcases H0_cases (K := K) (a := a) (ts := cs.map (·.2)) (oL := oL) (xs := xs) b with ⟨m, _⟩ | ⟨_, eb, ek, _⟩ | ⟨_, e2⟩
  · obtain ⟨p, hp, ep⟩ := List.mem_map.mp m
    have q := nT p hp
    rw [ep, e] at q
    cases q
  · rw [eb, ek] at e
    cases e
  · exact e2
theorem H0_tabs {l : List (Addr × Str)} (hl : ∀ p ∈ l, p.1 ∈ ts) : LamX.Tabs l (H0 K a ts oL xs) := fun p hp => ⟨#[], H0_tab (hl p hp), by trivial, fun pos cv z => by cases z⟩
theorem H0_gd (hr : SqRo K (H0 K a ts oL xs) a xs) {ds : List D} (r : RepL K NM [a] (H0 K a ts oL xs) ds xs) (hl : ∀ p ∈ NM.tabs, p.1 ∈ ts) : Gd K NM [a] [.ro ds] (H0 K a ts oL xs) where
  len := rfl
  inj := fun n m c c' b h1 h2 m1 m2 _ _ => by
    cases n with
    | zero => cases h1; cases m1
    | succ n => cases h1
  cell := fun n c b h1 h2 => by
    cases n with
    | zero =>
      cases h1
      cases h2
      exact ⟨xs, hr, r⟩
    | succ n => cases h1
  tabs := H0_tabs hl
/-- the module below the first abstract heap -/
theorem H0_ns {b : Addr} {m : Str → Option Value} (hT : ∀ p ∈ cs, h.get? p.2 = some { cls := .none, data := .fields #[] }) (ha : h.get? a = some { cls := .type "list", data := .seq us.toArray }) (n : h.Ns b m) : (hidT h (H0 K a (cs.map (·.2)) oL xs)).Ns b m := by
  obtain ⟨o, es, ep, e, d, r⟩ := n
  exact ⟨o, es, ep, hidT_get e (H0_free hT ha e (by rw [d]; rfl)), d, r⟩
theorem H0_in (KX : K.In h) (nT : ∀ p ∈ cs, K.lookup p.2 = none) : K.In (hidT h (H0 K a (cs.map (·.2)) oL xs)) := fun b o e => hidT_get (KX b o e) (H0_mod nT e)
theorem ints_rep {ρ : List Addr} {H : Hp} : ∀ {l : List Int}, RepL K NM ρ H (l.map D.int) (l.map V.int)
  | [] => by simp only [List.map_nil, RepL]
  | i :: l => by
    simp only [List.map_cons, RepL]
    exact ⟨_, _, rfl, mk_int i, ints_rep⟩
/-- the module's facts below the first abstract heap -/
theorem H0_tabB (hns : h.Ns mainGlobals mg) (hT : ∀ p ∈ cs, h.get? p.2 = some { cls := .none, data := .fields #[] }) (ha : h.get? a = some { cls := .type "list", data := .seq us.toArray }) (C : ∀ p ∈ cs, PySem.W.CodeHd h p.1 p.2)
    (hbm : ∃ (bm : Addr) (ob : Obj), mg "__builtins__" = some (.ref bm) ∧ bm ≠ builtinsNs ∧ h.get? bm = some ob ∧ ob.cls = .type "module" ∧ ob.dict = some builtinsNs ∧ ob.data = .plain) :
    ∀ p ∈ cs, LamX.TabB (hidT h (H0 K a (cs.map (·.2)) oL xs)) mg p.1 p.2 := by
  intro p hp
  have tp := hT p hp
  refine ⟨?_, ?_, fun z => ?_⟩
  · obtain ⟨o, vs, file, tf, flags, tg, inF, text, tt, e, r1, r2, r3, r⟩ := C p hp
    refine ⟨o, vs, file, tf, flags, tg, inF, text, tt, hidT_get e (H0_free hT ha e ?_), r1, r2, r3, r⟩
    rw [r2]
    cases hv : vs.isEmpty with
    | false => exact hv
    | true =>
      have z : vs = #[] := by simpa using hv
      rw [z] at r3
      simp at r3
  · obtain ⟨bm, ob, e1, e2, e3, e4, e5, e6⟩ := hbm
    refine ⟨bm, ob, e1, e2, fun q => ?_, fun q => ?_, hidT_get e3 (H0_free hT ha e3 (by rw [e6]; rfl)), e4, e5, e6⟩
    · obtain ⟨o, es, ep, e, d, _⟩ := hns
      rw [q, e] at e3
      cases e3
      rw [d] at e6
      cases e6
    · rw [q, tp] at e3
      cases e3
      cases e6
  · obtain ⟨o, es, ep, e, d, _⟩ := hns
    rw [z, tp] at e
    cases e
    cases d
/-- the law's def, called with the script -/
theorem law_go {f : Addr} (KX : K.In s.heap) (hns : s.heap.Ns mainGlobals mg) (hb : s.heap.Ns builtinsNs mb) (hbb : ∀ x : Str, x ≠ "__name__" → mb x = bootBuiltins x) (hlim : s.heap.NoLimit) (hg : s.gens = #[])
    (hT : ∀ p ∈ cs, s.heap.get? p.2 = some { cls := .none, data := .fields #[] }) (nT : ∀ p ∈ cs, K.lookup p.2 = none) (C : ∀ p ∈ cs, PySem.W.CodeHd s.heap p.1 p.2)
    (hbm : ∃ (bm : Addr) (ob : Obj), mg "__builtins__" = some (.ref bm) ∧ bm ≠ builtinsNs ∧ s.heap.get? bm = some ob ∧ ob.cls = .type "module" ∧ ob.dict = some builtinsNs ∧ ob.data = .plain)
    (ha : s.heap.get? a = some { cls := .type "list", data := .seq us.toArray }) (hi : IntsAre us ns) (hl : ns.length ≤ sizeLine) (hr : Room k callerA)
    (F : ∀ base : Heap, K.In base → base.Ns mainGlobals mg → (∀ p ∈ cs, LamX.TabB base mg p.1 p.2) → CallOk NM T P w K mg base k orc) (tl : ∀ p ∈ NM.tabs, p.1 ∈ cs.map (·.2)) (hf : f = fnA K NM j)
    (run : ∃ S', orc (.fn j) [.loc 0] [.ro (ns.map D.int)] = .ok (.bl true) S') :
    codeAny (model P w) callerA (.call (.ref f) ⟨[.ref a], []⟩) (fun r s' => r = .ok (.ret (.bool true)) ∧ OldK s.heap s'.heap ∧ s'.os = s.os ∧ AllBare s'.gens) s := by
  subst hf
  have rv := vals_ints hi
  have hl2 : (ns.map V.int).length ≤ sizeLine := by rw [List.length_map]; exact hl
  have aT : a ∉ cs.map (·.2) := fun z => by
    obtain ⟨p, hp, ep⟩ := List.mem_map.mp z
    have q := hT p hp
    rw [ep, ha] at q
    cases q
  obtain ⟨S', run⟩ := run
  obtain ⟨H, hH⟩ : ∃ H, H0 K a (cs.map (·.2)) { cls := .type "list", data := .seq us.toArray } (ns.map V.int) = H := ⟨_, rfl⟩
  have ok : HOk P w H s.heap := by
    subst hH
    exact H0_ok hT ha rv hl2
  have ro : SqRo K H a (ns.map V.int) := by
    subst hH
    exact H0_ro KX ha aT rv hl2
  have g : Gd K NM [a] [.ro (ns.map D.int)] H := by
    subst hH
    exact H0_gd ro ints_rep tl
  have nsK : ∀ {b : Addr} {m : Str → Option Value}, s.heap.Ns b m → (hidT s.heap H).Ns b m := fun n => by
    subst hH
    exact H0_ns hT ha n
  have kin : K.In (hidT s.heap H) := by
    subst hH
    exact H0_in KX nT
  have tb : ∀ p ∈ cs, LamX.TabB (hidT s.heap H) mg p.1 p.2 := by
    subst hH
    exact H0_tabB hns hT ha C hbm
  have e0 : Env0 P w K mg (hidT s.heap H) callerA [] s H := ⟨rfl, ⟨kin, nsK hns, ⟨mb, nsK hb, hbb⟩, let ⟨mc, h1, h2⟩ := hlim; ⟨mc, nsK h1, h2⟩⟩, fun b o e => of_hidT e, Nat.le_of_eq (hidT_size _ _), trivial, fun b hb => absurd hb (by simp [frs]), ok, .of_eq hg⟩
  have args : RepL K NM [a] H [.loc 0] [.ref a] := by
    simp only [RepL, Rep]
    exact ⟨_, _, rfl, ⟨a, rfl, rfl⟩, rfl⟩
  refine codeAny_mono (F _ kin (nsK hns) tb callerA [] s H (.fn j) [.loc 0] (.ref (fnA K NM j)) [.ref a] (.ref (fnA K NM j)) [.ref a] ⟨[.ref a], []⟩ [a] [.ro (ns.map D.int)] (fun v _ => v = .bl true) (fun _ _ _ => False) hr rfl e0 g ar_fn rfl (ARL.of args) (.cons rfl .nil) (.pos _ _) ?_) fun r s' q => ?_
  · rw [run]
    exact fun ρ' H' v _ _ r => by
      have r : Rep K NM ρ' H' (.bl true) v := r
      simpa only [Rep] using r
  · cases r with
    | error e =>
      obtain ⟨_, _, _, _, _, _, _, _, _, _, _, _, z⟩ := q
      exact z.elim
    | ok fl =>
      cases fl with
      | next => exact False.elim q
      | brk => exact False.elim q
      | cont => exact False.elim q
      | ret u =>
        obtain ⟨v, H', os, bare, un, ok', r', q⟩ := q
        have q : v = .bl true := q
        subst q
        obtain rfl : u = Value.bool true := r'
        refine ⟨rfl, ⟨fun b o e => ?_, fun b o e => ?_⟩, os, bare⟩
        · rcases H0_cases (K := K) (a := a) (ts := cs.map (·.2)) (oL := { cls := .type "list", data := .seq us.toArray }) (xs := ns.map V.int) b with ⟨m, e2⟩ | ⟨_, eb, _, e2⟩ | ⟨_, e2⟩
          · rw [hH] at e2
            obtain ⟨p, hp, ep⟩ := List.mem_map.mp m
            obtain ⟨more, z⟩ := un.tbls b #[] e2
            have z2 : s'.heap.get? b = some { cls := .none, data := .fields (#[] ++ more) } := ok' b _ z
            have tp := hT p hp
            rw [← ep] at e z2 ⊢
            rw [tp] at e
            cases e
            exact .inr (.inl ⟨((C p hp).tab tp).isCodeTable, rfl, #[], more, rfl, z2⟩)
          · rw [hH] at e2
            obtain ⟨q1, _⟩ := ok b _ e2
            obtain ⟨q2, _⟩ := ok' b _ (un.frzs b _ _ e2)
            rw [e] at q1
            cases q1
            exact .inl q2
          · rw [hH] at e2
            exact .inl (un.keep b o e e2 (by simp [frs]) (by simp))
        · exact un.there b o e (by simp)
end
end QV
set_option maxRecDepth 100000
/-! PT: the defs of the law's program in the small language, as wip/k88/Prt.lean prints them. -/
namespace QV
open PySem
/-- is_word -/
def b0 : List Sm := [
  (.ret (.an (.isi (.var 0) [.str]) (.an (.cmp .ne (.var 0) (.str ⟨#[]⟩)) (.bi .all [(.lc (.cmp .isin (.var 2) (.str ⟨#[97, 98, 99, 100, 101, 102, 103, 104, 105, 106, 107, 108, 109, 110, 111, 112, 113, 114, 115, 116, 117, 118, 119, 120, 121, 122]⟩)) [1, 2] 2 .val (.var 0) none)]))))
  ]
/-- is_figure -/
def b1 : List Sm := [
  (.ret (.an (.isi (.var 0) [.int]) (.an (.nt (.isi (.var 0) [.bool])) (.cmp .lt (.bi .abs [(.var 0)]) (.int 1000000000000)))))
  ]
/-- is_value -/
def b2 : List Sm := [
  (.asg (.nm 1) (.lst [(.var 0)]))
  , (.fors (.nm 2) .rng (.int 60) [(.asg (.nm 3) (.lst [])), (.fors (.nm 4) .val (.var 1) [(.ifs (.an (.isi (.var 4) [.tuple]) (.cmp .lt (.var 2) (.bin .sub (.int 60) (.int 1)))) [(.ex (.mth .extend (.var 3) [(.var 4)]))] [(.ifs (.an (.cmp .notN (.var 4) .non) (.an (.nt (.call 0 [(.var 4)])) (.nt (.call 1 [(.var 4)])))) [(.ret (.bl false))] [])])]), (.ifs (.cmp .eq (.var 3) (.lst [])) [(.ret (.bl true))] []), (.asg (.nm 1) (.var 3))])
  , (.ret (.bl false))
  ]
/-- value_text -/
def b3 : List Sm := [
  (.ifs (.nt (.call 2 [(.var 0)])) [(.rai 13 [(.str ⟨#[110, 111, 32, 118, 97, 108, 117, 101]⟩), (.int 0)])] [])
  , (.par 1 2 (.lst []) (.lst [(.var 0)]))
  , (.whl (.cmp .ne (.var 2) (.lst [])) [(.asg (.nm 3) (.mth .pop (.var 2) [])), (.ifs (.isi (.var 3) [.list]) [(.ex (.mth .append (.var 1) [(.idx (.var 3) (.int 0))]))] [(.ifs (.isi (.var 3) [.tuple]) [(.ex (.mth .append (.var 2) [(.lst [(.str ⟨#[41]⟩)])])), (.fors (.tp [4, 5]) .enr (.var 3) [(.ex (.mth .extend (.var 2) [(.ife (.cmp .eq (.var 4) (.bin .sub (.bi .len [(.var 3)]) (.int 1))) (.lst [(.var 5)]) (.lst [(.var 5), (.lst [(.str ⟨#[32]⟩)])]))]))]), (.ex (.mth .append (.var 2) [(.lst [(.str ⟨#[40]⟩)])]))] [(.ex (.mth .append (.var 1) [(.ife (.cmp .isN (.var 3) .non) (.str ⟨#[45]⟩) (.bi .str [(.var 3)]))]))])])])
  , (.ret (.mth .join (.str ⟨#[]⟩) [(.var 1)]))
  ]
/-- pieces_of -/
def b4 : List Sm := [
  (.par 1 2 (.lst []) (.int 0))
  , (.whl (.cmp .lt (.var 2) (.bi .len [(.var 0)])) [(.asg (.nm 3) (.bin .add (.var 2) (.int 1))), (.ifs (.cmp .notin (.idx (.var 0) (.var 2)) (.str ⟨#[40, 41, 32]⟩)) [(.whl (.an (.cmp .lt (.var 3) (.bi .len [(.var 0)])) (.cmp .notin (.idx (.var 0) (.var 3)) (.str ⟨#[40, 41, 32]⟩))) [(.aug 3 .add (.int 1))])] []), (.ex (.mth .append (.var 1) [(.slc (.var 0) (some (.var 2)) (some (.var 3)))])), (.asg (.nm 2) (.var 3))])
  , (.ret (.var 1))
  ]
/-- plain_of -/
def b5 : List Sm := [
  (.ifs (.cmp .eq (.var 0) (.str ⟨#[45]⟩)) [(.ret (.lst [.non]))] [])
  , (.ifs (.call 0 [(.var 0)]) [(.ret (.lst [(.var 0)]))] [])
  , (.asg (.nm 1) (.ife (.cmp .eq (.slc (.var 0) none (some (.int 1))) (.str ⟨#[45]⟩)) (.slc (.var 0) (some (.int 1)) none) (.var 0)))
  , (.ifs (.orr (.nt (.chn .le .le (.int 1) (.bi .len [(.var 1)]) (.int 12))) (.nt (.bi .all [(.lc (.cmp .isin (.var 3) (.str ⟨#[48, 49, 50, 51, 52, 53, 54, 55, 56, 57]⟩)) [2, 3] 3 .val (.var 1) none)]))) [(.ret (.lst []))] [])
  , (.ret (.ife (.cmp .eq (.bi .str [(.bi .int [(.var 0)])]) (.var 0)) (.lst [(.bi .int [(.var 0)])]) (.lst [])))
  ]
/-- value_of -/
def b6 : List Sm := [
  (.par 1 2 (.lst []) (.lst []))
  , (.fors (.nm 3) .val (.var 0) [(.ifs (.cmp .eq (.var 3) (.str ⟨#[40]⟩)) [(.ex (.mth .append (.var 1) [(.lst [])])), .cnt] []), (.ifs (.cmp .eq (.var 3) (.str ⟨#[32]⟩)) [.cnt] []), (.ifs (.cmp .eq (.var 3) (.str ⟨#[41]⟩)) [(.ifs (.cmp .eq (.var 1) (.lst [])) [(.ret (.lst []))] []), (.asg (.nm 4) (.lst [(.bi .tuple [(.mth .pop (.var 1) [])])]))] [(.asg (.nm 4) (.call 5 [(.var 3)]))]), (.ifs (.orr (.cmp .eq (.var 4) (.lst [])) (.an (.cmp .eq (.var 1) (.lst [])) (.cmp .ne (.var 2) (.lst [])))) [(.ret (.lst []))] []), (.ifs (.cmp .eq (.var 1) (.lst [])) [(.asg (.nm 2) (.var 4))] [(.ex (.mth .append (.idx (.var 1) (.bin .sub (.int 0) (.int 1))) [(.idx (.var 4) (.int 0))]))])])
  , (.ret (.ife (.cmp .eq (.var 1) (.lst [])) (.var 2) (.lst [])))
  ]
/-- read_value -/
def b7 : List Sm := [
  (.ifs (.nt (.isi (.var 0) [.str])) [(.rai 13 [(.str ⟨#[110, 111, 32, 116, 101, 120, 116]⟩), (.int 0)])] [])
  , (.asg (.nm 1) (.call 6 [(.call 4 [(.var 0)])]))
  , (.ifs (.orr (.cmp .eq (.var 1) (.lst [])) (.orr (.nt (.call 2 [(.idx (.var 1) (.int 0))])) (.cmp .ne (.call 3 [(.idx (.var 1) (.int 0))]) (.var 0)))) [(.rai 13 [(.str ⟨#[110, 111, 32, 116, 101, 120, 116, 32, 111, 102, 32, 97, 32, 118, 97, 108, 117, 101]⟩), (.int 0)])] [])
  , (.ret (.idx (.var 1) (.int 0)))
  ]
/-- _law_begun -/
def b8 : List Sm := [
  (.asg (.nm 1) (.lc (.bin .sub (.bi .abs [(.var 3)]) (.bin .pow (.int 10) (.int 18))) [2, 3] 3 .val (.var 0) (some (.cmp .ge (.bi .abs [(.var 3)]) (.bin .pow (.int 10) (.int 18))))))
  , (.ret (.dic [⟨#[103, 114, 101, 97, 116]⟩, ⟨#[99, 101, 108, 108, 115]⟩, ⟨#[114, 101, 115, 116]⟩, ⟨#[116, 117, 114, 110]⟩] [(.var 1), (.lc (.bi .abs [(.var 3)]) [2, 3] 3 .val (.var 0) none), (.int 0), (.int 0)]))
  ]
/-- _law_mixed -/
def b9 : List Sm := [
  (.par 1 2 (.bin .add (.idx (.var 0) (.str ⟨#[116, 117, 114, 110]⟩)) (.int 1)) (.int 0))
  , (.setI (.var 0) (.str ⟨#[116, 117, 114, 110]⟩) (.var 1))
  , (.fors (.nm 3) .val (.lst [(.int 2147483629), (.int 2147483587), (.int 2147483579), (.int 2147483563)]) [(.asg (.nm 4) (.bin .add (.bin .mul (.int 69621) (.var 1)) (.bin .fdiv (.var 3) (.int 41)))), (.fors (.nm 5) .val (.idx (.var 0) (.str ⟨#[99, 101, 108, 108, 115]⟩)) [(.asg (.nm 4) (.bin .mod (.bi .int [(.bin .add (.bin .add (.bin .mul (.var 4) (.int 48271)) (.var 5)) (.var 1))]) (.var 3)))]), (.asg (.nm 2) (.bin .add (.bin .mul (.var 2) (.int 2147483659)) (.bin .mod (.bi .int [(.bin .pow (.var 4) (.int 5))]) (.var 3))))])
  , (.ret (.var 2))
  ]
/-- _law_draw -/
def b10 : List Sm := [
  (.ifs (.cmp .eq (.idx (.var 0) (.str ⟨#[114, 101, 115, 116]⟩)) (.int 0)) [(.setI (.var 0) (.str ⟨#[114, 101, 115, 116]⟩) (.ife (.cmp .ne (.idx (.var 0) (.str ⟨#[103, 114, 101, 97, 116]⟩)) (.lst [])) (.mth .pop (.idx (.var 0) (.str ⟨#[103, 114, 101, 97, 116]⟩)) [(.int 0)]) (.call 9 [(.var 0)])))] [])
  , (.asg (.nm 2) (.bin .mod (.bi .int [(.idx (.var 0) (.str ⟨#[114, 101, 115, 116]⟩))]) (.var 1)))
  , (.setI (.var 0) (.str ⟨#[114, 101, 115, 116]⟩) (.bin .fdiv (.idx (.var 0) (.str ⟨#[114, 101, 115, 116]⟩)) (.var 1)))
  , (.ret (.var 2))
  ]
/-- _law_pick -/
def b11 : List Sm := [
  (.ret (.idx (.var 1) (.call 10 [(.var 0), (.bi .len [(.var 1)])])))
  ]
/-- _law_plain -/
def b12 : List Sm := [
  (.ifs (.isi (.var 0) [.list, .tuple]) [(.ret (.cmp .eq (.lc (.int 1) [1, 2] 2 .val (.var 0) (some (.nt (.call 12 [(.var 2)])))) (.lst [])))] [])
  , (.ifs (.isi (.var 0) [.dict]) [(.ret (.call 12 [.stk]))] [])
  , (.ret (.orr (.cmp .isN (.var 0) .non) (.isi (.var 0) [.int, .str])))
  ]
/-- _law_is -/
def b13 : List Sm := [
  (.ret (.an (.call 12 [(.var 0)]) (.an (.cmp .eq (.var 0) (.var 1)) (.an (.cmp .eq (.var 1) (.var 0)) (.cmp .eq (.bi .repr [(.var 0)]) (.bi .repr [(.var 1)]))))))
  ]
/-- _law_value_text -/
def b14 : List Sm := [
  (.ifs (.isi (.var 0) [.tuple]) [(.ret (.bin .add (.bin .add (.str ⟨#[40]⟩) (.mth .join (.str ⟨#[32]⟩) [(.lc (.call 14 [(.var 2)]) [1, 2] 2 .val (.var 0) none)])) (.str ⟨#[41]⟩)))] [])
  , (.ret (.ife (.cmp .isN (.var 0) .non) (.str ⟨#[45]⟩) (.bi .str [(.var 0)])))
  ]
/-- _law_caught -/
def b15 : List Sm := [
  (.asg (.nm 1) (.lst []))
  , (.tryA [(.ex (.clv 0))] 0 2 [(.ex (.mth .append (.var 1) [(.var 2)]))])
  , (.ret (.ife (.cmp .ne (.var 1) (.lst [])) (.idx (.var 1) (.int 0)) .non))
  ]
/-- _law_word -/
def b16 : List Sm := [
  (.asg (.nm 4) (.lst []))
  , (.asg (.nm 1) (.callL 15 (.mth .append (.var 4) [(.clv 0)])))
  , (.ifs (.cmp .isN (.var 1) .non) [(.ret (.idx (.var 4) (.int 0)))] [])
  , (.ifs (.isi (.var 1) [.own 14]) [(.ret (.tup [(.str ⟨#[117, 115, 101, 100]⟩), (.fld (.var 1) ⟨#[110, 97, 109, 101]⟩)]))] [])
  , (.ifs (.isi (.var 1) [.own 15]) [(.ret (.tup [(.str ⟨#[109, 97, 110, 121]⟩), (.fld (.var 1) ⟨#[109, 111, 115, 116]⟩)]))] [])
  , (.ifs (.isi (.var 1) [.own 13]) [(.ret (.tup [(.str ⟨#[116, 101, 120, 116]⟩), (.fld (.var 1) ⟨#[108, 105, 110, 101]⟩)]))] [])
  , (.fors (.tp [2, 3]) .val (.lst [(.tup [(.str ⟨#[110, 97, 109, 101]⟩), (.isi (.var 1) [.own 1])]), (.tup [(.str ⟨#[116, 119, 105, 99, 101]⟩), (.isi (.var 1) [.own 12])]), (.tup [(.str ⟨#[116, 97, 98, 108, 101]⟩), (.isi (.var 1) [.own 4])]), (.tup [(.str ⟨#[100, 101, 101, 100]⟩), (.isi (.var 1) [.own 10])]), (.tup [(.str ⟨#[108, 111, 116]⟩), (.isi (.var 1) [.own 3])]), (.tup [(.str ⟨#[110, 117, 109, 98, 101, 114]⟩), (.isi (.var 1) [.own 2])]), (.tup [(.str ⟨#[112, 97, 115, 116]⟩), (.isi (.var 1) [.own 11])]), (.tup [(.str ⟨#[101, 120, 112, 114, 101, 115, 115, 105, 111, 110]⟩), (.isi (.var 1) [.own 8])]), (.tup [(.str ⟨#[108, 97, 119]⟩), (.isi (.var 1) [.own 9])]), (.tup [(.str ⟨#[107, 105, 110, 100]⟩), (.isi (.var 1) [.own 5])]), (.tup [(.str ⟨#[98, 111, 111, 107]⟩), (.isi (.var 1) [.own 6])]), (.tup [(.str ⟨#[115, 116, 97, 116, 101]⟩), (.isi (.var 1) [.own 7])])]) [(.ifs (.var 3) [(.ret (.var 2))] [])])
  , (.ret (.str ⟨#[111, 116, 104, 101, 114]⟩))
  ]
/-- _law_some_value -/
def b17 : List Sm := [
  (.asg (.nm 2) (.ife (.cmp .gt (.var 1) (.int 0)) (.call 10 [(.var 0), (.int 6)]) (.call 10 [(.var 0), (.int 3)])))
  , (.ifs (.cmp .eq (.var 2) (.int 0)) [(.ret (.call 11 [(.var 0), (.lst [(.str ⟨#[97]⟩), (.str ⟨#[111, 110]⟩), (.str ⟨#[122, 122]⟩), (.str ⟨#[101, 110, 116, 114, 121]⟩), (.str ⟨#[97, 98, 99, 100, 101, 102, 103, 104, 105, 106, 107, 108, 109]⟩)])]))] [])
  , (.ifs (.cmp .eq (.var 2) (.int 1)) [(.ret (.call 11 [(.var 0), (.lst [(.int 0), (.int 1), (.bin .sub (.int 0) (.int 1)), (.int 7), (.bin .sub (.int 0) (.int 42)), (.int 999999999999), (.bin .sub (.int 0) (.int 999999999999))])]))] [])
  , (.ifs (.cmp .eq (.var 2) (.int 2)) [(.ret .non)] [])
  , (.ret (.bi .tuple [(.lc (.call 17 [(.var 0), (.bin .sub (.var 1) (.int 1))]) [3, 4] 4 .rng (.call 10 [(.var 0), (.int 4)]) none)]))
  ]
/-- _law_nested -/
def b18 : List Sm := [
  (.fors (.nm 2) .rng (.var 0) [(.asg (.nm 1) (.tup [(.var 1)]))])
  , (.ret (.var 1))
  ]
/-- law -/
def b19 : List Sm := [
  (.asg (.nm 1) (.call 8 [(.var 0)]))
  , (.fors (.nm 10) .val (.lst [(.str ⟨#[65]⟩), (.str ⟨#[]⟩), (.str ⟨#[97, 32, 98]⟩), (.str ⟨#[97, 49]⟩), (.str ⟨#[45]⟩), (.bin .pow (.int 10) (.int 12)), (.bin .sub (.int 0) (.bin .pow (.int 10) (.int 12))), (.bl true), (.lst [(.str ⟨#[97]⟩)]), (.tup [(.str ⟨#[97]⟩), (.lst [(.str ⟨#[98]⟩)])]), (.tup [(.str ⟨#[97]⟩), (.str ⟨#[66]⟩)]), (.call 18 [(.int 60), (.str ⟨#[97]⟩)]), (.tup [(.str ⟨#[97]⟩), (.bl true)])]) [(.ifs (.cmp .ne (.callL 16 (.call 3 [(.var 10)])) (.tup [(.str ⟨#[116, 101, 120, 116]⟩), (.int 0)])) [(.ret (.bl false))] [])])
  , (.asg (.nm 2) (.call 18 [(.int 59), (.str ⟨#[97]⟩)]))
  , (.ifs (.orr (.nt (.call 13 [(.call 3 [(.var 2)]), (.bin .add (.bin .add (.bin .mul (.str ⟨#[40]⟩) (.int 59)) (.str ⟨#[97]⟩)) (.bin .mul (.str ⟨#[41]⟩) (.int 59)))])) (.orr (.cmp .ne (.call 7 [(.bin .add (.bin .add (.bin .mul (.str ⟨#[40]⟩) (.int 59)) (.str ⟨#[97]⟩)) (.bin .mul (.str ⟨#[41]⟩) (.int 59)))]) (.var 2)) (.cmp .ne (.callL 16 (.call 7 [(.bin .add (.bin .add (.bin .mul (.str ⟨#[40]⟩) (.int 60)) (.str ⟨#[97]⟩)) (.bin .mul (.str ⟨#[41]⟩) (.int 60)))])) (.tup [(.str ⟨#[116, 101, 120, 116]⟩), (.int 0)])))) [(.ret (.bl false))] [])
  , (.fors (.nm 10) .val (.lst [.non, (.int 5), (.str ⟨#[]⟩), (.str ⟨#[32]⟩), (.str ⟨#[65]⟩), (.str ⟨#[97, 32, 98]⟩), (.str ⟨#[48, 49]⟩), (.str ⟨#[45, 48]⟩), (.str ⟨#[45, 45, 49]⟩), (.str ⟨#[43, 49]⟩), (.str ⟨#[49, 48, 48, 48, 48, 48, 48, 48, 48, 48, 48, 48, 48]⟩), (.str ⟨#[40]⟩), (.str ⟨#[41]⟩), (.str ⟨#[40, 97]⟩), (.str ⟨#[97, 41]⟩), (.str ⟨#[40, 97, 41, 41]⟩), (.str ⟨#[40, 32, 97, 41]⟩), (.str ⟨#[40, 97, 32, 41]⟩), (.str ⟨#[40, 97, 32, 32, 98, 41]⟩), (.str ⟨#[40, 41, 40, 41]⟩), (.str ⟨#[40, 97, 41, 40, 98, 41]⟩), (.str ⟨#[97, 40, 41]⟩), (.str ⟨#[49, 97]⟩), (.str ⟨#[97, 49]⟩), (.str ⟨#[45, 32, 49]⟩), (.str ⟨#[40, 45, 41, 45]⟩), (.str ⟨#[40, 97, 10, 98, 41]⟩), (.str ⟨#[49, 47, 50]⟩)]) [(.ifs (.cmp .ne (.callL 16 (.call 7 [(.var 10)])) (.tup [(.str ⟨#[116, 101, 120, 116]⟩), (.int 0)])) [(.ret (.bl false))] [])])
  , (.fors (.nm 3) .rng (.bin .add (.int 8) (.bi .min2 [(.bi .len [(.var 0)]), (.int 10)])) [(.par 4 5 (.call 17 [(.var 1), (.int 3)]) (.call 17 [(.var 1), (.int 3)])), (.asg (.nm 6) (.call 14 [(.var 4)])), (.ifs (.orr (.nt (.call 13 [(.call 3 [(.var 4)]), (.var 6)])) (.orr (.nt (.call 13 [(.call 7 [(.var 6)]), (.var 4)])) (.orr (.nt (.call 13 [(.call 7 [(.var 6)]), (.var 4)])) (.nt (.call 13 [(.call 3 [(.var 4)]), (.var 6)]))))) [(.ret (.bl false))] []), (.ifs (.cmp .ne (.cmp .eq (.call 3 [(.var 4)]) (.call 3 [(.var 5)])) (.cmp .eq (.var 4) (.var 5))) [(.ret (.bl false))] []), (.asg (.nm 7) (.call 10 [(.var 1), (.bin .add (.bi .len [(.var 6)]) (.int 1))])), (.asg (.nm 9) (.call 11 [(.var 1), (.lst [(.bin .add (.bin .add (.slc (.var 6) none (some (.var 7))) (.call 11 [(.var 1), (.lst [(.str ⟨#[40]⟩), (.str ⟨#[41]⟩), (.str ⟨#[32]⟩), (.str ⟨#[65]⟩)])])) (.slc (.var 6) (some (.var 7)) none)), (.bin .add (.slc (.var 6) none (some (.var 7))) (.slc (.var 6) (some (.bin .add (.var 7) (.int 1))) none))])])), (.asg (.nm 8) (.callL 16 (.call 7 [(.var 9)]))), (.ifs (.an (.cmp .ne (.var 8) (.tup [(.str ⟨#[116, 101, 120, 116]⟩), (.int 0)])) (.orr (.nt (.call 12 [(.var 8)])) (.cmp .ne (.call 14 [(.var 8)]) (.var 9)))) [(.ret (.bl false))] [])])
  , (.ret (.bl true))
  ]
def TBx : Tb := ⟨[
  (1, 3, b0)
  , (1, 1, b1)
  , (1, 5, b2)
  , (1, 6, b3)
  , (1, 4, b4)
  , (1, 4, b5)
  , (1, 5, b6)
  , (1, 2, b7)
  , (1, 4, b8)
  , (1, 6, b9)
  , (2, 3, b10)
  , (2, 2, b11)
  , (1, 3, b12)
  , (2, 2, b13)
  , (1, 3, b14)
  , (1, 3, b15)
  , (1, 5, b16)
  , (2, 5, b17)
  , (2, 3, b18)
  , (1, 11, b19)
  ], [none, none, none, none, none, none, none, none, none, none, none, none, none, some ⟨#[108, 105, 110, 101]⟩, none, none], 0⟩
end QV
set_option maxRecDepth 100000
/-! P0: rules for what the small language's evaluator does. -/
namespace QV
open PySem
section
variable {α β : Type} {S : Sto}
def Wp (m : Ev α) (S : Sto) (Q : α → Sto → Prop) (E : D → Sto → Prop) : Prop := match m S with
  | .stk => False
  | .ok a S' => Q a S'
  | .ex e S' => E e S'
theorem Wp.elim {m : Ev α} {Q : α → Sto → Prop} (h : Wp m S Q fun _ _ => False) : ∃ a S', m S = .ok a S' ∧ Q a S' := by
  unfold Wp at h
  cases e : m S with
  | stk => rw [e] at h; exact h.elim
  | ok a S' => rw [e] at h; exact ⟨a, S', rfl, h⟩
  | ex x S' => rw [e] at h; exact h.elim
theorem wp_mono {m : Ev α} {Q Q' : α → Sto → Prop} {E E' : D → Sto → Prop} (h : Wp m S Q E) (q : ∀ a S', Q a S' → Q' a S') (x : ∀ a S', E a S' → E' a S') : Wp m S Q' E' := by
  unfold Wp at *
  cases e : m S with
  | stk => rw [e] at h; exact h.elim
  | ok a S' => rw [e] at h; exact q _ _ h
  | ex d S' => rw [e] at h; exact x _ _ h
variable {Q : α → Sto → Prop} {E : D → Sto → Prop}
theorem wp_bind {m : Ev β} {f : β → Ev α} (h : Wp m S (fun a S' => Wp (f a) S' Q E) E) : Wp (Ev.bind m f) S Q E := by
  unfold Wp Ev.bind at *
  cases e : m S with
  | stk => rw [e] at h; exact h.elim
  | ok a S' => rw [e] at h; exact h
  | ex x S' => rw [e] at h; exact h
theorem wp_ret {a : α} (h : Q a S) : Wp (Ev.ret a) S Q E := h
theorem wp_only {b : Bool} {m : Ev α} (hb : b = true) (h : Wp m S Q E) : Wp (onlyIf b m) S Q E := by
  subst hb
  exact h
theorem wp_opt {o : Option α} {a : α} (e : o = some a) (h : Q a S) : Wp (ofOpt o) S Q E := by
  subst e
  exact h
theorem wp_optS {o : Sto → Option α} {a : α} (e : o S = some a) (h : Q a S) : Wp (fun S => ofOpt (o S) S) S Q E := by
  show match ofOpt (o S) S with | .stk => False | .ok a S' => Q a S' | .ex e S' => E e S'
  rw [e]
  exact h
theorem wp_noEx {m : Ev α} (h : Wp m S Q fun _ _ => False) : Wp (noEx m) S Q E := by
  unfold Wp noEx at *
  cases e : m S with
  | stk => rw [e] at h; exact h.elim
  | ok a S' => rw [e] at h; exact h
  | ex d S' => rw [e] at h; exact h.elim
end
/-- no closure -/
def NC : D → Prop
  | .clo _ _ => False
  | _ => True
/-! ### the store -/
structure Ext (M : Nat → Prop) (S S' : Sto) : Prop where
  len : S.length ≤ S'.length
  get : ∀ n, n < S.length → ¬ M n → S'[n]? = S[n]?
abbrev Ex0 : Sto → Sto → Prop := Ext fun _ => False
theorem lt_of_get {S : Sto} {n : Nat} {c : SC} (h : S[n]? = some c) : n < S.length := (List.getElem?_eq_some_iff.mp h).1
section
variable {M M' : Nat → Prop} {S S' S'' : Sto}
theorem Ext.refl : Ext M S S := ⟨Nat.le_refl _, fun _ _ _ => rfl⟩
theorem Ext.trans (a : Ext M S S') (b : Ext M S' S'') : Ext M S S'' := ⟨Nat.le_trans a.len b.len, fun n h m => (b.get n (Nat.lt_of_lt_of_le h a.len) m).trans (a.get n h m)⟩
theorem Ext.mono (a : Ext M S S') (h : ∀ n, n < S.length → M n → M' n) : Ext M' S S' := ⟨a.len, fun n l m => a.get n l fun z => m (h n l z)⟩
theorem Ext.at (a : Ext M S S') {n : Nat} {c : SC} (h : S[n]? = some c) (m : ¬ M n) : S'[n]? = some c := (a.get n (lt_of_get h) m).trans h
/-- first as M allows, then at new places besides -/
theorem Ext.trans' (a : Ext M S S') (b : Ext M' S' S'') (h : ∀ n, n < S.length → M' n → M n) : Ext M S S'' :=
  ⟨Nat.le_trans a.len b.len, fun n l m => (b.get n (Nat.lt_of_lt_of_le l a.len) fun z => m (h n l z)).trans (a.get n l m)⟩
theorem Ex0.keep (a : Ex0 S S') {n : Nat} {c : SC} (h : S[n]? = some c) : S'[n]? = some c := a.at h fun z => z
theorem Ex0.to (a : Ex0 S S') : Ext M S S' := a.mono fun _ _ z => z.elim
theorem ext_new (c : SC) : Ext M S (S ++ [c]) := ⟨by simp, fun n h _ => List.getElem?_append_left h⟩
theorem new_at (c : SC) : (S ++ [c])[S.length]? = some c := by simp
theorem ext_set {n : Nat} {c : SC} (h : n < S.length → M n) : Ext M S (S.set n c) := ⟨by simp, fun k l m => by
  rw [List.getElem?_set_ne]
  intro e
  exact m (e ▸ h (e ▸ l))⟩
theorem set_at {n : Nat} {c c' : SC} (h : S[n]? = some c') : (S.set n c)[n]? = some c := List.getElem?_set_self (lt_of_get h)
end
/-! ### expressions -/
section
variable {K : Orc} {env : En} {S : Sto} {Q : D → Sto → Prop} {E : D → Sto → Prop}
theorem wp_non (h : Q .non S) : Wp (evC K .non env) S Q E := h
theorem wp_bl {b : Bool} (h : Q (.bl b) S) : Wp (evC K (.bl b) env) S Q E := h
theorem wp_int {b : Int} (h : Q (.int b) S) : Wp (evC K (.int b) env) S Q E := h
theorem wp_str {b : Str} (h : Q (.str b) S) : Wp (evC K (.str b) env) S Q E := h
theorem wp_var {i : Nat} {d : D} (e : env[i]? = some (some d)) (n : NC d) (h : Q d S) : Wp (evC K (.var i) env) S Q E := by
  simp only [evC]
  rw [e]
  cases d <;> first | exact h | exact n.elim
theorem wp_var' {i : Nat} (h : ∃ d, env[i]? = some (some d) ∧ NC d ∧ Q d S) : Wp (evC K (.var i) env) S Q E := by
  obtain ⟨d, e, n, h⟩ := h
  exact wp_var e n h
theorem wp_bin {op : Op} {a b : C} (h : Wp (evC K a env) S (fun x S => Wp (evC K b env) S (fun y S => Wp (opD op x y) S Q E) E) E) : Wp (evC K (.bin op a b) env) S Q E := by
  simp only [evC]
  exact wp_bind (wp_mono h (fun x S h => wp_bind h) fun _ _ h => h)
theorem wp_isN {a b : C} (h : Wp (evC K a env) S (fun x S => Q (.bl (isNonD x)) S) E) : Wp (evC K (.cmp .isN a b) env) S Q E := by
  simp only [evC]
  exact wp_bind h
theorem wp_notN {a b : C} (h : Wp (evC K a env) S (fun x S => Q (.bl (!isNonD x)) S) E) : Wp (evC K (.cmp .notN a b) env) S Q E := by
  simp only [evC]
  exact wp_bind h
theorem wp_cmp {op : Cm} {a b : C} (n1 : op ≠ .isN) (n2 : op ≠ .notN) (h : Wp (evC K a env) S (fun x S => Wp (evC K b env) S (fun y S => Wp (cmD op x y) S Q E) E) E) : Wp (evC K (.cmp op a b) env) S Q E := by
  have : Wp (Ev.bind (evC K a env) fun x => Ev.bind (evC K b env) fun y => cmD op x y) S Q E := wp_bind (wp_mono h (fun x S h => wp_bind h) fun _ _ h => h)
  cases op <;> first | exact absurd rfl n1 | exact absurd rfl n2 | (simp only [evC]; exact this)
theorem wp_asBl {b : Bool} {Q : Bool → Sto → Prop} (h : Q b S) : Wp (asBl (.bl b)) S Q E := h
theorem wp_nt {a : C} (h : Wp (evC K a env) S (fun x S => ∃ b, x = .bl b ∧ Q (.bl (!b)) S) E) : Wp (evC K (.nt a) env) S Q E := by
  simp only [evC]
  refine wp_bind (wp_mono h (fun x S h => ?_) fun _ _ h => h)
  obtain ⟨b, rfl, h⟩ := h
  exact h
theorem wp_an {a b : C} (h : Wp (evC K a env) S (fun x S => ∃ k, x = .bl k ∧ ((k = true → Wp (evC K b env) S Q E) ∧ (k = false → Q (.bl false) S))) E) : Wp (evC K (.an a b) env) S Q E := by
  simp only [evC]
  refine wp_bind (wp_mono h (fun x S h => ?_) fun _ _ h => h)
  obtain ⟨k, rfl, h1, h2⟩ := h
  cases k
  · exact h2 rfl
  · exact h1 rfl
theorem wp_orr {a b : C} (h : Wp (evC K a env) S (fun x S => ∃ k, x = .bl k ∧ ((k = false → Wp (evC K b env) S Q E) ∧ (k = true → Q (.bl true) S))) E) : Wp (evC K (.orr a b) env) S Q E := by
  simp only [evC]
  refine wp_bind (wp_mono h (fun x S h => ?_) fun _ _ h => h)
  obtain ⟨k, rfl, h1, h2⟩ := h
  cases k
  · exact h1 rfl
  · exact h2 rfl
theorem wp_ife {t a b : C} (h : Wp (evC K t env) S (fun x S => ∃ k, x = .bl k ∧ ((k = true → Wp (evC K a env) S Q E) ∧ (k = false → Wp (evC K b env) S Q E))) E) : Wp (evC K (.ife t a b) env) S Q E := by
  simp only [evC]
  refine wp_bind (wp_mono h (fun x S h => ?_) fun _ _ h => h)
  obtain ⟨k, rfl, h1, h2⟩ := h
  cases k
  · exact h2 rfl
  · exact h1 rfl
theorem wp_chn {p q : Cm} {a b c : C} (h : Wp (evC K a env) S (fun x S => Wp (evC K b env) S (fun y S => Wp (cmD p x y) S (fun t S => ∃ k, t = .bl k ∧ ((k = true → Wp (evC K c env) S (fun z S => Wp (cmD q y z) S Q E) E) ∧ (k = false → Q (.bl false) S))) E) E) E) : Wp (evC K (.chn p q a b c) env) S Q E := by
  simp only [evC]
  refine wp_bind (wp_mono h (fun x S h => wp_bind (wp_mono h (fun y S h => wp_bind (wp_mono h (fun t S h => ?_) fun _ _ h => h)) fun _ _ h => h)) fun _ _ h => h)
  obtain ⟨k, rfl, h1, h2⟩ := h
  cases k
  · exact wp_bind (wp_asBl (h2 rfl))
  · exact wp_bind (wp_asBl (wp_bind (h1 rfl)))
theorem wp_es0 {Q : List D → Sto → Prop} (h : Q [] S) : Wp (evCs K [] env) S Q E := h
theorem wp_es {c : C} {r : List C} {Q : List D → Sto → Prop} (h : Wp (evC K c env) S (fun x S => Wp (evCs K r env) S (fun xs S => Q (x :: xs) S) E) E) : Wp (evCs K (c :: r) env) S Q E := by
  simp only [evCs]
  exact wp_bind (wp_mono h (fun x S h => wp_bind h) fun _ _ h => h)
theorem wp_tup {es : List C} (h : Wp (evCs K es env) S (fun xs S => xs.length ≤ line ∧ Q (.tup xs) S) E) : Wp (evC K (.tup es) env) S Q E := by
  simp only [evC]
  refine wp_bind (wp_mono h (fun x S h => wp_only (decide_eq_true h.1) h.2) fun _ _ h => h)
theorem wp_newC {c : SC} (h : ∀ n S', n = S.length → Ex0 S S' → S'[n]? = some c → S'.length = n + 1 → Q (.loc n) S') : Wp (newC c) S Q E := h _ _ rfl (ext_new c) (new_at c) (by simp)
theorem wp_lst {es : List C} (h : Wp (evCs K es env) S (fun xs S => xs.length ≤ line ∧ ∀ n S', n = S.length → Ex0 S S' → S'[n]? = some (.lst xs) → S'.length = n + 1 → Q (.loc n) S') E) : Wp (evC K (.lst es) env) S Q E := by
  simp only [evC]
  refine wp_bind (wp_mono h (fun x S h => wp_only (decide_eq_true h.1) (wp_newC h.2)) fun _ _ h => h)
theorem wp_idx {a b : C} (h : Wp (evC K a env) S (fun x S => Wp (evC K b env) S (fun y S => Wp (idxD x y) S Q E) E) E) : Wp (evC K (.idx a b) env) S Q E := by
  simp only [evC]
  exact wp_bind (wp_mono h (fun x S h => wp_bind h) fun _ _ h => h)
theorem wp_o0 {Q : Option Int → Sto → Prop} (h : Q none S) : Wp (evO K none env) S Q E := h
theorem wp_o1 {c : C} {Q : Option Int → Sto → Prop} (h : Wp (evC K c env) S (fun x S => ∃ i, x = .int i ∧ Q (some i) S) E) : Wp (evO K (some c) env) S Q E := by
  simp only [evO]
  refine wp_bind (wp_mono h (fun x S h => ?_) fun _ _ h => h)
  obtain ⟨i, rfl, h⟩ := h
  exact h
theorem wp_slc {a : C} {lo hi : Option C} (h : Wp (evC K a env) S (fun x S => Wp (evO K lo env) S (fun l S => Wp (evO K hi env) S (fun u S => Wp (slcD x l u) S Q E) E) E) E) : Wp (evC K (.slc a lo hi) env) S Q E := by
  simp only [evC]
  exact wp_bind (wp_mono h (fun x S h => wp_bind (wp_mono h (fun _ _ h => wp_bind h) fun _ _ h => h)) fun _ _ h => h)
theorem wp_call {k : Nat} {es : List C} (h : Wp (evCs K es env) S (fun xs S => Wp (K (.fn k) xs) S Q E) E) : Wp (evC K (.call k es) env) S Q E := by
  simp only [evC]
  exact wp_bind h
theorem wp_callL {k : Nat} {c : C} (h : Wp (K (.fn k) [.clo c env]) S Q E) : Wp (evC K (.callL k c) env) S Q E := by
  simp only [evC]
  exact h
theorem wp_clv {i : Nat} {b : C} {e : En} (he : env[i]? = some (some (.clo b e))) (h : Wp (K (.clo b e) []) S Q E) : Wp (evC K (.clv i) env) S Q E := by
  simp only [evC]
  rw [he]
  exact h
theorem wp_bi {b : Bi} {es : List C} (h : Wp (evCs K es env) S (fun xs S => Wp (biD b xs) S Q E) E) : Wp (evC K (.bi b es) env) S Q E := by
  simp only [evC]
  exact wp_bind h
theorem wp_isi {a : C} {ts : List Ty} (h : Wp (evC K a env) S (fun x S => ∃ b, isiAny S x ts = some b ∧ Q (.bl b) S) E) : Wp (evC K (.isi a ts) env) S Q E := by
  simp only [evC]
  refine wp_bind (wp_mono h (fun x S h => ?_) fun _ _ h => h)
  obtain ⟨b, e, h⟩ := h
  exact wp_optS (o := fun S => (isiAny S x ts).map D.bl) (by simp [e]) h
theorem wp_mth {m : Mt} {a : C} {es : List C} (h : Wp (evC K a env) S (fun x S => Wp (chkM m x) S (fun _ S => Wp (evCs K es env) S (fun xs S => Wp (mthD m x xs) S Q E) E) E) E) : Wp (evC K (.mth m a es) env) S Q E := by
  simp only [evC]
  exact wp_bind (wp_mono h (fun x S h => wp_bind (wp_mono h (fun _ _ h => wp_bind h) fun _ _ h => h)) fun _ _ h => h)
theorem wp_fld {a : C} {f : Str} (h : Wp (evC K a env) S (fun x S => ∃ k fs d, x = .exc k fs ∧ look fs f = some d ∧ Q d S) E) : Wp (evC K (.fld a f) env) S Q E := by
  simp only [evC]
  refine wp_bind (wp_mono h (fun x S h => ?_) fun _ _ h => h)
  obtain ⟨k, fs, d, rfl, e, h⟩ := h
  exact wp_opt e h
theorem wp_dic {ks : List Str} {es : List C} (hk : (decide (0 < ks.length) && decide (ks.length ≤ 15) && decide (ks.length = es.length) && decide ks.Nodup) = true) (h : ∀ n S', n = S.length → Ex0 S S' → S'[n]? = some (.dic []) → S'.length = n + 1 → Wp (evCs K es env) S' (fun xs S2 => S2[n]? = some (.dic []) ∧ Q (.loc n) (S2.set n (.dic (ks.zip xs)))) E) : Wp (evC K (.dic ks es) env) S Q E := by
  simp only [evC]
  refine wp_only hk (wp_bind (wp_newC fun n S' e x g l => wp_bind (wp_mono (h n S' e x g l) (fun xs S2 z => ?_) fun _ _ h => h)))
  obtain ⟨z1, z2⟩ := z
  unfold Wp fillD
  simp only [z1]
  exact z2
theorem wp_lc {elt : C} {own : List Nat} {tg : Nat} {kd : Wk} {it : C} {t : Option C} (h : Wp (evC K it env) S (fun x S => Wp (itW kd x) S (fun J S => ∀ n S', n = S.length → Ex0 S S' → S'[n]? = some (.lst []) → S'.length = n + 1 → Wp (lcRun (fun x => noEx (Ev.bind (evT K t ((wipeD env own).set tg (some x))) fun k => match k with
        | true => Ev.bind (evC K elt ((wipeD env own).set tg (some x))) fun y => Ev.ret (some y)
        | false => Ev.ret none)) n J) S' (fun _ S => Q (.loc n) S) E) E) E) : Wp (evC K (.lc elt own tg kd it t) env) S Q E := by
  simp only [evC]
  exact wp_bind (wp_mono h (fun x S h => wp_bind (wp_mono h (fun J S h => wp_bind (wp_newC fun n S' e x g l => wp_bind (h n S' e x g l))) fun _ _ h => h)) fun _ _ h => h)
theorem wp_t0 {Q : Bool → Sto → Prop} (h : Q true S) : Wp (evT K none env) S Q E := h
theorem wp_t1 {c : C} {Q : Bool → Sto → Prop} (h : Wp (evC K c env) S (fun x S => ∃ b, x = .bl b ∧ Q b S) E) : Wp (evT K (some c) env) S Q E := by
  simp only [evT]
  refine wp_bind (wp_mono h (fun x S h => ?_) fun _ _ h => h)
  obtain ⟨i, rfl, h⟩ := h
  exact h
end
/-! ### statements -/
structure Po where
  nx : En → Sto → Prop
  rt : D → Sto → Prop
  bk : En → Sto → Prop
  ct : En → Sto → Prop
  ex : D → En → Sto → Prop
def Sw (m : Sv) (env : En) (S : Sto) (P : Po) : Prop := match m env S with
  | .stk => False
  | .nx e S => P.nx e S
  | .rt d S => P.rt d S
  | .bk e S => P.bk e S
  | .ct e S => P.ct e S
  | .ex d e S => P.ex d e S
section
variable {T : Tb} {K : Orc} {F : Nat} {env : En} {S : Sto} {P P' : Po}
theorem sw_mono {m : Sv} (h : Sw m env S P) (h1 : ∀ e S, P.nx e S → P'.nx e S) (h2 : ∀ e S, P.rt e S → P'.rt e S) (h3 : ∀ e S, P.bk e S → P'.bk e S) (h4 : ∀ e S, P.ct e S → P'.ct e S) (h5 : ∀ d e S, P.ex d e S → P'.ex d e S) : Sw m env S P' := by
  unfold Sw at *
  revert h
  cases m env S <;> simp only <;> intro h <;> first | exact h | exact h1 _ _ h | exact h2 _ _ h | exact h3 _ _ h | exact h4 _ _ h | exact h5 _ _ _ h
theorem sw_ofEv {α : Type} {m : En → Ev α} {f : α → Sv} (h : Wp (m env) S (fun x S => Sw (f x) env S P) fun e S => P.ex e env S) : Sw (ofEv m f) env S P := by
  unfold Sw ofEv
  unfold Wp at h
  revert h
  cases m env S <;> simp only <;> intro h <;> exact h
theorem sw_nil (h : P.nx env S) : Sw (evSs T K F []) env S P := by
  unfold Sw
  simp only [evSs]
  exact h
theorem sw_seq {m n : Sv} (h : Sw m env S { P with nx := fun e S => Sw n e S P }) : Sw (seqS m n) env S P := by
  unfold Sw seqS at *
  revert h
  cases m env S <;> simp only <;> intro h <;> exact h
theorem sw_cons {s : Sm} {r : List Sm} (h : Sw (evS T K F s) env S { P with nx := fun e S => Sw (evSs T K F r) e S P }) : Sw (evSs T K F (s :: r)) env S P := by
  simp only [evSs]
  exact sw_seq h
theorem sw_one {s : Sm} (h : Sw (evS T K F s) env S P) : Sw (evSs T K F [s]) env S P := sw_cons (sw_mono h (fun e S z => sw_nil (T := T) (K := K) (F := F) z) (fun _ _ z => z) (fun _ _ z => z) (fun _ _ z => z) fun _ _ _ z => z)
theorem sw_ex {e : C} (h : Wp (evC K e env) S (fun _ S => P.nx env S) fun d S => P.ex d env S) : Sw (evS T K F (.ex e)) env S P := by
  simp only [evS]
  exact sw_ofEv h
theorem sw_asg {i : Nat} {e : C} (h : Wp (evC K e env) S (fun x S => P.nx (env.set i (some x)) S) fun d S => P.ex d env S) : Sw (evS T K F (.asg (.nm i) e)) env S P := by
  simp only [evS]
  exact sw_ofEv h
theorem sw_par {i j : Nat} {a b : C} (h : Wp (evC K a env) S (fun x S => Wp (evC K b env) S (fun y S => P.nx ((env.set i (some x)).set j (some y)) S) fun d S => P.ex d env S) fun d S => P.ex d env S) : Sw (evS T K F (.par i j a b)) env S P := by
  simp only [evS]
  exact sw_ofEv (wp_mono h (fun x S h => sw_ofEv h) fun _ _ h => h)
theorem sw_setI {o i e : C} (h : Wp (evC K e env) S (fun v S => Wp (evC K o env) S (fun x S => Wp (evC K i env) S (fun y S => Wp (setD x y v) S (fun _ S => P.nx env S) fun d S => P.ex d env S) fun d S => P.ex d env S) fun d S => P.ex d env S) fun d S => P.ex d env S) : Sw (evS T K F (.setI o i e)) env S P := by
  simp only [evS]
  exact sw_ofEv (wp_mono h (fun x S h => sw_ofEv (wp_mono h (fun _ _ h => sw_ofEv (wp_mono h (fun _ _ h => sw_ofEv h) fun _ _ h => h)) fun _ _ h => h)) fun _ _ h => h)
theorem sw_aug {i : Nat} {op : Op} {e : C} (h : Wp (evC K (.var i) env) S (fun x S => Wp (evC K e env) S (fun y S => Wp (opD op x y) S (fun z S => P.nx (env.set i (some z)) S) fun d S => P.ex d env S) fun d S => P.ex d env S) fun d S => P.ex d env S) : Sw (evS T K F (.aug i op e)) env S P := by
  simp only [evS]
  exact sw_ofEv (wp_mono h (fun x S h => sw_ofEv (wp_mono h (fun _ _ h => sw_ofEv h) fun _ _ h => h)) fun _ _ h => h)
theorem sw_ret {e : C} (h : Wp (evC K e env) S (fun x S => P.rt x S) fun d S => P.ex d env S) : Sw (evS T K F (.ret e)) env S P := by
  simp only [evS]
  exact sw_ofEv h
theorem sw_ifs {t : C} {a b : List Sm} (h : Wp (evC K t env) S (fun x S => ∃ k, x = .bl k ∧ ((k = true → Sw (evSs T K F a) env S P) ∧ (k = false → Sw (evSs T K F b) env S P))) fun d S => P.ex d env S) : Sw (evS T K F (.ifs t a b)) env S P := by
  simp only [evS]
  refine sw_ofEv (wp_t1 (wp_mono h (fun x S h => ?_) fun _ _ h => h))
  obtain ⟨k, rfl, h1, h2⟩ := h
  refine ⟨k, rfl, ?_⟩
  cases k
  · exact h2 rfl
  · exact h1 rfl
theorem sw_brk (h : P.bk env S) : Sw (evS T K F .brk) env S P := by
  unfold Sw
  simp only [evS]
  exact h
theorem sw_cnt (h : P.ct env S) : Sw (evS T K F .cnt) env S P := by
  unfold Sw
  simp only [evS]
  exact h
theorem sw_rai {k : Nat} {es : List C} (h : Wp (evCs K es env) S (fun xs S => ∃ e, excOf T k xs = some e ∧ P.ex e env S) fun d S => P.ex d env S) : Sw (evS T K F (.rai k es)) env S P := by
  simp only [evS]
  refine sw_ofEv (wp_mono h (fun x S h => ?_) fun _ _ h => h)
  obtain ⟨e, he, h⟩ := h
  rw [he]
  exact h
theorem sw_fors {tg : Tg} {kd : Wk} {it : C} {body : List Sm} (h : Wp (evC K it env) S (fun x S => Wp (itW kd x) S (fun J S => Sw (forRun tg (evSs T K F body) J) env S P) fun d S => P.ex d env S) fun d S => P.ex d env S) : Sw (evS T K F (.fors tg kd it body)) env S P := by
  simp only [evS]
  exact sw_ofEv (wp_bind h)
/-- what a turn leaves to the loop -/
def Po.turn (P : Po) (next : En → Sto → Prop) : Po := { nx := next, rt := P.rt, bk := P.nx, ct := next, ex := P.ex }
theorem sw_turn {m next : Sv} (h : Sw m env S (P.turn fun e S => Sw next e S P)) : Sw (turnS m next) env S P := by
  unfold Sw turnS at *
  revert h
  cases m env S <;> simp only [Po.turn] <;> intro h <;> exact h
theorem sw_bind {tg : Tg} {x : D} {m : Sv} {env' : En} (e : bindT tg x env = some env') (h : Sw m env' S P) : Sw (bindS tg x m) env S P := by
  unfold Sw bindS at *
  rw [e]
  exact h
theorem sw_forFix {tg : Tg} {body : Sv} (I : List D → En → Sto → Prop) {post : List D} : ∀ {pre : List D}
    (_turn : ∀ pre' x post' env S, pre ++ post = pre' ++ x :: post' → I pre' env S → ∃ env', bindT tg x env = some env' ∧ Sw body env' S (P.turn (I (pre' ++ [x]))))
    (_end : ∀ env S, I (pre ++ post) env S → P.nx env S) {env : En} {S : Sto} (_h : I pre env S), Sw (forFix tg body post) env S P := by
  induction post with
  | nil =>
    intro pre turn fin env S h
    rw [List.append_nil] at fin
    exact fin env S h
  | cons x r ih =>
    intro pre turn fin env S h
    obtain ⟨env', e, z⟩ := turn pre x r env S rfl h
    refine sw_bind e (sw_turn (sw_mono z (fun e2 S2 h2 => ?_) (fun _ _ h => h) (fun _ _ h => h) (fun e2 S2 h2 => ?_) fun _ _ _ h => h))
    · exact ih (pre := pre ++ [x]) (fun pre' y post' env S e => turn pre' y post' env S (by rw [← e]; simp)) (fun env S q => fin env S (by simpa using q)) h2
    · exact ih (pre := pre ++ [x]) (fun pre' y post' env S e => turn pre' y post' env S (by rw [← e]; simp)) (fun env S q => fin env S (by simpa using q)) h2
theorem sw_for_fix {tg : Tg} {body : Sv} {xs : List D} (I : List D → En → Sto → Prop)
    (start : I [] env S) (turn : ∀ pre x post env S, xs = pre ++ x :: post → I pre env S → ∃ env', bindT tg x env = some env' ∧ Sw body env' S (P.turn (I (pre ++ [x]))))
    (fin : ∀ env S, I xs env S → P.nx env S) : Sw (forRun tg body (.fix xs)) env S P :=
  sw_forFix (pre := []) I (fun pre x post env S e => turn pre x post env S e) (fun env S h => fin env S h) start
theorem sw_forLive {tg : Tg} {body : Sv} {m : Nat} {xs : List D} (I : List D → En → Sto → Prop) (hm : ∀ pre env S, I pre env S → asL S (.loc m) = some xs)
    (turn : ∀ pre x post env S, xs = pre ++ x :: post → I pre env S → ∃ env', bindT tg x env = some env' ∧ Sw body env' S (P.turn (I (pre ++ [x])))) (fin : ∀ env S, I xs env S → P.nx env S) :
    ∀ (r i : Nat) {env : En} {S : Sto}, r = xs.length - i → i ≤ xs.length → I (xs.take i) env S → Sw (forLive tg body m r i) env S P
  | 0, i, env, S, hr, hi, h => by
    have e : i = xs.length := by omega
    subst e
    unfold Sw forLive
    simp only [hm _ _ _ h, Nat.le_refl, if_true]
    rw [List.take_length] at h
    exact fin env S h
  | r + 1, i, env, S, hr, hi, h => by
    have hlt : i < xs.length := by omega
    have hx : xs[i]? = some xs[i] := List.getElem?_eq_getElem hlt
    obtain ⟨env', e, z⟩ := turn (xs.take i) xs[i] (xs.drop (i + 1)) env S (by rw [← List.drop_eq_getElem_cons hlt, List.take_append_drop]) h
    have key : Sw (bindS tg xs[i] (turnS body (forLive tg body m r (i + 1)))) env S P := by
      have nxt : ∀ e2 S2, I (xs.take i ++ [xs[i]]) e2 S2 → Sw (forLive tg body m r (i + 1)) e2 S2 P := fun e2 S2 h2 => by
        refine sw_forLive I hm turn fin r (i + 1) (by omega) hlt ?_
        rw [List.take_succ, hx]
        exact h2
      exact sw_bind e (sw_turn (sw_mono z nxt (fun _ _ h => h) (fun _ _ h => h) nxt fun _ _ _ h => h))
    unfold Sw
    rw [forLive]
    simp only [hm _ _ _ h, hx]
    exact key
theorem sw_for_live {tg : Tg} {body : Sv} {m : Nat} {xs : List D} (I : List D → En → Sto → Prop) (hm : ∀ pre env S, I pre env S → asL S (.loc m) = some xs)
    (start : I [] env S) (turn : ∀ pre x post env S, xs = pre ++ x :: post → I pre env S → ∃ env', bindT tg x env = some env' ∧ Sw body env' S (P.turn (I (pre ++ [x]))))
    (fin : ∀ env S, I xs env S → P.nx env S) : Sw (forRun tg body (.live m)) env S P := by
  have key := sw_forLive (P := P) I hm turn fin xs.length 0 (by omega) (by omega) (env := env) (S := S) (by simpa using start)
  unfold Sw forRun at *
  simp only [hm _ _ _ start]
  exact key
theorem sw_whl {t : C} {body : List Sm} (I : Nat → En → Sto → Prop) (turn : ∀ n env S, I n env S → Wp (evC K t env) S (fun x S => ∃ k, x = .bl k ∧ ((k = true → Sw (evSs T K F body) env S (P.turn fun e S => ∃ m, m < n ∧ I m e S)) ∧ (k = false → P.nx env S))) fun d S => P.ex d env S) {n : Nat} (hn : n < F) (h : I n env S) : Sw (evS T K F (.whl t body)) env S P := by
  have key : ∀ (f n : Nat) (env : En) (S : Sto), n < f → I n env S → Sw (whlRun (evT K (some t)) (evSs T K F body) f) env S P := by
    intro f
    induction f with
    | zero => intro n env S hn; omega
    | succ f ih =>
      intro n env S hn h
      refine sw_ofEv (wp_t1 (wp_mono (turn n env S h) (fun x S z => ?_) fun _ _ h => h))
      obtain ⟨k, rfl, h1, h2⟩ := z
      refine ⟨k, rfl, ?_⟩
      cases k
      · exact h2 rfl
      · exact sw_turn (sw_mono (h1 rfl) (fun e S ⟨m, hm, q⟩ => ih m e S (by omega) q) (fun _ _ h => h) (fun _ _ h => h) (fun e S ⟨m, hm, q⟩ => ih m e S (by omega) q) fun _ _ _ h => h)
  simp only [evS]
  exact key F n env S hn h
end
/-! ### comprehensions -/
section
variable {S : Sto} {E : D → Sto → Prop} {turn : D → Ev (Option D)} {n : Nat}
theorem wp_append {xs : List D} {y : D} {Q : D → Sto → Prop} (h : S[n]? = some (.lst xs)) (hl : xs.length < line) (q : ∀ S', Ext (· = n) S S' → S'[n]? = some (.lst (xs ++ [y])) → S'.length = S.length → Q .non S') : Wp (mthD .append (.loc n) [y]) S Q E := by
  unfold Wp mthD
  simp only [h]
  rw [decide_eq_true hl]
  exact q _ (ext_set fun _ => rfl) (set_at h) (by simp)
theorem wp_lcFix (I : List D → Sto → Prop) {post : List D} : ∀ {pre : List D}
    (_turn : ∀ pre' x post' S, pre ++ post = pre' ++ x :: post' → I pre' S → Wp (turn x) S (fun y S => match y with
      | none => I (pre' ++ [x]) S
      | some y => ∃ ys, S[n]? = some (.lst ys) ∧ ys.length < line ∧ ∀ S', Ext (· = n) S S' → S'[n]? = some (.lst (ys ++ [y])) → S'.length = S.length → I (pre' ++ [x]) S') E)
    {Q : Unit → Sto → Prop} (_end : ∀ S, I (pre ++ post) S → Q () S) {S : Sto} (_h : I pre S), Wp (lcFix turn n post) S Q E := by
  induction post with
  | nil =>
    intro pre turn Q fin S h
    rw [List.append_nil] at fin
    exact fin S h
  | cons x r ih =>
    intro pre turn Q fin S h
    refine wp_bind (wp_mono (turn pre x r S rfl h) (fun y S z => ?_) fun _ _ h => h)
    have nxt : ∀ S2, I (pre ++ [x]) S2 → Wp (lcFix _ n r) S2 Q E := fun S2 h2 => ih (pre := pre ++ [x]) (fun pre' y post' S e => turn pre' y post' S (by rw [← e]; simp)) (fun S q => fin S (by simpa using q)) h2
    cases y with
    | none => exact wp_bind (wp_ret (nxt S z))
    | some y =>
      obtain ⟨ys, h1, h2, h3⟩ := z
      exact wp_bind (wp_bind (wp_append h1 h2 fun S' a b c => wp_ret (nxt S' (h3 S' a b c))))
theorem wp_lc_fix {xs : List D} {Q : Unit → Sto → Prop} (I : List D → Sto → Prop) (start : I [] S)
    (trn : ∀ pre x post S, xs = pre ++ x :: post → I pre S → Wp (turn x) S (fun y S => match y with
      | none => I (pre ++ [x]) S
      | some y => ∃ ys, S[n]? = some (.lst ys) ∧ ys.length < line ∧ ∀ S', Ext (· = n) S S' → S'[n]? = some (.lst (ys ++ [y])) → S'.length = S.length → I (pre ++ [x]) S') E)
    (fin : ∀ S, I xs S → Q () S) : Wp (lcRun turn n (.fix xs)) S Q E :=
  wp_lcFix (pre := []) I (fun pre x post S e => trn pre x post S e) (fun S h => fin S h) start
theorem wp_lcLive {m : Nat} {xs : List D} {Q : Unit → Sto → Prop} (I : List D → Sto → Prop) (hm : ∀ pre S, I pre S → asL S (.loc m) = some xs)
    (trn : ∀ pre x post S, xs = pre ++ x :: post → I pre S → Wp (turn x) S (fun y S => match y with
      | none => I (pre ++ [x]) S
      | some y => ∃ ys, S[n]? = some (.lst ys) ∧ ys.length < line ∧ ∀ S', Ext (· = n) S S' → S'[n]? = some (.lst (ys ++ [y])) → S'.length = S.length → I (pre ++ [x]) S') E)
    (fin : ∀ S, I xs S → Q () S) : ∀ (r i : Nat) {S : Sto}, r = xs.length - i → i ≤ xs.length → I (xs.take i) S → Wp (lcLive turn n m r i) S Q E
  | 0, i, S, hr, hi, h => by
    have e : i = xs.length := by omega
    subst e
    unfold Wp lcLive
    simp only [hm _ _ h, Nat.le_refl, if_true]
    rw [List.take_length] at h
    exact fin S h
  | r + 1, i, S, hr, hi, h => by
    have hlt : i < xs.length := by omega
    have hx : xs[i]? = some xs[i] := List.getElem?_eq_getElem hlt
    have nxt : ∀ S2, I (xs.take i ++ [xs[i]]) S2 → Wp (lcLive turn n m r (i + 1)) S2 Q E := fun S2 h2 => by
      refine wp_lcLive I hm trn fin r (i + 1) (by omega) hlt ?_
      rw [List.take_succ, hx]
      exact h2
    have key : Wp (Ev.bind (turn xs[i]) fun y => Ev.bind (match y with
        | some y => Ev.bind (mthD .append (.loc n) [y]) fun _ => Ev.ret ()
        | none => Ev.ret ()) fun _ => lcLive turn n m r (i + 1)) S Q E := by
      refine wp_bind (wp_mono (trn (xs.take i) xs[i] (xs.drop (i + 1)) S (by rw [← List.drop_eq_getElem_cons hlt, List.take_append_drop]) h) (fun y S z => ?_) fun _ _ h => h)
      cases y with
      | none => exact wp_bind (wp_ret (nxt S z))
      | some y =>
        obtain ⟨ys, h1, h2, h3⟩ := z
        exact wp_bind (wp_bind (wp_append h1 h2 fun S' a b c => wp_ret (nxt S' (h3 S' a b c))))
    unfold Wp
    rw [lcLive]
    simp only [hm _ _ h, hx]
    exact key
theorem wp_lc_live {m : Nat} {xs : List D} {Q : Unit → Sto → Prop} (I : List D → Sto → Prop) (hm : ∀ pre S, I pre S → asL S (.loc m) = some xs) (start : I [] S)
    (trn : ∀ pre x post S, xs = pre ++ x :: post → I pre S → Wp (turn x) S (fun y S => match y with
      | none => I (pre ++ [x]) S
      | some y => ∃ ys, S[n]? = some (.lst ys) ∧ ys.length < line ∧ ∀ S', Ext (· = n) S S' → S'[n]? = some (.lst (ys ++ [y])) → S'.length = S.length → I (pre ++ [x]) S') E)
    (fin : ∀ S, I xs S → Q () S) : Wp (lcRun turn n (.live m)) S Q E := by
  have key := wp_lcLive (E := E) I hm trn fin xs.length 0 (by omega) (by omega) (S := S) (by simpa using start)
  unfold Wp lcRun at *
  simp only [hm _ _ start]
  exact key
end
/-! ### calls -/
section
variable {T : Tb} {F d k : Nat} {xs : List D} {S : Sto} {Q : D → Sto → Prop} {E : D → Sto → Prop}
theorem wp_fn {n m : Nat} {body : List Sm} (hk : T.defs[k]? = some (n, m, body)) (hn : xs.length = n) (hm : n ≤ m)
    (h : Sw (evSs T (callN T F d) F body) (xs.map some ++ List.replicate (m - n) none) S { nx := fun _ S => Q .non S, rt := Q, bk := fun _ _ => False, ct := fun _ _ => False, ex := fun e _ S => E e S }) : Wp (callN T F (d + 1) (.fn k) xs) S Q E := by
  unfold Wp callN
  simp only [hk]
  unfold runDef
  simp only [hn, decide_true, decide_eq_true hm, Bool.and_self]
  unfold Sw at h
  revert h
  cases evSs T (callN T F d) F body (xs.map some ++ List.replicate (m - n) none) S <;> simp only <;> intro h <;> exact h
theorem wp_cl {b : C} {e : En} (h : Wp (evC (callN T F d) b e) S Q E) : Wp (callN T F (d + 1) (.clo b e) []) S Q E := by
  unfold Wp
  rw [callN]
  exact h
end
end QV
set_option maxRecDepth 100000
/-! P1: words, figures, values: what is_word, is_figure, is_value tell. -/
namespace QV
open PySem
local macro_rules | `(tactic| walk_at "qv") => `(tactic| repeat (first
  | with_reducible refine sw_one ?_ | with_reducible refine sw_cons ?_ | with_reducible refine sw_nil ?_ | with_reducible refine sw_ex ?_ | with_reducible refine sw_asg ?_ | with_reducible refine sw_par ?_ | with_reducible refine sw_setI ?_ | with_reducible refine sw_aug ?_
  | with_reducible refine sw_ret ?_ | with_reducible refine sw_ifs ?_ | with_reducible refine sw_brk ?_ | with_reducible refine sw_cnt ?_ | with_reducible refine sw_rai ?_ | with_reducible refine sw_fors ?_
  | with_reducible refine wp_non ?_ | with_reducible refine wp_bl ?_ | with_reducible refine wp_int ?_ | with_reducible refine wp_str ?_ | with_reducible refine wp_bin ?_ | with_reducible refine wp_isN ?_ | with_reducible refine wp_notN ?_
  | ((with_reducible refine wp_cmp ?_ ?_ ?_); (intro h; cases h); (intro h; cases h)) | with_reducible refine wp_nt ?_ | with_reducible refine wp_an ?_ | with_reducible refine wp_orr ?_ | with_reducible refine wp_ife ?_ | with_reducible refine wp_chn ?_
  | with_reducible refine wp_es0 ?_ | with_reducible refine wp_es ?_ | with_reducible refine wp_tup ?_ | with_reducible refine wp_lst ?_ | with_reducible refine wp_idx ?_ | with_reducible refine wp_o0 ?_ | with_reducible refine wp_o1 ?_ | with_reducible refine wp_slc ?_
  | with_reducible refine wp_call ?_ | with_reducible refine wp_callL ?_ | with_reducible refine wp_bi ?_ | with_reducible refine wp_isi ?_ | with_reducible refine wp_mth ?_ | with_reducible refine wp_fld ?_
  | ((with_reducible refine wp_var' ?_); (refine ⟨_, rfl, (by first | assumption | trivial), ?_⟩))))
def SMALL : List Nat := [97, 98, 99, 100, 101, 102, 103, 104, 105, 106, 107, 108, 109, 110, 111, 112, 113, 114, 115, 116, 117, 118, 119, 120, 121, 122]
def FIGS : List Nat := [48, 49, 50, 51, 52, 53, 54, 55, 56, 57]
def isWordS (x : Str) : Bool := !decide (x = ⟨#[]⟩) && x.cps.toList.all fun c => decide (c ∈ SMALL)
def isWord : D → Bool
  | .str x => isWordS x
  | _ => false
def isFig : D → Bool
  | .int i => decide ((if i < 0 then -i else i) < 1000000000000)
  | _ => false
/-- what a value may be that is_word and the like are asked of -/
def Plain (S : Sto) : D → Prop
  | .non | .bl _ | .int _ | .tup _ => True
  | .str x => x.length ≤ line
  | .loc n => ∃ xs, S[n]? = some (.lst xs)
  | _ => False
theorem Plain.nc {S : Sto} {v : D} (h : Plain S v) : NC v := by
  cases v <;> first | trivial | exact h.elim
theorem Plain.ext {S S' : Sto} {v : D} (x : Ex0 S S') (h : Plain S v) : Plain S' v := by
  cases v <;> first | exact h | skip
  obtain ⟨xs, h⟩ := h
  exact ⟨xs, x.keep h⟩
section
variable {F d : Nat} {S : Sto} {Q : D → Sto → Prop} {E : D → Sto → Prop}
theorem wp_eq {x y : D} {b : Bool} (h : eqD S x y = some b) (q : Q (.bl b) S) : Wp (cmD .eq x y) S Q E := wp_optS (o := fun S => (eqD S x y).map D.bl) (by simp [h]) q
theorem wp_ne {x y : D} {b : Bool} (h : eqD S x y = some b) (q : Q (.bl (!b)) S) : Wp (cmD .ne x y) S Q E := wp_optS (o := fun S => (eqD S x y).map fun k => D.bl (!k)) (by simp [h]) q
theorem eqD_str {x y : Str} : eqD S (.str x) (.str y) = some (decide (x = y)) := by
  simp [eqD, asL, D.flat, D.depth, D.beq]
theorem asL_lst {n : Nat} {xs : List D} (h : S[n]? = some (.lst xs)) : asL S (.loc n) = some xs := by simp [asL, h]
theorem asL_ro {n : Nat} {xs : List D} (h : S[n]? = some (.ro xs)) : asL S (.loc n) = some xs := by simp [asL, h]
theorem eqD_nil {n m : Nat} {xs : List D} (h : S[n]? = some (.lst xs)) (h2 : S[m]? = some (.lst [])) : eqD S (.loc n) (.loc m) = some xs.isEmpty := by
  simp only [eqD, asL_lst h, asL_lst h2]
  cases xs <;> simp [eqL, D.flatL, D.depthL, D.beqL]
theorem wp_isin {c : Nat} {cs : List Nat} (h : Q (.bl (decide (c ∈ cs))) S) : Wp (cmD .isin (.str ⟨#[c]⟩) (.str ⟨cs.toArray⟩)) S Q E := h
/-- a comprehension of truths over a text's signs, as all asks -/
def allOf {α : Type} (p : α → Bool) (l : List α) : Bool := l.all p
theorem wp_signs {env : En} {own : List Nat} {tg : Nat} {x : Str} {cs : List Nat} {it : C} (hx : x.length ≤ line) (hv : evC (callN TBx F d) it env = Ev.ret (.str x)) (htg : (wipeD env own)[tg]?.isSome)
    (h : ∀ n S', n ≥ S.length → Ex0 S S' → S'[n]? = some (.lst (x.cps.toList.map fun c => D.bl (decide (c ∈ cs)))) → Q (.loc n) S') :
    Wp (evC (callN TBx F d) (.lc (.cmp .isin (.var tg) (.str ⟨cs.toArray⟩)) own tg .val it none) env) S Q E := by
  refine wp_lc ?_
  rw [hv]
  refine wp_ret ?_
  refine wp_ret ?_
  intro n S' hn x0 h0 l0
  refine wp_lc_fix (I := fun pre S2 => Ext (· = n) S' S2 ∧ ∃ cs0 cs1, x.cps.toList = cs0 ++ cs1 ∧ pre = cs0.map (fun c => D.str ⟨#[c]⟩) ∧ S2[n]? = some (.lst (cs0.map fun c => D.bl (decide (c ∈ cs))))) ⟨Ext.refl, [], x.cps.toList, rfl, rfl, h0⟩ ?_ ?_
  · intro pre y post S2 hsp ⟨x2, cs0, cs1, e1, e2, e3⟩
    subst e2
    have : ∃ c r, cs1 = c :: r ∧ y = .str ⟨#[c]⟩ := by
      rw [e1, List.map_append] at hsp
      have := List.append_cancel_left hsp
      cases cs1 with
      | nil => cases this
      | cons c r =>
        simp at this
        exact ⟨c, r, rfl, this.1.symm⟩
    obtain ⟨c, r, rfl, rfl⟩ := this
    refine wp_noEx (wp_bind (wp_t0 ?_))
    refine wp_bind ?_
    refine wp_cmp (by intro h; cases h) (by intro h; cases h) ?_
    refine wp_var (d := .str ⟨#[c]⟩) ?_ trivial ?_
    · rw [List.getElem?_set_self (by
        cases q : (wipeD env own)[tg]? with
        | none => rw [q] at htg; cases htg
        | some z => exact (List.getElem?_eq_some_iff.mp q).1)]
    refine wp_str ?_
    refine wp_isin ?_
    refine wp_ret ?_
    have hlen : (c :: r).length + cs0.length = x.length := by
      have := congrArg List.length e1
      rw [List.length_append, Array.length_toList] at this
      show _ = x.cps.size
      omega
    refine ⟨_, e3, by rw [List.length_map]; simp at hlen; omega, fun S3 x3 h3 _ => ⟨x2.trans x3, cs0 ++ [c], r, by simp [e1], by simp, by rw [h3]; simp⟩⟩
  · intro S2 ⟨x2, cs0, cs1, e1, e2, e3⟩
    have : cs1 = [] := by
      have := congrArg List.length e2
      rw [e1] at this
      simp at this
      exact this
    subst this
    rw [List.append_nil] at e1
    rw [e1] at h
    exact h n S2 (by omega) ⟨Nat.le_trans x0.len x2.len, fun k hk _ => (x2.get k (Nat.lt_of_lt_of_le hk x0.len) (by omega)).trans (x0.get k hk fun z => z)⟩ e3
theorem bools_map {α : Type} (p : α → Bool) : ∀ l : List α, bools (l.map fun c => D.bl (p c)) = some (l.map p)
  | [] => rfl
  | a :: l => by simp [bools, bools_map p l]
theorem wp_all {n : Nat} {α : Type} {p : α → Bool} {l : List α} (h : S[n]? = some (.lst (l.map fun c => D.bl (p c)))) (q : Q (.bl (l.all p)) S) : Wp (biD .all [.loc n]) S Q E :=
  show Wp (fun S => ofOpt (((asL S (.loc n)).bind bools).map fun bs => D.bl (bs.all id)) S) S Q E from wp_optS (a := .bl (l.all p)) (by simp [asL_lst h, bools_map, List.all_map]) q
theorem word_ok {v : D} (hv : Plain S v) (h : ∀ S', Ex0 S S' → Q (.bl (isWord v)) S') : Wp (callN TBx F (d + 1) (.fn 0) [v]) S Q E := by
  refine wp_fn (n := 1) (m := 3) (body := b0) rfl rfl (by decide) ?_
  have nc := hv.nc
  unfold b0
  walk_at "qv"
  have hf := h S Ext.refl
  cases v with
  | str x =>
    refine ⟨true, rfl, true, rfl, fun _ => ?_, fun z => by cases z⟩
    walk_at "qv"
    refine wp_ne eqD_str ⟨_, rfl, fun hk => ?_, fun hk => ?_⟩
    · walk_at "qv"
      refine wp_signs (x := x) (cs := SMALL) hv ?_ ?_ fun n S' hn x0 hx => ?_
      · simp only [evC]
        rfl
      · rfl
      walk_at "qv"
      refine wp_all hx ?_
      have e : isWord (.str x) = x.cps.toList.all fun c => decide (c ∈ SMALL) := by
        simp only [isWord, isWordS]
        simp only [Bool.not_eq_true', decide_eq_false_iff_not] at hk
        simp [hk]
      rw [← e]
      exact h S' x0
    · have e : isWord (.str x) = false := by
        simp only [isWord, isWordS]
        simp only [Bool.not_eq_false', decide_eq_true_eq] at hk
        simp [hk]
      rw [← e]
      exact hf
  | loc n =>
    obtain ⟨xs, hx⟩ := hv
    exact ⟨false, by simp [isiAny, isiD, hx], false, rfl, fun z => (by cases z), fun _ => hf⟩
  | fn _ => exact hv.elim
  | exc _ _ => exact hv.elim
  | clo _ _ => exact hv.elim
  | _ => exact ⟨false, rfl, false, rfl, fun z => (by cases z), fun _ => hf⟩

theorem fig_ok {v : D} (hv : Plain S v) (h : Q (.bl (isFig v)) S) : Wp (callN TBx F (d + 1) (.fn 1) [v]) S Q E := by
  refine wp_fn (n := 1) (m := 1) (body := b1) rfl rfl (by decide) ?_
  have nc := hv.nc
  unfold b1
  walk_at "qv"
  cases v with
  | int i =>
    refine ⟨true, rfl, true, rfl, fun _ => ?_, fun z => by cases z⟩
    walk_at "qv"
    refine ⟨false, rfl, false, rfl, true, rfl, fun _ => ?_, fun z => by cases z⟩
    walk_at "qv"
    exact h
  | bl b =>
    refine ⟨true, rfl, true, rfl, fun _ => ?_, fun z => by cases z⟩
    walk_at "qv"
    exact ⟨true, rfl, true, rfl, false, rfl, fun z => (by cases z), fun _ => h⟩
  | loc n =>
    obtain ⟨xs, hx⟩ := hv
    exact ⟨false, by simp [isiAny, isiD, hx], false, rfl, fun z => (by cases z), fun _ => h⟩
  | fn _ => exact hv.elim
  | exc _ _ => exact hv.elim
  | clo _ _ => exact hv.elim
  | _ => exact ⟨false, rfl, false, rfl, fun z => (by cases z), fun _ => h⟩
end
/-! ### values -/
def okA : D → Bool
  | .non => true
  | .str x => isWordS x
  | .int i => decide ((if i < 0 then -i else i) < 1000000000000)
  | _ => false
theorem okA_eq (v : D) : okA v = (isNonD v || (isWord v || isFig v)) := by cases v <;> simp [okA, isNonD, isWord, isFig]
def isTup : D → Bool
  | .tup _ => true
  | _ => false
def kids1 : D → List D
  | .tup xs => xs
  | _ => []
def kids (L : List D) : List D := L.flatMap kids1
/-- the layers: m is left -/
def lay : Nat → List D → Bool
  | 0, _ => false
  | m + 1, L => (L.all fun d => (isTup d && decide (0 < m)) || okA d) && ((kids L).isEmpty || lay m (kids L))
def isVal (v : D) : Bool := lay 60 [v]
mutual
/-- how many nodes -/
def D.sz : D → Nat
  | .tup xs => D.szL xs + 1
  | _ => 1
def D.szL : List D → Nat
  | [] => 0
  | a :: as => D.sz a + D.szL as
end
mutual
/-- every node is plain -/
def PlainT (S : Sto) : D → Prop
  | .tup xs => PlainL S xs
  | .non | .bl _ | .int _ => True
  | .str x => x.length ≤ line
  | .loc n => ∃ xs, S[n]? = some (.lst xs)
  | _ => False
def PlainL (S : Sto) : List D → Prop
  | [] => True
  | a :: as => PlainT S a ∧ PlainL S as
end
theorem PlainT.plain {S : Sto} {v : D} (h : PlainT S v) : Plain S v := by
  cases v <;> first | trivial | (simp only [PlainT] at h; exact h)
theorem plainL_iff {S : Sto} : ∀ {L : List D}, PlainL S L ↔ ∀ d ∈ L, PlainT S d
  | [] => by simp [PlainL]
  | a :: as => by simp [PlainL, plainL_iff (L := as)]
mutual
theorem PlainT.ext {S S' : Sto} (x : Ex0 S S') : ∀ {v : D}, PlainT S v → PlainT S' v
  | .tup xs, h => by simp only [PlainT] at h ⊢; exact PlainL.ext x h
  | .non, _ => by simp only [PlainT]
  | .bl _, _ => by simp only [PlainT]
  | .int _, _ => by simp only [PlainT]
  | .str _, h => by simpa only [PlainT] using h
  | .loc n, h => by
    simp only [PlainT] at h ⊢
    obtain ⟨xs, h⟩ := h
    exact ⟨xs, x.keep h⟩
  | .fn _, h => by simp only [PlainT] at h
  | .exc _ _, h => by simp only [PlainT] at h
  | .clo _ _, h => by simp only [PlainT] at h
theorem PlainL.ext {S S' : Sto} (x : Ex0 S S') : ∀ {L : List D}, PlainL S L → PlainL S' L
  | [], _ => by simp only [PlainL]
  | a :: as, h => by
    simp only [PlainL] at h ⊢
    exact ⟨PlainT.ext x h.1, PlainL.ext x h.2⟩
end
theorem plainL_kids {S : Sto} {L : List D} (h : PlainL S L) : PlainL S (kids L) := by
  rw [plainL_iff] at h ⊢
  intro d hd
  obtain ⟨a, ha, hd⟩ := List.mem_flatMap.mp hd
  have := h a ha
  cases a with
  | tup xs =>
    simp only [PlainT] at this
    exact plainL_iff.mp this d hd
  | _ => simp [kids1] at hd
theorem sz_pos (d : D) : 1 ≤ d.sz := by cases d <;> simp [D.sz]
theorem szL_len : ∀ L : List D, L.length ≤ D.szL L
  | [] => by simp
  | a :: as => by
    have := sz_pos a
    have := szL_len as
    simp only [List.length_cons, D.szL]
    omega
theorem szL_app : ∀ (L M : List D), D.szL (L ++ M) = D.szL L + D.szL M
  | [], M => by simp [D.szL]
  | a :: as, M => by simp [D.szL, szL_app as M, Nat.add_assoc]
theorem szL_kids : ∀ L : List D, D.szL (kids L) ≤ D.szL L
  | [] => by simp [kids]
  | a :: as => by
    have ih := szL_kids as
    have e : kids (a :: as) = kids1 a ++ kids as := by simp [kids]
    rw [e, szL_app]
    simp only [D.szL]
    cases a <;> simp only [kids1, D.sz, D.szL] <;> omega
section
variable {F d : Nat} {S : Sto} {Q : D → Sto → Prop} {E : D → Sto → Prop}
theorem wp_extendT {n : Nat} {xs ys : List D} (h : S[n]? = some (.lst xs)) (hl : xs.length + ys.length ≤ line) (q : ∀ S', Ext (· = n) S S' → S'[n]? = some (.lst (xs ++ ys)) → S'.length = S.length → Q .non S') : Wp (mthD .extend (.loc n) [.tup ys]) S Q E := by
  unfold Wp mthD
  simp only [h]
  rw [decide_eq_true hl]
  exact q _ (ext_set fun _ => rfl) (set_at h) (by simp)
theorem wp_chk {m : Mt} {n : Nat} {xs : List D} {Q : Unit → Sto → Prop} (hm : m ≠ .join) (h : S[n]? = some (.lst xs)) (q : Q () S) : Wp (chkM m (.loc n)) S Q E := by
  have e : chkM m (.loc n) S = .ok () S := by
    cases m <;> first | exact absurd rfl hm | (simp only [chkM]; rw [h])
  unfold Wp
  rw [e]
  exact q
theorem wp_itLoc {n : Nat} {xs : List D} {Q : It → Sto → Prop} (h : asL S (.loc n) = some xs) (q : Q (.live n) S) : Wp (itW .val (.loc n)) S Q E := by
  unfold Wp itW itOf
  simp only [h]
  exact q
theorem wp_itRng {j : Nat} {Q : It → Sto → Prop} (h : j < 1000) (q : Q (.fix ((List.range j).map fun i => D.int (i : Nat))) S) : Wp (itW .rng (.int (j : Nat))) S Q E := by
  have e : itW .rng (.int (j : Nat)) = onlyIf (decide (-(2 ^ 62) ≤ (j : Int)) && decide ((j : Int) < 2 ^ 62)) (Ev.ret (.fix ((List.range j).map fun i => D.int (i : Nat)))) := by simp only [itW, itRng, Int.toNat_natCast]
  have e1 : (decide (-(2 ^ 62) ≤ (j : Int)) && decide ((j : Int) < 2 ^ 62)) = true := by
    have h2 : ((2 : Int) ^ 62) = 4611686018427387904 := by rfl
    rw [h2, decide_eq_true (by omega), decide_eq_true (by omega)]
    rfl
  rw [e, e1]
  exact q
theorem split_range {α : Type} {f : Nat → α} {n : Nat} {pre post : List α} {x : α} (h : (List.range n).map f = pre ++ x :: post) : pre.length < n ∧ x = f pre.length ∧ pre = (List.range pre.length).map f := by
  have hl := congrArg List.length h
  simp at hl
  have hk : pre.length < n := by omega
  refine ⟨hk, ?_, ?_⟩
  · have := congrArg (fun l => l[pre.length]?) h
    simp [hk] at this
    exact this.symm
  · have := congrArg (fun l => l.take pre.length) h
    simp at this
    rw [← List.map_take, List.take_range, Nat.min_eq_left (Nat.le_of_lt hk)] at this
    exact this.symm
theorem kids_app (L M : List D) : kids (L ++ M) = kids L ++ kids M := by simp [kids]
theorem isTup_isi {x : D} (h : Plain S x) : isiAny S x [.tuple] = some (isTup x) := by
  cases x <;> first | rfl | exact h.elim | skip
  obtain ⟨xs, h⟩ := h
  simp [isiAny, isiD, h, isTup]
theorem val_ok {v : D} (hv : PlainT S v) (hz : v.sz ≤ line) (h : ∀ S', Ex0 S S' → Q (.bl (isVal v)) S') : Wp (callN TBx F (d + 2) (.fn 2) [v]) S Q E := by
  refine wp_fn (n := 1) (m := 5) (body := b2) rfl rfl (by decide) ?_
  have nc := hv.plain.nc
  unfold b2
  walk_at "qv"
  refine ⟨by simp [line], fun l S1 hl x1 h1 l1 => ?_⟩
  walk_at "qv"
  refine wp_itRng (j := 60) (by decide) ?_
  refine sw_for_fix (I := fun pre env S2 => ∃ (a b c : Option D) (l : Nat) (L : List D), env = [some v, some (.loc l), a, b, c] ∧ S2[l]? = some (.lst L) ∧ PlainL S2 L ∧ D.szL L ≤ line ∧ Ex0 S S2 ∧ S.length ≤ l ∧ isVal v = lay (60 - pre.length) L) ?_ ?_ ?_
  · refine ⟨none, none, none, l, [v], rfl, h1, ?_, ?_, x1, by omega, rfl⟩
    · simp only [PlainL]
      exact ⟨hv.ext x1, True.intro⟩
    · simp [D.szL]
      exact hz
  · rintro pre x post env S2 hsp ⟨a, b, c, l, L, rfl, hL, pL, zL, x2, gl, ev⟩
    obtain ⟨hk, rfl, _⟩ := split_range hsp
    refine ⟨_, rfl, ?_⟩
    walk_at "qv"
    refine ⟨by simp [line], fun r S3 hr x3 h3 l3 => ?_⟩
    walk_at "qv"
    have hLr : l ≠ r := by
      have := lt_of_get hL
      omega
    obtain ⟨m, hm⟩ : ∃ m, 60 - pre.length = m + 1 := ⟨59 - pre.length, by omega⟩
    rw [hm] at ev
    refine wp_itLoc (asL_lst (x3.keep hL)) ?_
    refine sw_for_live (xs := L) (I := fun pr env S4 => ∃ c, env = [some v, some (.loc l), some (.int (pre.length : Nat)), some (.loc r), c] ∧ Ext (· = r) S3 S4 ∧ S4[r]? = some (.lst (kids pr)) ∧ (pr.all fun d => (isTup d && decide (0 < m)) || okA d) = true) ?_ ?_ ?_ ?_
    · rintro pr env S4 ⟨c, rfl, x4, h4, _⟩
      exact asL_lst (x4.at (x3.keep hL) hLr)
    · exact ⟨_, rfl, Ext.refl, h3, rfl⟩
    · rintro pr x po env S4 hsp2 ⟨c, rfl, x4, h4, al⟩
      refine ⟨_, rfl, ?_⟩
      have x14 : Ex0 S S4 := ⟨Nat.le_trans x2.len (Nat.le_trans x3.len x4.len), fun n hn _ => by
        rw [x4.get n (Nat.lt_of_lt_of_le hn (Nat.le_trans x2.len x3.len)) (by have := x2.len; omega), x3.get n (Nat.lt_of_lt_of_le hn x2.len) (fun z => z), x2.get n hn fun z => z]⟩
      have x24 : Ex0 S2 S4 := ⟨Nat.le_trans x3.len x4.len, fun n hn _ => by
        rw [x4.get n (Nat.lt_of_lt_of_le hn x3.len) (by omega), x3.get n hn (fun z => z)]⟩
      have px : PlainT S4 x := (plainL_iff.mp pL x (by rw [hsp2]; simp)).ext x24
      have ncx := px.plain.nc
      have all1 : ((pr ++ [x]).all fun d => (isTup d && decide (0 < m)) || okA d) = ((isTup x && decide (0 < m)) || okA x) := by
        rw [List.all_append, al]
        simp
      have bad : ((isTup x && decide (0 < m)) || okA x) = false → isVal v = false := fun z => by
        rw [ev, lay]
        have : (L.all fun d => (isTup d && decide (0 < m)) || okA d) = false := by
          rw [hsp2, List.all_append, List.all_cons, z]
          simp
        rw [this, Bool.false_and]
      have len : (kids pr).length + (kids1 x).length ≤ line := by
        have a1 := szL_len (kids pr ++ kids1 x)
        have a2 := szL_kids L
        have a3 : kids L = (kids pr ++ kids1 x) ++ kids po := by
          rw [hsp2]
          simp [kids]
        rw [a3, szL_app] at a2
        rw [List.length_append] at a1
        omega
      have key : ∀ {P : Po}, (isTup x && decide (0 < m)) = false → (∀ S5, Ex0 S4 S5 → okA x = true → P.nx [some v, some (.loc l), some (.int (pre.length : Nat)), some (.loc r), some x] S5) → (∀ S5, okA x = false → Ex0 S4 S5 → P.rt (.bl false) S5) →
          Sw (evSs TBx (callN TBx F (d + 1)) F [(.ifs (.an (.cmp .notN (.var 4) .non) (.an (.nt (.call 0 [(.var 4)])) (.nt (.call 1 [(.var 4)])))) [(.ret (.bl false))] [])]) [some v, some (.loc l), some (.int (pre.length : Nat)), some (.loc r), some x] S4 P := by
        intro P z k1 k2
        walk_at "qv"
        refine ⟨_, rfl, fun q1 => ?_, fun q1 => ?_⟩
        · walk_at "qv"
          refine word_ok px.plain fun S5 x5 => ?_
          refine ⟨_, rfl, _, rfl, fun q2 => ?_, fun q2 => ?_⟩
          · walk_at "qv"
            refine fig_ok (px.plain.ext x5) ?_
            refine ⟨_, rfl, _, rfl, fun q3 => ?_, fun q3 => ?_⟩
            · walk_at "qv"
              refine k2 S5 ?_ x5
              rw [okA_eq]
              simp only [Bool.not_eq_true'] at q1 q2 q3
              rw [q1, q2, q3]
              rfl
            · walk_at "qv"
              refine k1 S5 x5 ?_
              rw [okA_eq]
              simp only [Bool.not_eq_false'] at q3
              rw [q3]
              simp
          · refine ⟨_, rfl, fun q3 => (by cases q3), fun _ => ?_⟩
            walk_at "qv"
            refine k1 S5 x5 ?_
            rw [okA_eq]
            simp only [Bool.not_eq_false'] at q2
            rw [q2]
            simp
        · refine ⟨_, rfl, fun q3 => (by cases q3), fun _ => ?_⟩
          walk_at "qv"
          refine k1 S4 Ext.refl ?_
          rw [okA_eq]
          simp only [Bool.not_eq_false'] at q1
          rw [q1]
          simp
      have fin1 : ∀ S5, Ex0 S4 S5 → okA x = true → (isTup x && decide (0 < m)) = false → Ext (· = r) S3 S5 ∧ S5[r]? = some (.lst (kids (pr ++ [x]))) ∧ ((pr ++ [x]).all fun d => (isTup d && decide (0 < m)) || okA d) = true := fun S5 x5 ok z => by
        refine ⟨x4.trans x5.to, ?_, by rw [all1, ok]; simp⟩
        have e1 : kids1 x = [] := by cases x <;> first | rfl | cases ok
        rw [kids_app, show kids [x] = kids1 x by simp [kids], e1, List.append_nil]
        exact x5.keep h4
      have fin2 : ∀ S5, okA x = false → (isTup x && decide (0 < m)) = false → Ex0 S4 S5 → Q (.bl false) S5 := fun S5 ok z x5 => by
        have := h S5 (x14.trans x5)
        rw [bad (by rw [ok, z]; rfl)] at this
        exact this
      walk_at "qv"
      refine ⟨isTup x, isTup_isi px.plain, isTup x, rfl, fun ht => ?_, fun ht => ?_⟩
      · walk_at "qv"
        refine ⟨_, rfl, fun hk2 => ?_, fun hk2 => ?_⟩
        · cases x with
          | tup xs =>
            walk_at "qv"
            refine wp_chk (by intro h; cases h) h4 ?_
            walk_at "qv"
            refine wp_extendT h4 len fun S5 x5 h5 _ => ?_
            refine ⟨_, rfl, x4.trans x5, by rw [h5]; simp [kids, kids1], ?_⟩
            rw [all1]
            simp only [decide_eq_true_eq] at hk2
            have : decide (0 < m) = true := decide_eq_true (by omega)
            simp [isTup, this]
          | _ => cases ht
        · have z : (isTup x && decide (0 < m)) = false := by
            simp only [decide_eq_false_iff_not] at hk2
            have : decide (0 < m) = false := decide_eq_false (by omega)
            rw [this, Bool.and_false]
          exact key z (fun S5 x5 ok => ⟨_, rfl, fin1 S5 x5 ok z⟩) fun S5 ok x5 => fin2 S5 ok z x5
      · have z : (isTup x && decide (0 < m)) = false := by rw [ht]; rfl
        exact ⟨_, rfl, fun q => (by cases q), fun _ => key z (fun S5 x5 ok => ⟨_, rfl, fin1 S5 x5 ok z⟩) fun S5 ok x5 => fin2 S5 ok z x5⟩
    · rintro env S4 ⟨c, rfl, x4, h4, al⟩
      have x24 : Ex0 S2 S4 := ⟨Nat.le_trans x3.len x4.len, fun n hn _ => by
        rw [x4.get n (Nat.lt_of_lt_of_le hn x3.len) (by omega), x3.get n hn (fun z => z)]⟩
      have x14 : Ex0 S S4 := x2.trans x24
      walk_at "qv"
      refine ⟨by simp [line], fun r2 S5 hr2 x5 h5 l5 => ?_⟩
      refine wp_eq (eqD_nil (x5.keep h4) h5) ?_
      refine ⟨_, rfl, fun q => ?_, fun q => ?_⟩
      · walk_at "qv"
        have := h S5 (x14.trans x5)
        rw [ev, lay, al, q] at this
        exact this
      · walk_at "qv"
        refine ⟨_, _, _, r, kids L, rfl, x5.keep h4, plainL_kids (pL.ext (x24.trans x5)), Nat.le_trans (szL_kids L) zL, x14.trans x5, ?_, ?_⟩
        · have := x2.len
          omega
        · rw [ev, lay, al, q]
          rw [List.length_append, show 60 - (pre.length + [D.int ↑pre.length].length) = m by simp; omega]
          rfl
  · rintro env S2 ⟨a, b, c, l, L, rfl, hL, pL, zL, x2, gl, ev⟩
    walk_at "qv"
    have := h S2 x2
    rw [ev] at this
    simp only [List.length_map, List.length_range, Nat.sub_self, lay] at this
    exact this
end
end QV
set_option maxRecDepth 100000
/-! P2: what value_text tells. -/
namespace QV
open PySem
local macro_rules | `(tactic| walk_at "qv") => `(tactic| repeat (first
  | with_reducible refine sw_one ?_ | with_reducible refine sw_cons ?_ | with_reducible refine sw_nil ?_ | with_reducible refine sw_ex ?_ | with_reducible refine sw_asg ?_ | with_reducible refine sw_par ?_ | with_reducible refine sw_setI ?_ | with_reducible refine sw_aug ?_
  | with_reducible refine sw_ret ?_ | with_reducible refine sw_ifs ?_ | with_reducible refine sw_brk ?_ | with_reducible refine sw_cnt ?_ | with_reducible refine sw_rai ?_ | with_reducible refine sw_fors ?_
  | with_reducible refine wp_non ?_ | with_reducible refine wp_bl ?_ | with_reducible refine wp_int ?_ | with_reducible refine wp_str ?_ | with_reducible refine wp_bin ?_ | with_reducible refine wp_isN ?_ | with_reducible refine wp_notN ?_
  | ((with_reducible refine wp_cmp ?_ ?_ ?_); (intro h; cases h); (intro h; cases h)) | with_reducible refine wp_nt ?_ | with_reducible refine wp_an ?_ | with_reducible refine wp_orr ?_ | with_reducible refine wp_ife ?_ | with_reducible refine wp_chn ?_
  | with_reducible refine wp_es0 ?_ | with_reducible refine wp_es ?_ | with_reducible refine wp_tup ?_ | with_reducible refine wp_lst ?_ | with_reducible refine wp_idx ?_ | with_reducible refine wp_o0 ?_ | with_reducible refine wp_o1 ?_ | with_reducible refine wp_slc ?_
  | with_reducible refine wp_call ?_ | with_reducible refine wp_callL ?_ | with_reducible refine wp_bi ?_ | with_reducible refine wp_isi ?_ | with_reducible refine wp_mth ?_ | with_reducible refine wp_fld ?_
  | ((with_reducible refine wp_var' ?_); (refine ⟨_, rfl, (by first | assumption | trivial), ?_⟩))))

mutual
/-- good atoms throughout -/
def D.good : D → Bool
  | .tup xs => D.goodL xs
  | .non => true
  | .str x => isWordS x
  | .int i => decide ((if i < 0 then -i else i) < 1000000000000)
  | _ => false
def D.goodL : List D → Bool
  | [] => true
  | a :: as => D.good a && D.goodL as
end
theorem goodL_app : ∀ L M : List D, D.goodL (L ++ M) = (D.goodL L && D.goodL M)
  | [], M => by simp [D.goodL]
  | a :: as, M => by simp [D.goodL, goodL_app as M, Bool.and_assoc]
theorem goodL_mem : ∀ {L : List D}, D.goodL L = true ↔ ∀ d ∈ L, d.good = true
  | [] => by simp [D.goodL]
  | a :: as => by simp [D.goodL, goodL_mem (L := as)]
theorem depthL_app : ∀ L M : List D, D.depthL (L ++ M) = max (D.depthL L) (D.depthL M)
  | [], M => by simp [D.depthL]
  | a :: as, M => by simp [D.depthL, depthL_app as M, Nat.max_assoc]
theorem good_1 (a : D) : a.good = ((isTup a || okA a) && D.goodL (kids1 a)) := by
  cases a <;> simp [D.good, isTup, okA, kids1, D.goodL]
theorem goodL_step : ∀ L : List D, D.goodL L = ((L.all fun d => isTup d || okA d) && D.goodL (kids L))
  | [] => rfl
  | a :: as => by
    have e : kids (a :: as) = kids1 a ++ kids as := by simp [kids]
    rw [e, goodL_app, List.all_cons, D.goodL, goodL_step as, good_1 a]
    cases (isTup a || okA a) <;> cases D.goodL (kids1 a) <;> cases (as.all fun d => isTup d || okA d) <;> cases D.goodL (kids as) <;> rfl
theorem depth_1 (a : D) (m : Nat) : a.depth ≤ m + 1 ↔ D.depthL (kids1 a) ≤ m := by
  cases a <;> simp [D.depth, kids1, D.depthL]
theorem depthL_step : ∀ (L : List D) (m : Nat), D.depthL L ≤ m + 1 ↔ D.depthL (kids L) ≤ m
  | [], m => by simp [kids, D.depthL]
  | a :: as, m => by
    have e : kids (a :: as) = kids1 a ++ kids as := by simp [kids]
    rw [e, depthL_app, D.depthL, Nat.max_le, Nat.max_le, depth_1, depthL_step as]
theorem depthL_zero : ∀ (L : List D), D.depthL L = 0 ↔ (L.all fun d => !isTup d) = true
  | [] => by simp [D.depthL]
  | a :: as => by
    have ih := depthL_zero as
    have e : max a.depth (D.depthL as) = 0 ↔ a.depth = 0 ∧ D.depthL as = 0 := by omega
    rw [D.depthL, List.all_cons, Bool.and_eq_true, ← ih, e]
    cases a <;> simp [D.depth, isTup]
theorem kids_nil : ∀ {L : List D}, (L.all fun d => !isTup d) = true → kids L = []
  | [], _ => rfl
  | a :: as, h => by
    have e : kids (a :: as) = kids1 a ++ kids as := by simp [kids]
    rw [List.all_cons, Bool.and_eq_true] at h
    rw [e, kids_nil h.2]
    cases a <;> first | rfl | cases h.1
theorem okA_tup {a : D} (h : okA a = true) : isTup a = false := by cases a <;> first | rfl | cases h
theorem lay_iff : ∀ (m : Nat) (L : List D), lay (m + 1) L = true ↔ (D.goodL L = true ∧ D.depthL L ≤ m)
  | 0, L => by
    rw [lay, goodL_step, Nat.le_zero, depthL_zero]
    simp only [Nat.lt_irrefl, decide_false, Bool.and_false, Bool.false_or, Bool.and_eq_true, Bool.or_eq_true, List.all_eq_true]
    constructor
    · rintro ⟨h1, _⟩
      have nt : (L.all fun d => !isTup d) = true := List.all_eq_true.mpr fun d hd => by rw [okA_tup (h1 d hd)]; rfl
      exact ⟨⟨fun d hd => .inr (h1 d hd), by rw [kids_nil nt]; rfl⟩, List.all_eq_true.mp nt⟩
    · rintro ⟨⟨h1, _⟩, h3⟩
      refine ⟨fun d hd => ?_, .inl (by rw [kids_nil (List.all_eq_true.mpr h3)]; rfl)⟩
      have a := h1 d hd
      have b := h3 d hd
      rcases a with a | a
      · rw [a] at b
        cases b
      · exact a
  | m + 1, L => by
    rw [lay, goodL_step, depthL_step]
    have ih := lay_iff m (kids L)
    have e : decide (0 < m + 1) = true := by simp
    simp only [e, Bool.and_true, Bool.and_eq_true, Bool.or_eq_true, ih]
    constructor
    · rintro ⟨h1, h2 | h2⟩
      · have : kids L = [] := by simpa using h2
        rw [this]
        exact ⟨⟨h1, rfl⟩, by simp [D.depthL]⟩
      · exact ⟨⟨h1, h2.1⟩, h2.2⟩
    · rintro ⟨⟨h1, h2⟩, h3⟩
      exact ⟨h1, .inr ⟨h2, h3⟩⟩
theorem isVal_iff (v : D) : isVal v = true ↔ (v.good = true ∧ v.depth ≤ 59) := by
  unfold isVal
  rw [lay_iff]
  simp [D.goodL, D.depthL]
mutual
/-- a value as it is written -/
def D.vt : D → List Nat
  | .non => [45]
  | .int i => (PySem.Str.ofString (toString i)).cps.toList
  | .str x => x.cps.toList
  | .tup xs => 40 :: (D.vtL xs ++ [41])
  | _ => []
def D.vtL : List D → List Nat
  | [] => []
  | a :: r => D.vt a ++ D.vtR r
/-- each behind a blank -/
def D.vtR : List D → List Nat
  | [] => []
  | a :: r => 32 :: (D.vt a ++ D.vtR r)
end
mutual
/-- turns of the walk -/
def D.mu : D → Nat
  | .tup xs => D.muL xs + 3
  | _ => 1
def D.muL : List D → Nat
  | [] => 0
  | a :: as => D.mu a + 1 + D.muL as
end
mutual
theorem mu_le : ∀ d : D, d.mu + 2 ≤ 5 * d.sz
  | .tup xs => by
    have := muL_le xs
    simp only [D.mu, D.sz]
    omega
  | .non | .bl _ | .int _ | .str _ | .loc _ | .fn _ | .exc _ _ | .clo _ _ => by simp [D.mu, D.sz]
theorem muL_le : ∀ L : List D, D.muL L ≤ 5 * D.szL L
  | [] => by simp [D.muL]
  | a :: as => by
    have := mu_le a
    have := muL_le as
    have := sz_pos a
    simp only [D.muL, D.szL]
    omega
end

/-- what stands on the stack of value_text: a value, a sign in a list -/
inductive SI where
  | v (d : D) | m (n : Nat) (x : Nat)
def SI.d : SI → D
  | .v d => d
  | .m n _ => .loc n
def SI.t : SI → List Nat
  | .v d => d.vt
  | .m _ x => [x]
def SI.mu : SI → Nat
  | .v d => d.mu
  | .m _ _ => 1
def SI.ok (B : Nat) (l : Nat) (S : Sto) : SI → Prop
  | .v d => d.good = true
  | .m n x => B ≤ n ∧ n ≠ l ∧ S[n]? = some (.lst [.str ⟨#[x]⟩])
theorem SI.ok.mono {B l : Nat} {S S' : Sto} {M : Nat → Prop} {i : SI} (h : i.ok B l S) (x : Ext M S S') (hM : ∀ n, B ≤ n → n ≠ l → ¬ M n) : i.ok B l S' := by
  cases i with
  | v d => exact h
  | m n y => exact ⟨h.1, h.2.1, x.at h.2.2 (hM n h.1 h.2.1)⟩
theorem good_nc {d : D} (h : d.good = true) : NC d := by cases d <;> first | trivial | cases h
def stT (is : List SI) : List Nat := is.flatMap SI.t
def stM (is : List SI) : Nat := (is.map SI.mu).sum
theorem enumF_split : ∀ {l : List D} {i : Nat} {pre post : List D} {x : D}, enumF i l = pre ++ x :: post → ∃ y l1 l2, l = l1 ++ y :: l2 ∧ l1.length = pre.length ∧ x = .tup [.int ((i + pre.length : Nat) : Int), y]
  | [], _, pre, post, x, h => by cases pre <;> cases h
  | a :: l, i, [], post, x, h => by
    simp only [enumF, List.nil_append, List.cons.injEq] at h
    exact ⟨a, [], l, rfl, rfl, by rw [← h.1]; rfl⟩
  | a :: l, i, p :: pre, post, x, h => by
    simp only [enumF, List.cons_append, List.cons.injEq] at h
    obtain ⟨y, l1, l2, e1, e2, e3⟩ := enumF_split h.2
    refine ⟨y, a :: l1, l2, by rw [e1]; rfl, by simp [e2], ?_⟩
    rw [e3, List.length_cons]
    congr 3
    omega
theorem enumF_length : ∀ (l : List D) (i : Nat), (enumF i l).length = l.length
  | [], _ => rfl
  | a :: l, i => by simp [enumF, enumF_length l]
theorem vtL_ne {l : List D} (h : l ≠ []) (a : D) : D.vtL (a :: l) = a.vt ++ D.vtR l := rfl
section
variable {F d : Nat} {S : Sto} {Q : D → Sto → Prop} {E : D → Sto → Prop}
theorem wp_extendL {n m : Nat} {xs ys : List D} (h : S[n]? = some (.lst xs)) (h2 : S[m]? = some (.lst ys)) (hl : xs.length + ys.length ≤ line) (q : ∀ S', Ext (· = n) S S' → S'[n]? = some (.lst (xs ++ ys)) → S'.length = S.length → Q .non S') : Wp (mthD .extend (.loc n) [.loc m]) S Q E := by
  unfold Wp mthD
  simp only [h, h2]
  rw [decide_eq_true hl]
  exact q _ (ext_set fun _ => rfl) (set_at h) (by simp)
theorem wp_pop {n : Nat} {xs : List D} {y : D} (h : S[n]? = some (.lst (xs ++ [y]))) (q : ∀ S', Ext (· = n) S S' → S'[n]? = some (.lst xs) → S'.length = S.length → Q y S') : Wp (mthD .pop (.loc n) []) S Q E := by
  unfold Wp mthD
  have e : (xs ++ [y])[(xs ++ [y]).length - 1]? = some y := by simp
  simp only [h, e, List.dropLast_concat]
  exact q _ (ext_set fun _ => rfl) (set_at h) (by simp)
theorem wp_idxL {n : Nat} {xs : List D} {i : Int} {y : D} (h : asL S (.loc n) = some xs) (e : atD xs i = some y) (q : Q y S) : Wp (idxD (.loc n) (.int i)) S Q E :=
  show Wp (fun S => ofOpt ((asL S (.loc n)).bind fun xs => atD xs i) S) S Q E from wp_optS (by simp [h, e]) q
theorem eqD_int {i j : Int} : eqD S (.int i) (.int j) = some (decide (i = j)) := by
  simp [eqD, asL, D.flat, D.depth, D.beq]
theorem strsOf_map : ∀ l : List Str, strsOf (l.map D.str) = some l
  | [] => rfl
  | a :: l => by simp [strsOf, strsOf_map l]
theorem wp_join {x : Str} {n : Nat} {ys : List Str} (h : asL S (.loc n) = some (ys.map D.str)) (hl : joinCost x ys ≤ line) (q : Q (.str (joinD x ys)) S) : Wp (mthD .join (.str x) [.loc n]) S Q E := by
  unfold Wp mthD
  have e : (asL S (.loc n)).bind strsOf = some ys := by rw [h, Option.bind_some, strsOf_map]
  simp only [e]
  rw [decide_eq_true hl]
  exact q
theorem len_append (a b : Str) : (a ++ b).length = a.length + b.length := by
  show (a.cps ++ b.cps).size = _
  rw [Array.size_append]
  rfl
theorem joinCost_nil : ∀ ys : List Str, joinCost ⟨#[]⟩ ys = (ys.flatMap fun y => y.cps.toList).length
  | [] => rfl
  | y :: ys => by
    rw [joinCost, joinCost_nil ys, List.flatMap_cons, List.length_append, Array.length_toList]
    show y.length + 0 + _ = y.cps.size + _
    rw [Nat.add_zero]
    rfl
theorem intercalate_nil : ∀ L : List (List Nat), ([] : List Nat).intercalate L = L.flatten
  | [] => rfl
  | [a] => by simp
  | a :: b :: r => by
    have ih := intercalate_nil (b :: r)
    simp only [List.intercalate] at ih ⊢
    rw [List.intersperse_cons_cons]
    simp [ih]
theorem joinD_nil (ys : List Str) : joinD ⟨#[]⟩ ys = ⟨(ys.flatMap fun y => y.cps.toList).toArray⟩ := by
  unfold joinD
  rw [show ((⟨#[]⟩ : Str).cps.toList) = [] from rfl, intercalate_nil, ← List.flatMap_def]
def nt0 : D := .exc 13 [(⟨#[108, 105, 110, 101]⟩, .int 0)]
theorem log_lt {i : Int} (h : (if i < 0 then -i else i) < 1000000000000) : i.natAbs.log2 < 1920 := by
  have h1 : i.natAbs < 1000000000000 := by
    split at h <;> omega
  have h2 : i.natAbs < 2 ^ 1920 := Nat.lt_of_lt_of_le h1 (by decide)
  by_cases z : i.natAbs = 0
  · rw [z]
    decide
  · exact (Nat.log2_lt z).mpr h2
end

section
variable {S : Sto} {Q : D → Sto → Prop} {E : D → Sto → Prop}
theorem wp_lenT {xs : List D} (h : Q (.int xs.length) S) : Wp (biD .len [.tup xs]) S Q E := h
theorem wp_addI {i j : Int} (h : Q (.int (i + j)) S) : Wp (opD .add (.int i) (.int j)) S Q E := h
theorem wp_subI {i j : Int} (h : Q (.int (i - j)) S) : Wp (opD .sub (.int i) (.int j)) S Q E := h
theorem wp_ltI {i j : Int} (h : Q (.bl (decide (i < j))) S) : Wp (cmD .lt (.int i) (.int j)) S Q E := h
theorem wp_leI {i j : Int} (h : Q (.bl (decide (i ≤ j))) S) : Wp (cmD .le (.int i) (.int j)) S Q E := h
theorem wp_gtI {i j : Int} (h : Q (.bl (decide (j < i))) S) : Wp (cmD .gt (.int i) (.int j)) S Q E := h
theorem wp_geI {i j : Int} (h : Q (.bl (decide (j ≤ i))) S) : Wp (cmD .ge (.int i) (.int j)) S Q E := h
theorem wp_eqI {i j : Int} (h : Q (.bl (decide (i = j))) S) : Wp (cmD .eq (.int i) (.int j)) S Q E := wp_eq eqD_int h
theorem wp_eqS {i j : Str} (h : Q (.bl (decide (i = j))) S) : Wp (cmD .eq (.str i) (.str j)) S Q E := wp_eq eqD_str h
theorem wp_neS {i j : Str} (h : Q (.bl (!decide (i = j))) S) : Wp (cmD .ne (.str i) (.str j)) S Q E := wp_ne eqD_str h
theorem wp_intI {i : Int} (h : Q (.int i) S) : Wp (biD .int [.int i]) S Q E := h
theorem wp_absI {i : Int} (h : Q (.int (if i < 0 then -i else i)) S) : Wp (biD .abs [.int i]) S Q E := h
theorem wp_strS {x : Str} (h : Q (.str x) S) : Wp (biD .str [.str x]) S Q E := h
end
end QV
set_option maxRecDepth 100000
set_option maxHeartbeats 1000000
/-! P3: the walk of value_text. -/
namespace QV
open PySem
local macro_rules | `(tactic| walk_at "qv") => `(tactic| repeat (first
  | with_reducible refine sw_one ?_ | with_reducible refine sw_cons ?_ | with_reducible refine sw_nil ?_ | with_reducible refine sw_ex ?_ | with_reducible refine sw_asg ?_ | with_reducible refine sw_par ?_ | with_reducible refine sw_setI ?_ | with_reducible refine sw_aug ?_
  | with_reducible refine sw_ret ?_ | with_reducible refine sw_ifs ?_ | with_reducible refine sw_brk ?_ | with_reducible refine sw_cnt ?_ | with_reducible refine sw_rai ?_ | with_reducible refine sw_fors ?_
  | with_reducible refine wp_non ?_ | with_reducible refine wp_bl ?_ | with_reducible refine wp_int ?_ | with_reducible refine wp_str ?_ | with_reducible refine wp_bin ?_ | with_reducible refine wp_isN ?_ | with_reducible refine wp_notN ?_
  | ((with_reducible refine wp_cmp ?_ ?_ ?_); (intro h; cases h); (intro h; cases h)) | with_reducible refine wp_nt ?_ | with_reducible refine wp_an ?_ | with_reducible refine wp_orr ?_ | with_reducible refine wp_ife ?_ | with_reducible refine wp_chn ?_
  | with_reducible refine wp_es0 ?_ | with_reducible refine wp_es ?_ | with_reducible refine wp_tup ?_ | with_reducible refine wp_lst ?_ | with_reducible refine wp_idx ?_ | with_reducible refine wp_o0 ?_ | with_reducible refine wp_o1 ?_ | with_reducible refine wp_slc ?_
  | with_reducible refine wp_call ?_ | with_reducible refine wp_callL ?_ | with_reducible refine wp_bi ?_ | with_reducible refine wp_isi ?_ | with_reducible refine wp_mth ?_ | with_reducible refine wp_fld ?_
  | with_reducible refine wp_lenT ?_ | with_reducible refine wp_addI ?_ | with_reducible refine wp_subI ?_ | with_reducible refine wp_ltI ?_ | with_reducible refine wp_leI ?_ | with_reducible refine wp_gtI ?_ | with_reducible refine wp_geI ?_ | with_reducible refine wp_eqI ?_
  | with_reducible refine wp_eqS ?_ | with_reducible refine wp_neS ?_ | with_reducible refine wp_intI ?_ | with_reducible refine wp_absI ?_ | with_reducible refine wp_strS ?_
  | ((with_reducible refine wp_var' ?_); (refine ⟨_, rfl, (by first | assumption | trivial), ?_⟩))))
structure VI (v : D) (S : Sto) (f l : Nat) (fs : List Str) (is : List SI) (S2 : Sto) : Prop where
  x : Ex0 S S2
  gf : S.length ≤ f
  fl : f < l
  hf : S2[f]? = some (.lst (fs.map D.str))
  hl : S2[l]? = some (.lst ((is.map SI.d).reverse))
  ok : ∀ i ∈ is, i.ok (l + 1) l S2
section
variable {v : D} {S S2 S3 : Sto} {f l : Nat} {fs : List Str} {is : List SI}
theorem VI.new (h : VI v S f l fs is S2) (x : Ex0 S2 S3) : VI v S f l fs is S3 :=
  ⟨h.x.trans x, h.gf, h.fl, x.keep h.hf, x.keep h.hl, fun i hi => (h.ok i hi).mono x fun _ _ _ z => z⟩
theorem VI.setL (h : VI v S f l fs is S2) (x : Ext (· = l) S2 S3) {is' : List SI} (hl : S3[l]? = some (.lst ((is'.map SI.d).reverse))) (ok : ∀ i ∈ is', i ∈ is ∨ i.ok (l + 1) l S2) : VI v S f l fs is' S3 :=
  ⟨h.x.trans' x fun n hn e => by have := h.gf; have := h.fl; omega, h.gf, h.fl, x.at h.hf (by have := h.fl; omega), hl, fun i hi => ((ok i hi).elim (h.ok i) id).mono x fun n _ h2 => h2⟩
theorem VI.setF (h : VI v S f l fs is S2) (x : Ext (· = f) S2 S3) {fs' : List Str} (hf : S3[f]? = some (.lst (fs'.map D.str))) : VI v S f l fs' is S3 :=
  ⟨h.x.trans' x fun n hn e => by have := h.gf; omega, h.gf, h.fl, hf, x.at h.hl (by have := h.fl; omega), fun i hi => (h.ok i hi).mono x fun n h1 h2 => by have := h.fl; omega⟩
theorem stM_cons (i : SI) (is : List SI) : stM (i :: is) = i.mu + stM is := by simp [stM]
theorem stT_cons (i : SI) (is : List SI) : stT (i :: is) = i.t ++ stT is := by simp [stT]
theorem SI.pos (i : SI) : 1 ≤ i.mu := by
  cases i with
  | v d => cases d <;> simp [SI.mu, D.mu]
  | m _ _ => simp [SI.mu]
theorem stM_len : ∀ is : List SI, is.length ≤ stM is
  | [] => by simp
  | i :: is => by
    have := stM_len is
    have := i.pos
    rw [stM_cons, List.length_cons]
    omega
theorem muL_app_le : ∀ M L : List D, D.muL L ≤ D.muL (M ++ L)
  | [], L => by simp
  | a :: M, L => by
    have := muL_app_le M L
    simp only [List.cons_append, D.muL]
    omega
theorem tup_kid {xs l1 l2 : List D} {y : D} (h : xs.reverse = l1 ++ y :: l2) : xs = l2.reverse ++ y :: l1.reverse := by
  have := congrArg List.reverse h
  simpa using this
end
section
variable {F d : Nat} {S : Sto} {Q : D → Sto → Prop} {E : D → Sto → Prop}
theorem isi_good {x : D} (h : x.good = true) (t : Ty) (ht : t = .list ∨ t = .tuple) : isiAny S x [t] = some (isTup x && decide (t = .tuple)) := by
  rcases ht with rfl | rfl <;> cases x <;> first | rfl | cases h
theorem vtext_ok {v : D} (hv : PlainT S v) (hz : 5 * v.sz ≤ F) (hF : F ≤ line) (ht : isVal v = true → v.vt.length ≤ line)
    (h1 : isVal v = true → ∀ S', Ex0 S S' → Q (.str ⟨v.vt.toArray⟩) S') (h2 : isVal v = false → ∀ S', Ex0 S S' → E nt0 S') : Wp (callN TBx F (d + 3) (.fn 3) [v]) S Q E := by
  refine wp_fn (n := 1) (m := 6) (body := b3) rfl rfl (by decide) ?_
  have nc := hv.plain.nc
  have hmu := mu_le v
  unfold b3
  walk_at "qv"
  refine val_ok hv (by omega) fun S0 x0 => ?_
  refine ⟨_, rfl, _, rfl, fun q => ?_, fun q => ?_⟩
  · walk_at "qv"
    exact ⟨nt0, rfl, h2 (by simpa using q) S0 x0⟩
  simp only [Bool.not_eq_false'] at q
  have hgood := ((isVal_iff v).mp q).1
  have ht := ht q
  have h1 := h1 q
  walk_at "qv"
  refine ⟨by simp [line], fun f S1 e1 x1 hf l1 => ?_⟩
  walk_at "qv"
  refine ⟨by simp [line], fun l S2 e2 x2 hl l2 => ?_⟩
  refine sw_cons (sw_whl (n := stM [.v v]) (I := fun n env S2 => ∃ fs is a b c, env = [some v, some (.loc f), some (.loc l), a, b, c] ∧ VI v S f l fs is S2 ∧ n = stM is ∧ (fs.flatMap fun y => y.cps.toList) ++ stT is = v.vt ∧ fs.length + stM is ≤ v.mu) ?_ ?_ ?_)
  · rintro n env S3 ⟨fs, is, a, b, c, rfl, V, rfl, ht3, hm3⟩
    walk_at "qv"
    refine ⟨by simp [line], fun e S4 e4 x4 h4 l4 => ?_⟩
    have V := V.new x4
    refine wp_ne (eqD_nil V.hl h4) ?_
    refine ⟨_, rfl, fun k => ?_, fun k => ?_⟩
    · cases is with
      | nil => cases k
      | cons i is =>
        have V1 : ∀ {S5}, Ext (· = l) S4 S5 → S5[l]? = some (.lst ((is.map SI.d).reverse)) → VI v S f l fs is S5 := fun x5 h5 => V.setL x5 h5 fun i hi => .inl (List.mem_cons_of_mem _ hi)
        have hl4 := V.hl
        rw [List.map_cons, List.reverse_cons] at hl4
        have iok := V.ok i (List.mem_cons_self ..)
        have nci : NC i.d := by
          cases i with
          | v d => exact good_nc iok
          | m _ _ => trivial
        rw [stT_cons] at ht3
        rw [stM_cons] at hm3 ⊢
        have hlen := stM_len is
        walk_at "qv"
        refine wp_chk (by intro h; cases h) hl4 ?_
        walk_at "qv"
        refine wp_pop hl4 fun S5 x5 h5 l5 => ?_
        have W := V1 x5 h5
        clear V V1
        have iok := iok.mono x5 fun n _ h2 => h2
        have hWf := W.hf
        walk_at "qv"
        cases i with
        | m n x =>
          have hn := iok.2.2
          refine ⟨true, by simp [SI.d, isiAny, isiD, hn], true, rfl, fun _ => ?_, fun z => by cases z⟩
          walk_at "qv"
          refine wp_chk (by intro h; cases h) W.hf ?_
          walk_at "qv"
          refine wp_idxL (y := .str ⟨#[x]⟩) (asL_lst hn) rfl ?_
          walk_at "qv"
          refine wp_append W.hf (by rw [List.length_map]; simp only [SI.mu] at hm3; omega) fun S6 x6 h6 _ => ?_
          refine ⟨stM is, by simp only [SI.mu]; omega, fs ++ [⟨#[x]⟩], is, _, _, _, rfl, W.setF x6 (by rw [h6]; simp), rfl, ?_, ?_⟩
          · rw [← ht3]
            simp [SI.t]
          · simp only [SI.mu] at hm3
            simp
            omega
        | v y =>
          have gy : y.good = true := iok
          refine ⟨false, by rw [show (SI.v y).d = y from rfl, isi_good gy _ (.inl rfl)]; simp, false, rfl, fun z => (by cases z), fun _ => ?_⟩
          walk_at "qv"
          refine ⟨isTup y, by rw [show (SI.v y).d = y from rfl, isi_good gy _ (.inr rfl)]; simp, isTup y, rfl, fun ty => ?_, fun ty => ?_⟩
          · cases y with
            | tup xs =>
              walk_at "qv"
              refine wp_chk (by intro h; cases h) W.hl ?_
              walk_at "qv"
              refine ⟨by simp [line], fun m1 S6 e6 x6 h6 l6 => ?_⟩
              have W := W.new x6
              have hlf := W.fl
              have hlx : l < S5.length := lt_of_get (by assumption)
              have is_le : (is.map SI.d).reverse.length < line - 1 := by
                rw [List.length_reverse, List.length_map]
                simp only [SI.mu, D.mu] at hm3
                omega
              refine wp_append W.hl (by omega) fun S7 x7 h7 l7 => ?_
              have W := W.setL (is' := .m m1 41 :: is) x7 (by rw [h7]; simp [SI.d]) fun i hi => by
                rcases List.mem_cons.mp hi with rfl | hi
                · exact .inr ⟨by omega, by omega, h6⟩
                · exact .inl hi
              walk_at "qv"
              refine sw_for_fix (xs := enumF 0 xs.reverse) (I := fun pre env S8 => ∃ a b l1 l2 is', env = [some v, some (.loc f), some (.loc l), some (.tup xs), a, b] ∧ xs.reverse = l1 ++ l2 ∧ l1.length = pre.length ∧ VI v S f l fs is' S8 ∧ stT is' = (if l2 = [] then D.vtL l1.reverse else D.vtR l1.reverse) ++ 41 :: stT is ∧ stM is' ≤ D.muL l1.reverse + 1 + stM is) ?_ ?_ ?_
              · exact ⟨_, _, [], xs.reverse, _, rfl, rfl, rfl, W, by simp [stT, SI.t, D.vtL, D.vtR], by simp [stM, SI.mu, D.muL]⟩
              · rintro pre x post env S8 hsp ⟨a, b, l1, l2, is', rfl, e1, e2, V8, t8, m8⟩
                obtain ⟨y, k1, k2, hy1, hy2, rfl⟩ := enumF_split hsp
                have ek : k1 = l1 ∧ y :: k2 = l2 := by
                  refine List.append_inj (hy1.symm.trans e1) (by omega)
                obtain ⟨rfl, rfl⟩ := ek
                refine ⟨_, rfl, ?_⟩
                have hxs := tup_kid e1
                have gl : D.goodL xs = true := by
                  have : (D.tup xs).good = true := gy
                  simpa only [D.good] using this
                have gyy : y.good = true := goodL_mem.mp gl y (by rw [hxs]; simp)
                have ncy := good_nc gyy
                have mle : D.muL (y :: k1.reverse) ≤ D.muL xs := by
                  rw [hxs]
                  exact muL_app_le _ _
                simp only [D.muL] at mle
                simp only [SI.mu, D.mu] at hm3
                have hls := stM_len is'
                walk_at "qv"
                refine wp_chk (by intro h; cases h) V8.hl ?_
                walk_at "qv"
                refine ⟨_, rfl, fun kk => ?_, fun kk => ?_⟩
                · have hk2 : k2 = [] := by
                    simp only [decide_eq_true_eq] at kk
                    have hl := congrArg List.length e1
                    simp at hl
                    exact List.eq_nil_of_length_eq_zero (by omega)
                  subst hk2
                  walk_at "qv"
                  refine ⟨by simp [line], fun m9 S9 e9 x9 h9 _ => ?_⟩
                  have V9 := V8.new x9
                  walk_at "qv"
                  refine wp_extendL V9.hl h9 (by simp; omega) fun S10 x10 h10 _ => ?_
                  refine ⟨_, _, k1 ++ [y], [], .v y :: is', rfl, by simp [e1], by simp [e2], V9.setL x10 (by rw [h10]; simp [SI.d]) ?_, ?_, ?_⟩
                  · intro i hi
                    rcases List.mem_cons.mp hi with rfl | hi
                    · exact .inr gyy
                    · exact .inl hi
                  · rw [stT_cons, t8]
                    simp [SI.t, D.vtL]
                  · rw [stM_cons]
                    simp only [SI.mu, List.reverse_append, List.reverse_cons, List.reverse_nil, List.nil_append, List.cons_append, D.muL]
                    omega
                · have hk2 : k2 ≠ [] := by
                    rintro rfl
                    simp only [decide_eq_false_iff_not] at kk
                    have hl := congrArg List.length e1
                    simp at hl
                    omega
                  walk_at "qv"
                  refine ⟨by simp [line], fun m8 S9 e9 x9 h9 _ => ?_⟩
                  walk_at "qv"
                  refine ⟨by simp [line], fun m9 S10 e10 x10 h10 _ => ?_⟩
                  have V9 := (V8.new x9).new x10
                  have hl8 := V8.hl
                  have lt8 : l < S8.length := lt_of_get hl8
                  walk_at "qv"
                  refine wp_extendL V9.hl h10 (by simp; omega) fun S11 x11 h11 _ => ?_
                  refine ⟨_, _, k1 ++ [y], k2, .m m8 32 :: .v y :: is', rfl, by simp [e1], by simp [e2], V9.setL x11 (by rw [h11]; simp [SI.d]) ?_, ?_, ?_⟩
                  · intro i hi
                    rcases List.mem_cons.mp hi with rfl | hi
                    · exact .inr ⟨by omega, by omega, x10.keep h9⟩
                    · rcases List.mem_cons.mp hi with rfl | hi
                      · exact .inr gyy
                      · exact .inl hi
                  · rw [stT_cons, stT_cons, t8]
                    simp [SI.t, D.vtR, hk2]
                  · rw [stM_cons, stM_cons]
                    simp only [SI.mu, List.reverse_append, List.reverse_cons, List.reverse_nil, List.nil_append, List.cons_append, D.muL]
                    omega
              · rintro env S8 ⟨a, b, l1, l2, is', rfl, e1, e2, V8, t8, m8⟩
                rw [enumF_length, List.length_reverse] at e2
                have hl2 : l2 = [] := by
                  have hl := congrArg List.length e1
                  simp at hl
                  exact List.eq_nil_of_length_eq_zero (by omega)
                subst hl2
                rw [List.append_nil] at e1
                rw [← e1, List.reverse_reverse] at t8 m8
                simp only [SI.mu, D.mu] at hm3 ⊢
                have hls := stM_len is'
                walk_at "qv"
                refine wp_chk (by intro h; cases h) V8.hl ?_
                walk_at "qv"
                refine ⟨by simp [line], fun m9 S9 e9 x9 h9 _ => ?_⟩
                have V9 := V8.new x9
                have lt8 : l < S8.length := lt_of_get V8.hl
                refine wp_append V9.hl (by simp; omega) fun S10 x10 h10 _ => ?_
                refine ⟨stM (.m m9 40 :: is'), by rw [stM_cons]; simp only [SI.mu]; omega, fs, .m m9 40 :: is', _, _, _, rfl, V9.setL x10 (by rw [h10]; simp [SI.d]) ?_, rfl, ?_, ?_⟩
                · intro i hi
                  rcases List.mem_cons.mp hi with rfl | hi
                  · exact .inr ⟨by omega, by omega, h9⟩
                  · exact .inl hi
                · rw [← ht3, stT_cons, t8]
                  simp [SI.t, D.vt]
                · rw [stM_cons]
                  simp only [SI.mu]
                  omega
            | _ => cases ty
          · walk_at "qv"
            refine wp_chk (by intro h; cases h) W.hf ?_
            walk_at "qv"
            have e0 : (SI.v y).d = y := rfl
            have em : (SI.v y).mu = 1 := by cases y <;> first | rfl | cases ty
            rw [em] at hm3 ⊢
            have done : ∀ (z : Str) S6, Ext (· = f) S5 S6 → S6[f]? = some (.lst (fs.map D.str ++ [D.str z])) → z.cps.toList = y.vt → ∃ m, m < 1 + stM is ∧ ∃ fs2 is2, VI v S f l fs2 is2 S6 ∧ m = stM is2 ∧ (fs2.flatMap fun y => y.cps.toList) ++ stT is2 = v.vt ∧ fs2.length + stM is2 ≤ v.mu := fun z S6 x6 h6 hz => by
              refine ⟨stM is, by omega, fs ++ [z], is, W.setF x6 (by rw [h6]; simp), rfl, ?_, ?_⟩
              · rw [← ht3]
                simp [SI.t, hz]
              · simp
                omega
            refine ⟨_, rfl, fun k1 => ?_, fun k1 => ?_⟩
            · walk_at "qv"
              refine wp_append W.hf (by rw [List.length_map]; omega) fun S6 x6 h6 _ => ?_
              obtain ⟨m, hm, fs2, is2, r1, r2, r3, r4⟩ := done _ S6 x6 h6 (by
                cases y <;> first | rfl | cases k1)
              exact ⟨m, hm, fs2, is2, _, _, _, rfl, r1, r2, r3, r4⟩
            · walk_at "qv"
              cases y with
              | int i =>
                have gi : decide ((if i < 0 then -i else i) < 1000000000000) = true := by simpa only [D.good] using gy
                refine wp_only (decide_eq_true (log_lt (of_decide_eq_true gi))) (wp_ret ?_)
                refine wp_append W.hf (by rw [List.length_map]; omega) fun S6 x6 h6 _ => ?_
                obtain ⟨m, hm, fs2, is2, r1, r2, r3, r4⟩ := done _ S6 x6 h6 (by simp only [D.vt])
                exact ⟨m, hm, fs2, is2, _, _, _, rfl, r1, r2, r3, r4⟩
              | str x =>
                refine wp_append W.hf (by rw [List.length_map]; omega) fun S6 x6 h6 _ => ?_
                obtain ⟨m, hm, fs2, is2, r1, r2, r3, r4⟩ := done _ S6 x6 h6 (by simp only [D.vt])
                exact ⟨m, hm, fs2, is2, _, _, _, rfl, r1, r2, r3, r4⟩
              | non => cases k1
              | tup _ => cases ty
              | _ => cases gy
    · cases is with
      | cons i is => simp at k
      | nil =>
        walk_at "qv"
        refine wp_ret ?_
        walk_at "qv"
        simp only [stT, List.flatMap_nil, List.append_nil] at ht3
        refine wp_join (ys := fs) (asL_lst V.hf) (by rw [joinCost_nil, ht3]; exact ht) ?_
        rw [joinD_nil, ht3]
        exact h1 S4 V.x
  · simp [stM, SI.mu]
    omega
  · refine ⟨[], [.v v], none, none, none, rfl, ⟨x0.trans (x1.trans x2), ?_, by omega, x2.keep hf, hl, ?_⟩, rfl, ?_, ?_⟩
    · have := x0.len
      omega
    · intro i hi
      simp at hi
      subst hi
      exact hgood
    · simp [stT, SI.t]
    · simp [stM, SI.mu]
end
end QV
set_option maxRecDepth 100000
set_option maxHeartbeats 1000000
/-! P4: the pieces of a text. -/
namespace QV
open PySem
local macro_rules | `(tactic| walk_at "qv") => `(tactic| repeat (first
  | with_reducible refine sw_one ?_ | with_reducible refine sw_cons ?_ | with_reducible refine sw_nil ?_ | with_reducible refine sw_ex ?_ | with_reducible refine sw_asg ?_ | with_reducible refine sw_par ?_ | with_reducible refine sw_setI ?_ | with_reducible refine sw_aug ?_
  | with_reducible refine sw_ret ?_ | with_reducible refine sw_ifs ?_ | with_reducible refine sw_brk ?_ | with_reducible refine sw_cnt ?_ | with_reducible refine sw_rai ?_ | with_reducible refine sw_fors ?_
  | with_reducible refine wp_non ?_ | with_reducible refine wp_bl ?_ | with_reducible refine wp_int ?_ | with_reducible refine wp_str ?_ | with_reducible refine wp_bin ?_ | with_reducible refine wp_isN ?_ | with_reducible refine wp_notN ?_
  | ((with_reducible refine wp_cmp ?_ ?_ ?_); (intro h; cases h); (intro h; cases h)) | with_reducible refine wp_nt ?_ | with_reducible refine wp_an ?_ | with_reducible refine wp_orr ?_ | with_reducible refine wp_ife ?_ | with_reducible refine wp_chn ?_
  | with_reducible refine wp_es0 ?_ | with_reducible refine wp_es ?_ | with_reducible refine wp_tup ?_ | with_reducible refine wp_lst ?_ | with_reducible refine wp_idx ?_ | with_reducible refine wp_o0 ?_ | with_reducible refine wp_o1 ?_ | with_reducible refine wp_slc ?_
  | with_reducible refine wp_call ?_ | with_reducible refine wp_callL ?_ | with_reducible refine wp_bi ?_ | with_reducible refine wp_isi ?_ | with_reducible refine wp_mth ?_ | with_reducible refine wp_fld ?_
  | with_reducible refine wp_lenT ?_ | with_reducible refine wp_addI ?_ | with_reducible refine wp_subI ?_ | with_reducible refine wp_ltI ?_ | with_reducible refine wp_leI ?_ | with_reducible refine wp_gtI ?_ | with_reducible refine wp_geI ?_ | with_reducible refine wp_eqI ?_
  | with_reducible refine wp_eqS ?_ | with_reducible refine wp_neS ?_ | with_reducible refine wp_intI ?_ | with_reducible refine wp_absI ?_ | with_reducible refine wp_strS ?_
  | ((with_reducible refine wp_var' ?_); (refine ⟨_, rfl, (by first | assumption | trivial), ?_⟩))))

def isSep (c : Nat) : Bool := decide (c ∈ [40, 41, 32])
def pcsN : Nat → List Nat → List (List Nat)
  | 0, _ => []
  | _ + 1, [] => []
  | n + 1, c :: r => if isSep c then [c] :: pcsN n r else (c :: r.takeWhile fun c => !isSep c) :: pcsN n (r.dropWhile fun c => !isSep c)
def pcs (l : List Nat) : List (List Nat) := pcsN l.length l
theorem dropWhile_len {α : Type} (p : α → Bool) : ∀ l : List α, (l.dropWhile p).length ≤ l.length
  | [] => by simp
  | a :: l => by
    have := dropWhile_len p l
    rw [List.dropWhile_cons]
    split
    · simp
      omega
    · simp
theorem pcsN_eq : ∀ (n m : Nat) (l : List Nat), l.length ≤ n → l.length ≤ m → pcsN n l = pcsN m l
  | 0, m, l, h, _ => by
    have : l = [] := List.eq_nil_of_length_eq_zero (by omega)
    subst this
    cases m <;> rfl
  | n + 1, 0, l, _, h => by
    have : l = [] := List.eq_nil_of_length_eq_zero (by omega)
    subst this
    rfl
  | n + 1, m + 1, [], _, _ => rfl
  | n + 1, m + 1, c :: r, h1, h2 => by
    simp only [List.length_cons] at h1 h2
    have := dropWhile_len (fun c => !isSep c) r
    simp only [pcsN]
    rw [pcsN_eq n m r (by omega) (by omega), pcsN_eq n m (r.dropWhile fun c => !isSep c) (by omega) (by omega)]
theorem pcs_nil : pcs [] = [] := rfl
theorem pcs_sep {c : Nat} {r : List Nat} (h : isSep c = true) : pcs (c :: r) = [c] :: pcs r := by
  show pcsN (r.length + 1) (c :: r) = _
  simp only [pcsN, h, if_true]
  rfl
theorem pcs_one {c : Nat} {r : List Nat} (h : isSep c = false) : pcs (c :: r) = (c :: r.takeWhile fun c => !isSep c) :: pcs (r.dropWhile fun c => !isSep c) := by
  show pcsN (r.length + 1) (c :: r) = _
  have := dropWhile_len (fun c => !isSep c) r
  simp only [pcsN, h]
  rw [pcsN_eq r.length _ _ this (Nat.le_refl _)]
  rfl
def lenSum (l : List (List Nat)) : Nat := (l.map List.length).sum
theorem pcs_sum : ∀ (n : Nat) (l : List Nat), l.length ≤ n → lenSum (pcs l) = l.length ∧ ∀ p ∈ pcs l, 1 ≤ p.length
  | 0, l, h => by
    have : l = [] := List.eq_nil_of_length_eq_zero (by omega)
    subst this
    exact ⟨rfl, by simp [pcs_nil]⟩
  | n + 1, [], _ => ⟨rfl, by simp [pcs_nil]⟩
  | n + 1, c :: r, h => by
    simp only [List.length_cons] at h
    cases hc : isSep c with
    | true =>
      obtain ⟨a, b⟩ := pcs_sum n r (by omega)
      rw [pcs_sep hc]
      refine ⟨by simp [lenSum] at a ⊢; omega, fun p hp => ?_⟩
      rcases List.mem_cons.mp hp with rfl | hp
      · simp
      · exact b p hp
    | false =>
      have hd := dropWhile_len (fun c => !isSep c) r
      obtain ⟨a, b⟩ := pcs_sum n (r.dropWhile fun c => !isSep c) (by omega)
      rw [pcs_one hc]
      have e := congrArg List.length (List.takeWhile_append_dropWhile (p := fun c => !isSep c) (l := r))
      rw [List.length_append] at e
      refine ⟨by simp [lenSum] at a e ⊢; omega, fun p hp => ?_⟩
      rcases List.mem_cons.mp hp with rfl | hp
      · simp
      · exact b p hp
theorem pcs_len (l : List Nat) : (pcs l).length ≤ l.length := by
  obtain ⟨a, b⟩ := pcs_sum l.length l (Nat.le_refl _)
  rw [← a]
  generalize pcs l = L at b
  clear a
  induction L with
  | nil => simp
  | cons p L ih =>
    have h1 := b p (List.mem_cons_self ..)
    have h2 := ih fun q hq => b q (List.mem_cons_of_mem _ hq)
    simp [lenSum] at h2 ⊢
    omega
section
variable {F d : Nat} {S : Sto} {Q : D → Sto → Prop} {E : D → Sto → Prop}
theorem wp_lenS {x : Str} (hl : x.length ≤ line) (h : Q (.int x.length) S) : Wp (biD .len [.str x]) S Q E := wp_only (decide_eq_true hl) h
theorem wp_idxS {x : Str} {i : Int} {c : Nat} (hl : x.length ≤ line) (e : atD x.cps.toList i = some c) (h : Q (.str ⟨#[c]⟩) S) : Wp (idxD (.str x) (.int i)) S Q E :=
  wp_only (decide_eq_true hl) (wp_opt (a := .str ⟨#[c]⟩) (by rw [e]; rfl) h)
theorem atD_nat {α : Type} {l : List α} {i : Nat} : atD l (i : Int) = l[i]? := by
  unfold atD
  rw [if_pos (by omega), Int.toNat_natCast]
theorem wp_notin {c : Nat} {cs : List Nat} (h : Q (.bl (!decide (c ∈ cs))) S) : Wp (cmD .notin (.str ⟨#[c]⟩) (.str ⟨cs.toArray⟩)) S Q E := h
theorem wp_slice {x : Str} {lo hi : Option Int} (hl : x.length ≤ line) (h : Q (.str ⟨(cutD x.cps.toList lo hi).toArray⟩) S) : Wp (slcD (.str x) lo hi) S Q E := wp_only (decide_eq_true hl) h
theorem cut_nat {α : Type} {l : List α} {i j : Nat} (hi : i ≤ l.length) (hj : j ≤ l.length) : cutD l (some (i : Int)) (some (j : Int)) = (l.drop i).take (j - i) := by
  simp only [cutD, sIxD]
  rw [if_neg (by omega), if_neg (by omega), Int.toNat_natCast, Int.toNat_natCast, Nat.min_eq_left hi, Nat.min_eq_left hj]
theorem len_toList (t : Str) : t.cps.toList.length = t.length := Array.length_toList
theorem pieces_ok {t : Str} (ht : t.length ≤ line) (hF : t.length < F) (h : ∀ n S', Ex0 S S' → S.length ≤ n → S'[n]? = some (.lst ((pcs t.cps.toList).map fun p => D.str ⟨p.toArray⟩)) → Q (.loc n) S') : Wp (callN TBx F (d + 1) (.fn 4) [.str t]) S Q E := by
  refine wp_fn (n := 1) (m := 4) (body := b4) rfl rfl (by decide) ?_
  unfold b4
  walk_at "qv"
  refine ⟨by simp [line], fun f S1 e1 x1 hf l1 => ?_⟩
  walk_at "qv"
  have hlen := len_toList t
  have hpl := pcs_len t.cps.toList
  refine sw_whl (n := t.length) (I := fun n env S2 => ∃ (ps : List (List Nat)) (at_ : Nat) (b : Option D), env = [some (.str t), some (.loc f), some (.int (at_ : Nat)), b] ∧ Ext (· = f) S1 S2 ∧ S2[f]? = some (.lst (ps.map fun p => D.str ⟨p.toArray⟩)) ∧ at_ ≤ t.length ∧ n = t.length - at_ ∧ ps ++ pcs (t.cps.toList.drop at_) = pcs t.cps.toList) ?_ hF ?_
  · rintro n env S2 ⟨ps, at_, b, rfl, x2, hf2, ha, rfl, hp⟩
    walk_at "qv"
    refine wp_lenS ht ?_
    walk_at "qv"
    refine ⟨_, rfl, fun k => ?_, fun k => ?_⟩
    · simp only [decide_eq_true_eq] at k
      have ha2 : at_ < t.length := by omega
      have hc : t.cps.toList[at_]? = some (t.cps.toList[at_]'(by omega)) := List.getElem?_eq_getElem _
      generalize t.cps.toList[at_]'(by omega) = c at hc
      have hdr : t.cps.toList.drop at_ = c :: t.cps.toList.drop (at_ + 1) := by
        obtain ⟨hlt, hcc⟩ := List.getElem?_eq_some_iff.mp hc
        rw [List.drop_eq_getElem_cons hlt, hcc]
      have pl : ps.length < line := by
        have := congrArg List.length hp
        rw [List.length_append, hdr] at this
        have h2 : 1 ≤ (pcs (c :: t.cps.toList.drop (at_ + 1))).length := by
          cases hs : isSep c with
          | true => rw [pcs_sep hs]; simp
          | false => rw [pcs_one hs]; simp
        omega
      walk_at "qv"
      refine wp_idxS ht (atD_nat.trans hc) ?_
      walk_at "qv"
      refine wp_notin (cs := [40, 41, 32]) ?_
      -- behind the inner walk
      have fin : ∀ (j : Nat) (b : Option D) (S3 : Sto), S3 = S2 → at_ < j → j ≤ t.length → (t.cps.toList.drop at_).take (j - at_) :: pcs (t.cps.toList.drop j) = pcs (t.cps.toList.drop at_) →
          Sw (evSs TBx (callN TBx F d) F [(.ex (.mth .append (.var 1) [(.slc (.var 0) (some (.var 2)) (some (.var 3)))])), (.asg (.nm 2) (.var 3))]) [some (.str t), some (.loc f), some (.int (at_ : Nat)), some (.int (j : Nat))] S3
            { nx := fun e S => ∃ m, m < t.length - at_ ∧ ∃ (ps : List (List Nat)) (at_ : Nat) (b : Option D), e = [some (.str t), some (.loc f), some (.int (at_ : Nat)), b] ∧ Ext (· = f) S1 S ∧ S[f]? = some (.lst (ps.map fun p => D.str ⟨p.toArray⟩)) ∧ at_ ≤ t.length ∧ m = t.length - at_ ∧ ps ++ pcs (t.cps.toList.drop at_) = pcs t.cps.toList, rt := fun _ _ => False, bk := fun _ _ => False, ct := fun _ _ => False, ex := fun _ _ _ => False } := by
        rintro j b S3 rfl hj hj2 hpc
        walk_at "qv"
        refine wp_chk (by intro h; cases h) hf2 ?_
        walk_at "qv"
        refine ⟨_, rfl, ?_⟩
        walk_at "qv"
        refine ⟨_, rfl, ?_⟩
        refine wp_slice ht ?_
        rw [cut_nat (by omega) (by omega)]
        walk_at "qv"
        refine wp_append hf2 (by rw [List.length_map]; exact pl) fun S4 x4 h4 _ => ?_
        walk_at "qv"
        refine ⟨t.length - j, by omega, ps ++ [(t.cps.toList.drop at_).take (j - at_)], j, _, rfl, x2.trans x4, by rw [h4]; simp, hj2, rfl, ?_⟩
        rw [List.append_assoc, List.singleton_append, hpc, hp]
      have lift : ∀ {P : Po} {e S3}, (∀ e S, (∃ m, m < t.length - at_ ∧ ∃ (ps : List (List Nat)) (at_ : Nat) (b : Option D), e = [some (.str t), some (.loc f), some (.int (at_ : Nat)), b] ∧ Ext (· = f) S1 S ∧ S[f]? = some (.lst (ps.map fun p => D.str ⟨p.toArray⟩)) ∧ at_ ≤ t.length ∧ m = t.length - at_ ∧ ps ++ pcs (t.cps.toList.drop at_) = pcs t.cps.toList) → P.nx e S) → ∀ {m : Sv}, Sw m e S3 { nx := fun e S => ∃ m, m < t.length - at_ ∧ ∃ (ps : List (List Nat)) (at_ : Nat) (b : Option D), e = [some (.str t), some (.loc f), some (.int (at_ : Nat)), b] ∧ Ext (· = f) S1 S ∧ S[f]? = some (.lst (ps.map fun p => D.str ⟨p.toArray⟩)) ∧ at_ ≤ t.length ∧ m = t.length - at_ ∧ ps ++ pcs (t.cps.toList.drop at_) = pcs t.cps.toList, rt := fun _ _ => False, bk := fun _ _ => False, ct := fun _ _ => False, ex := fun _ _ _ => False } → Sw m e S3 P :=
        fun hP _ z => sw_mono z hP (fun _ _ h => h.elim) (fun _ _ h => h.elim) (fun _ _ h => h.elim) fun _ _ _ h => h.elim
      refine ⟨_, rfl, fun k1 => ?_, fun k1 => ?_⟩
      · have hs : isSep c = false := by simpa [isSep] using k1
        refine sw_one (sw_whl (n := t.length - (at_ + 1)) (I := fun n env S3 => ∃ j : Nat, env = [some (.str t), some (.loc f), some (.int (at_ : Nat)), some (.int (j : Nat))] ∧ S3 = S2 ∧ at_ < j ∧ j ≤ t.length ∧ n = t.length - j ∧ ((t.cps.toList.drop (at_ + 1)).takeWhile fun c => !isSep c) = (t.cps.toList.drop (at_ + 1)).take (j - at_ - 1) ++ ((t.cps.toList.drop j).takeWhile fun c => !isSep c) ∧ ((t.cps.toList.drop (at_ + 1)).dropWhile fun c => !isSep c) = (t.cps.toList.drop j).dropWhile fun c => !isSep c) ?_ (by omega) ?_)
        · rintro n env S3 ⟨j, rfl, rfl, hj, hj2, rfl, q1, q2⟩
          have stop : ((t.cps.toList.drop j).takeWhile fun c => !isSep c) = [] → ((t.cps.toList.drop j).dropWhile fun c => !isSep c) = t.cps.toList.drop j → (t.cps.toList.drop at_).take (j - at_) :: pcs (t.cps.toList.drop j) = pcs (t.cps.toList.drop at_) := fun z1 z2 => by
            rw [hdr, pcs_one hs, q1, q2, z1, z2, List.append_nil]
            congr 1
            rw [show j - at_ = (j - at_ - 1) + 1 by omega, List.take_succ_cons]
            congr 2
          walk_at "qv"
          refine wp_lenS ht ?_
          walk_at "qv"
          refine ⟨_, rfl, fun k2 => ?_, fun k2 => ?_⟩
          · simp only [decide_eq_true_eq] at k2
            have hc2 : t.cps.toList[j]? = some (t.cps.toList[j]'(by omega)) := List.getElem?_eq_getElem _
            generalize t.cps.toList[j]'(by omega) = c2 at hc2
            have hdr2 : t.cps.toList.drop j = c2 :: t.cps.toList.drop (j + 1) := by
              obtain ⟨hlt, hcc⟩ := List.getElem?_eq_some_iff.mp hc2
              rw [List.drop_eq_getElem_cons hlt, hcc]
            walk_at "qv"
            refine wp_idxS ht (atD_nat.trans hc2) ?_
            walk_at "qv"
            refine wp_notin (cs := [40, 41, 32]) ?_
            refine ⟨_, rfl, fun k3 => ?_, fun k3 => ?_⟩
            · have hs2 : isSep c2 = false := by simpa [isSep] using k3
              walk_at "qv"
              refine ⟨t.length - (j + 1), by omega, j + 1, rfl, rfl, by omega, by omega, rfl, ?_, ?_⟩
              · rw [q1, hdr2, List.takeWhile_cons]
                simp only [hs2, Bool.not_false, if_true]
                rw [show j + 1 - at_ - 1 = (j - at_ - 1) + 1 by omega, List.take_succ]
                have : (t.cps.toList.drop (at_ + 1))[j - at_ - 1]? = some c2 := by
                  rw [List.getElem?_drop, show at_ + 1 + (j - at_ - 1) = j by omega, hc2]
                rw [this]
                simp
              · rw [q2, hdr2, List.dropWhile_cons]
                simp [hs2]
            · have hs2 : isSep c2 = true := by
                simp only [Bool.not_eq_false'] at k3
                exact k3
              refine lift (fun e S z => z) (fin j none _ rfl hj hj2 (stop ?_ ?_))
              · rw [hdr2, List.takeWhile_cons]
                simp [hs2]
              · rw [hdr2, List.dropWhile_cons]
                simp [hs2]
          · simp only [decide_eq_false_iff_not] at k2
            have hje : t.cps.toList.drop j = [] := List.drop_eq_nil_of_le (by omega)
            refine ⟨_, rfl, fun z => (by cases z), fun _ => ?_⟩
            refine lift (fun e S z => z) (fin j none _ rfl hj hj2 (stop ?_ ?_))
            · rw [hje]; rfl
            · rw [hje]; rfl
        · exact ⟨at_ + 1, rfl, rfl, by omega, by omega, rfl, by simp, rfl⟩
      · have hs : isSep c = true := by
          simp only [Bool.not_eq_false'] at k1
          exact k1
        refine sw_nil ?_
        refine lift (fun e S z => z) (fin (at_ + 1) none _ rfl (by omega) (by omega) ?_)
        rw [hdr, pcs_sep hs]
        congr 1
        rw [show at_ + 1 - at_ = 1 by omega]
        rfl
    · simp only [decide_eq_false_iff_not] at k
      have hd : t.cps.toList.drop at_ = [] := List.drop_eq_nil_of_le (by omega)
      rw [hd, pcs_nil, List.append_nil] at hp
      walk_at "qv"
      rw [hp] at hf2
      exact h f S2 (x1.to.trans' (M := fun _ => False) x2 fun n hn e => by omega) (by omega) hf2
  · exact ⟨[], 0, none, rfl, Ext.refl, hf, by omega, by omega, rfl⟩
end
end QV
set_option maxRecDepth 100000
set_option maxHeartbeats 1000000
/-! P5: what a piece means. -/
namespace QV
open PySem
local macro_rules | `(tactic| walk_at "qv") => `(tactic| repeat (first
  | with_reducible refine sw_one ?_ | with_reducible refine sw_cons ?_ | with_reducible refine sw_nil ?_ | with_reducible refine sw_ex ?_ | with_reducible refine sw_asg ?_ | with_reducible refine sw_par ?_ | with_reducible refine sw_setI ?_ | with_reducible refine sw_aug ?_
  | with_reducible refine sw_ret ?_ | with_reducible refine sw_ifs ?_ | with_reducible refine sw_brk ?_ | with_reducible refine sw_cnt ?_ | with_reducible refine sw_rai ?_ | with_reducible refine sw_fors ?_
  | with_reducible refine wp_non ?_ | with_reducible refine wp_bl ?_ | with_reducible refine wp_int ?_ | with_reducible refine wp_str ?_ | with_reducible refine wp_bin ?_ | with_reducible refine wp_isN ?_ | with_reducible refine wp_notN ?_
  | ((with_reducible refine wp_cmp ?_ ?_ ?_); (intro h; cases h); (intro h; cases h)) | with_reducible refine wp_nt ?_ | with_reducible refine wp_an ?_ | with_reducible refine wp_orr ?_ | with_reducible refine wp_ife ?_ | with_reducible refine wp_chn ?_
  | with_reducible refine wp_es0 ?_ | with_reducible refine wp_es ?_ | with_reducible refine wp_tup ?_ | with_reducible refine wp_lst ?_ | with_reducible refine wp_idx ?_ | with_reducible refine wp_o0 ?_ | with_reducible refine wp_o1 ?_ | with_reducible refine wp_slc ?_
  | with_reducible refine wp_call ?_ | with_reducible refine wp_callL ?_ | with_reducible refine wp_bi ?_ | with_reducible refine wp_isi ?_ | with_reducible refine wp_mth ?_ | with_reducible refine wp_fld ?_
  | with_reducible refine wp_lenT ?_ | with_reducible refine wp_addI ?_ | with_reducible refine wp_subI ?_ | with_reducible refine wp_ltI ?_ | with_reducible refine wp_leI ?_ | with_reducible refine wp_gtI ?_ | with_reducible refine wp_geI ?_ | with_reducible refine wp_eqI ?_
  | with_reducible refine wp_eqS ?_ | with_reducible refine wp_neS ?_ | with_reducible refine wp_intI ?_ | with_reducible refine wp_absI ?_ | with_reducible refine wp_strS ?_
  | ((with_reducible refine wp_var' ?_); (refine ⟨_, rfl, (by first | assumption | trivial), ?_⟩))))

def isDig (c : Nat) : Bool := decide (c ∈ FIGS)
def bareOf (x : List Nat) : List Nat := if x.take 1 = [45] then x.drop 1 else x
def intV (x : List Nat) : Int := if x.take 1 = [45] then -((NumText.digitsVal (x.drop 1) : Nat) : Int) else ((NumText.digitsVal x : Nat) : Int)
def plainOf (x : List Nat) : Option D :=
  if x = [45] then some .non
  else if isWordS ⟨x.toArray⟩ then some (.str ⟨x.toArray⟩)
  else if (decide (1 ≤ (bareOf x).length) && decide ((bareOf x).length ≤ 12)) && (bareOf x).all isDig then
    (if (PySem.Str.ofString (toString (intV x))).cps.toList = x then some (.int (intV x)) else none)
  else none
theorem digVal_lt : ∀ (cs : List Nat), NumText.AllDigits cs → NumText.digitsVal cs < 10 ^ cs.length := by
  have key : ∀ (cs : List Nat) (a : Nat), NumText.AllDigits cs → cs.foldl (fun acc c => acc * 10 + (c - 48)) a < (a + 1) * 10 ^ cs.length := by
    intro cs
    induction cs with
    | nil => intro a _; simp
    | cons c cs ih =>
      intro a h
      have h1 := h.head
      have := ih (a * 10 + (c - 48)) h.tail
      rw [List.foldl_cons, List.length_cons, Nat.pow_succ]
      refine Nat.lt_of_lt_of_le this ?_
      calc (a * 10 + (c - 48) + 1) * 10 ^ cs.length ≤ ((a + 1) * 10) * 10 ^ cs.length := Nat.mul_le_mul_right _ (by omega)
        _ = (a + 1) * (10 ^ cs.length * 10) := by rw [Nat.mul_assoc, Nat.mul_comm 10]
  intro cs h
  have := key cs 0 h
  simpa [NumText.digitsVal] using this
theorem isDig_iff {c : Nat} (h : isDig c = true) : 48 ≤ c ∧ c ≤ 57 := by
  simp [isDig, FIGS] at h
  omega
theorem intV_text {x : List Nat} (h1 : 1 ≤ (bareOf x).length) (h2 : (bareOf x).length ≤ 12) (h3 : (bareOf x).all isDig = true) : intText? ⟨x.toArray⟩ = some (intV x) ∧ (intV x).natAbs < 1000000000000 ∧ x.length ≤ 13 := by
  have ad : NumText.AllDigits (bareOf x) := fun c hc => isDig_iff (List.all_eq_true.mp h3 c hc)
  have lt := digVal_lt _ ad
  have lt2 : (10 : Nat) ^ (bareOf x).length ≤ 10 ^ 12 := Nat.pow_le_pow_right (by omega) h2
  unfold bareOf at *
  unfold intV
  by_cases hx : x.take 1 = [45]
  · rw [if_pos hx] at *
    have hx2 : x = 45 :: x.drop 1 := by
      rw [← List.take_append_drop 1 x, hx]
      rfl
    have hl : x.length = (x.drop 1).length + 1 := by
      conv => lhs; rw [hx2]
      rfl
    refine ⟨intText_neg (x := ⟨x.toArray⟩) (cs := x.drop 1) hx2 ad (by intro z; rw [z] at h1; cases h1) (by show x.toArray.size ≤ _; rw [List.size_toArray]; omega), by omega, by omega⟩
  · rw [if_neg hx] at *
    exact ⟨intText_digits (x := ⟨x.toArray⟩) ad (by intro z; simp at z; rw [z] at h1; cases h1) (by show x.toArray.size ≤ _; rw [List.size_toArray]; omega), by omega, by omega⟩
theorem nat_log {n : Nat} (h : n < 1000000000000) : n.log2 < 1920 := by
  have := log_lt (i := (n : Int)) (by rw [if_neg (by omega)]; omega)
  simpa using this
section
variable {F d : Nat} {S : Sto} {Q : D → Sto → Prop} {E : D → Sto → Prop}
theorem str_eta (x : Str) : (⟨x.cps.toList.toArray⟩ : Str) = x := by simp
theorem str_ext {x : Str} {l : List Nat} : x = ⟨l.toArray⟩ ↔ x.cps.toList = l := by
  constructor
  · rintro rfl
    simp
  · rintro rfl
    simp
theorem cut_lo {α : Type} {l : List α} {j : Nat} : cutD l none (some (j : Int)) = l.take j := by
  simp only [cutD, sIxD]
  rw [if_neg (by omega), Int.toNat_natCast, Nat.sub_zero, List.drop_zero]
  rcases Nat.le_total j l.length with h | h
  · rw [Nat.min_eq_left h]
  · rw [Nat.min_eq_right h, List.take_length, List.take_of_length_le h]
theorem cut_hi {α : Type} {l : List α} {j : Nat} : cutD l (some (j : Int)) none = l.drop j := by
  simp only [cutD, sIxD]
  rw [if_neg (by omega), Int.toNat_natCast]
  rcases Nat.le_total j l.length with h | h
  · rw [Nat.min_eq_left h, List.take_of_length_le (by simp)]
  · rw [Nat.min_eq_right h, Nat.sub_self, List.take_zero, List.drop_eq_nil_of_le h]
theorem cut_lo1 {α : Type} {l : List α} : cutD l none (some 1) = l.take 1 := cut_lo (j := 1)
theorem cut_hi1 {α : Type} {l : List α} : cutD l (some 1) none = l.drop 1 := cut_hi (j := 1)
theorem wp_intS {x : Str} {i : Int} (hl : x.length ≤ 640) (e : intText? x = some i) (q : Q (.int i) S) : Wp (biD .int [.str x]) S Q E := wp_only (decide_eq_true hl) (wp_opt (a := .int i) (by rw [e]; rfl) q)
theorem wp_strI {i : Int} (hl : i.natAbs.log2 < 1920) (q : Q (.str (PySem.Str.ofString (toString i))) S) : Wp (biD .str [.int i]) S Q E := wp_only (decide_eq_true hl) q
theorem plainof_ok {x : List Nat} (hx : x.length ≤ line) (h : ∀ n S', Ex0 S S' → S.length ≤ n → S'[n]? = some (.lst (plainOf x).toList) → Q (.loc n) S') : Wp (callN TBx F (d + 2) (.fn 5) [.str ⟨x.toArray⟩]) S Q E := by
  refine wp_fn (n := 1) (m := 4) (body := b5) rfl rfl (by decide) ?_
  unfold b5
  have hx2 : Str.length ⟨x.toArray⟩ ≤ line := by
    show x.toArray.size ≤ line
    rw [List.size_toArray]
    exact hx
  have eqs : ∀ l : List Nat, decide ((⟨x.toArray⟩ : Str) = ⟨l.toArray⟩) = decide (x = l) := fun l => by
    congr 1
    simp
  walk_at "qv"
  rw [eqs]
  refine ⟨_, rfl, fun k => ?_, fun k => ?_⟩
  · walk_at "qv"
    refine ⟨by simp [line], fun n S1 e1 x1 h1 l1 => ?_⟩
    refine h n S1 x1 (by omega) ?_
    rw [h1, plainOf, if_pos (of_decide_eq_true k)]
    rfl
  have k := of_decide_eq_false k
  walk_at "qv"
  refine word_ok hx2 fun S2 x2 => ?_
  refine ⟨_, rfl, fun kw => ?_, fun kw => ?_⟩
  · walk_at "qv"
    refine ⟨by simp [line], fun n S1 e1 x1 h1 l1 => ?_⟩
    refine h n S1 (x2.trans x1) (by have := x2.len; omega) ?_
    rw [h1, plainOf, if_neg k, if_pos (show isWordS ⟨x.toArray⟩ = true from kw)]
    rfl
  have kw : isWordS ⟨x.toArray⟩ = false := kw
  walk_at "qv"
  refine ⟨_, rfl, ?_⟩
  refine wp_slice hx2 ?_
  rw [cut_lo1]
  walk_at "qv"
  have e45 : decide ((⟨(List.take 1 x).toArray⟩ : Str) = ⟨#[45]⟩) = decide (x.take 1 = [45]) := by
    congr 1
    simp
  -- behind the sign
  have bare : ∀ (b : List Nat), b = bareOf x → Sw (evSs TBx (callN TBx F (d + 1)) F [
    (.ifs (.orr (.nt (.chn .le .le (.int 1) (.bi .len [(.var 1)]) (.int 12))) (.nt (.bi .all [(.lc (.cmp .isin (.var 3) (.str ⟨#[48, 49, 50, 51, 52, 53, 54, 55, 56, 57]⟩)) [2, 3] 3 .val (.var 1) none)]))) [(.ret (.lst []))] [])
  , (.ret (.ife (.cmp .eq (.bi .str [(.bi .int [(.var 0)])]) (.var 0)) (.lst [(.bi .int [(.var 0)])]) (.lst [])))]) [some (.str ⟨x.toArray⟩), some (.str ⟨b.toArray⟩), none, none] S2 { nx := fun _ S => Q .non S, rt := Q, bk := fun _ _ => False, ct := fun _ _ => False, ex := fun e _ S => E e S } := by
    rintro b rfl
    have bl : (bareOf x).length ≤ x.length := by
      unfold bareOf
      split
      · rw [List.length_drop]; omega
      · omega
    have hb2 : Str.length ⟨(bareOf x).toArray⟩ ≤ line := by
      show (bareOf x).toArray.size ≤ line
      rw [List.size_toArray]
      omega
    have hbl : Str.length ⟨(bareOf x).toArray⟩ = (bareOf x).length := by
      show (bareOf x).toArray.size = _
      rw [List.size_toArray]
    have none_ : ∀ S3, Ex0 S2 S3 → plainOf x = none → ∀ n S4, n = S3.length → Ex0 S3 S4 → S4[n]? = some (.lst []) → S4.length = n + 1 → Q (.loc n) S4 := fun S3 x3 hn n S4 e4 x4 h4 _ =>
      h n S4 (x2.trans (x3.trans x4)) (by have := x2.len; have := x3.len; omega) (by rw [h4, hn]; rfl)
    walk_at "qv"
    refine wp_lenS hb2 ?_
    walk_at "qv"
    rw [hbl]
    refine ⟨_, rfl, fun k1 => ?_, fun k1 => ?_⟩
    · walk_at "qv"
      refine ⟨_, rfl, _, rfl, fun k2 => ?_, fun k2 => ?_⟩
      · walk_at "qv"
        refine wp_signs (x := ⟨(bareOf x).toArray⟩) (cs := FIGS) hb2 ?_ ?_ fun n S3 hn x3 hx3 => ?_
        · simp only [evC]
          rfl
        · rfl
        walk_at "qv"
        refine wp_all hx3 ?_
        refine ⟨_, rfl, _, rfl, fun k3 => ?_, fun k3 => ?_⟩
        · walk_at "qv"
          refine ⟨by simp [line], none_ S3 x3 ?_⟩
          rw [plainOf, if_neg k, if_neg (by rw [kw]; simp), if_neg]
          simp only [Bool.not_eq_true'] at k3
          show ¬ ((_ && (bareOf x).all isDig) = true)
          rw [show (bareOf x).all isDig = (bareOf x).all fun c => decide (c ∈ FIGS) from rfl]
          rw [k3]
          simp
        · simp only [Bool.not_eq_false'] at k3 k2
          have k1 := of_decide_eq_true k1
          have k2 := of_decide_eq_true k2
          obtain ⟨i1, i2, i3⟩ := intV_text (x := x) (by omega) (by omega) k3
          have pl : plainOf x = if (PySem.Str.ofString (toString (intV x))).cps.toList = x then some (.int (intV x)) else none := by
            rw [plainOf, if_neg k, if_neg (by rw [kw]; simp), if_pos]
            rw [decide_eq_true (by omega : 1 ≤ (bareOf x).length), decide_eq_true (by omega : (bareOf x).length ≤ 12)]
            exact k3
          have hx6 : Str.length ⟨x.toArray⟩ ≤ 640 := by
            show x.toArray.size ≤ 640
            rw [List.size_toArray]
            omega
          walk_at "qv"
          refine wp_intS hx6 i1 ?_
          walk_at "qv"
          refine wp_strI (nat_log i2) ?_
          walk_at "qv"
          refine ⟨_, rfl, fun k4 => ?_, fun k4 => ?_⟩
          · have k4 := str_ext.mp (of_decide_eq_true k4)
            walk_at "qv"
            refine wp_intS hx6 i1 ?_
            walk_at "qv"
            refine ⟨by simp [line], fun n S4 e4 x4 h4 _ => ?_⟩
            refine h n S4 (x2.trans (x3.trans x4)) (by have := x2.len; have := x3.len; omega) ?_
            rw [h4, pl, if_pos k4]
            rfl
          · have k4 := of_decide_eq_false k4
            walk_at "qv"
            refine ⟨by simp [line], none_ S3 x3 ?_⟩
            rw [pl, if_neg fun z => k4 (str_ext.mpr z)]
      · refine ⟨_, rfl, fun _ => ?_, fun z => by cases z⟩
        walk_at "qv"
        refine ⟨by simp [line], none_ S2 Ext.refl ?_⟩
        have k2' : ¬ ((bareOf x).length ≤ 12) := by
          have := of_decide_eq_false (by simpa using k2 : decide (((bareOf x).length : Int) ≤ 12) = false)
          omega
        rw [plainOf, if_neg k, if_neg (by rw [kw]; simp), if_neg]
        rw [decide_eq_false k2']
        simp
    · refine ⟨_, rfl, _, rfl, fun k2 => (by cases k2), fun _ => ?_⟩
      refine ⟨_, rfl, fun _ => ?_, fun z => by cases z⟩
      walk_at "qv"
      refine ⟨by simp [line], none_ S2 Ext.refl ?_⟩
      have k1' : ¬ (1 ≤ (bareOf x).length) := by
        have := of_decide_eq_false k1
        omega
      rw [plainOf, if_neg k, if_neg (by rw [kw]; simp), if_neg]
      rw [decide_eq_false k1']
      simp
  refine ⟨_, rfl, fun k1 => ?_, fun k1 => ?_⟩
  · rw [e45] at k1
    walk_at "qv"
    refine ⟨_, rfl, ?_⟩
    walk_at "qv"
    refine wp_slice hx2 ?_
    rw [cut_hi1]
    refine bare _ ?_
    unfold bareOf
    rw [if_pos (of_decide_eq_true k1)]
  · rw [e45] at k1
    refine wp_var rfl trivial ?_
    refine bare _ ?_
    unfold bareOf
    rw [if_neg (of_decide_eq_false k1)]
end
end QV
set_option maxRecDepth 100000
set_option maxHeartbeats 1000000
/-! P6: what a text of pieces means. -/
namespace QV
open PySem
local macro_rules | `(tactic| walk_at "qv") => `(tactic| repeat (first
  | with_reducible refine sw_one ?_ | with_reducible refine sw_cons ?_ | with_reducible refine sw_nil ?_ | with_reducible refine sw_ex ?_ | with_reducible refine sw_asg ?_ | with_reducible refine sw_par ?_ | with_reducible refine sw_setI ?_ | with_reducible refine sw_aug ?_
  | with_reducible refine sw_ret ?_ | with_reducible refine sw_ifs ?_ | with_reducible refine sw_brk ?_ | with_reducible refine sw_cnt ?_ | with_reducible refine sw_rai ?_ | with_reducible refine sw_fors ?_
  | with_reducible refine wp_non ?_ | with_reducible refine wp_bl ?_ | with_reducible refine wp_int ?_ | with_reducible refine wp_str ?_ | with_reducible refine wp_bin ?_ | with_reducible refine wp_isN ?_ | with_reducible refine wp_notN ?_
  | ((with_reducible refine wp_cmp ?_ ?_ ?_); (intro h; cases h); (intro h; cases h)) | with_reducible refine wp_nt ?_ | with_reducible refine wp_an ?_ | with_reducible refine wp_orr ?_ | with_reducible refine wp_ife ?_ | with_reducible refine wp_chn ?_
  | with_reducible refine wp_es0 ?_ | with_reducible refine wp_es ?_ | with_reducible refine wp_tup ?_ | with_reducible refine wp_lst ?_ | with_reducible refine wp_idx ?_ | with_reducible refine wp_o0 ?_ | with_reducible refine wp_o1 ?_ | with_reducible refine wp_slc ?_
  | with_reducible refine wp_call ?_ | with_reducible refine wp_callL ?_ | with_reducible refine wp_bi ?_ | with_reducible refine wp_isi ?_ | with_reducible refine wp_mth ?_ | with_reducible refine wp_fld ?_
  | with_reducible refine wp_lenT ?_ | with_reducible refine wp_addI ?_ | with_reducible refine wp_subI ?_ | with_reducible refine wp_ltI ?_ | with_reducible refine wp_leI ?_ | with_reducible refine wp_gtI ?_ | with_reducible refine wp_geI ?_ | with_reducible refine wp_eqI ?_
  | with_reducible refine wp_eqS ?_ | with_reducible refine wp_neS ?_ | with_reducible refine wp_intI ?_ | with_reducible refine wp_absI ?_ | with_reducible refine wp_strS ?_
  | ((with_reducible refine wp_var' ?_); (refine ⟨_, rfl, (by first | assumption | trivial), ?_⟩))))

abbrev VS := List (List D) × List D
def put (v : D) : List (List D) → List D → Option VS
  | [], done => if done.isEmpty then some ([], [v]) else none
  | ys :: os, done => some ((ys ++ [v]) :: os, done)
def vstep (s : VS) (p : List Nat) : Option VS :=
  if p = [40] then some ([] :: s.1, s.2)
  else if p = [32] then some s
  else if p = [41] then (match s.1 with
    | [] => none
    | ys :: os => put (.tup ys) os s.2)
  else match plainOf p with
    | none => none
    | some v => put v s.1 s.2
def vrun : List (List Nat) → VS → Option VS
  | [], s => some s
  | p :: r, s => (vstep s p).bind (vrun r)
def valueOf (ps : List (List Nat)) : List D := match vrun ps ([], []) with
  | some ([], done) => done
  | _ => []
theorem vrun_app : ∀ (a b : List (List Nat)) (s : VS), vrun (a ++ b) s = (vrun a s).bind (vrun b)
  | [], b, s => rfl
  | p :: a, b, s => by
    simp only [List.cons_append, vrun]
    cases vstep s p with
    | none => rfl
    | some s' => exact vrun_app a b s'
mutual
def D.wt : D → Nat
  | .tup xs => D.wtL xs + 3
  | .int i => (PySem.Str.ofString (toString i)).cps.toList.length + 1
  | .str x => x.cps.toList.length + 1
  | _ => 2
def D.wtL : List D → Nat
  | [] => 0
  | a :: as => D.wt a + 1 + D.wtL as
end
theorem wtL_app : ∀ L M : List D, D.wtL (L ++ M) = D.wtL L + D.wtL M
  | [], M => by simp [D.wtL]
  | a :: as, M => by simp [D.wtL, wtL_app as M, Nat.add_assoc]
def pot (s : VS) : Nat := (s.1.map fun ys => D.wtL ys + 3).sum + D.wtL s.2
theorem wtL_len : ∀ L : List D, L.length ≤ D.wtL L
  | [] => by simp
  | a :: as => by
    have := wtL_len as
    simp only [List.length_cons, D.wtL]
    omega
mutual
theorem sz_le : ∀ d : D, d.sz ≤ d.wt
  | .tup xs => by
    have := szL_le xs
    simp only [D.sz, D.wt]
    omega
  | .non | .bl _ | .int _ | .str _ | .loc _ | .fn _ | .exc _ _ | .clo _ _ => by simp [D.sz, D.wt]
theorem szL_le : ∀ L : List D, D.szL L ≤ D.wtL L
  | [] => by simp [D.szL]
  | a :: as => by
    have := sz_le a
    have := szL_le as
    simp only [D.szL, D.wtL]
    omega
end
mutual
theorem vt_le : ∀ d : D, d.vt.length ≤ d.wt
  | .tup xs => by
    have := vtL_le xs
    simp only [D.vt, D.wt, List.length_cons, List.length_append, List.length_nil]
    omega
  | .non | .bl _ | .int _ | .str _ | .loc _ | .fn _ | .exc _ _ | .clo _ _ => by simp [D.vt, D.wt]
theorem vtL_le : ∀ L : List D, (D.vtL L).length ≤ D.wtL L
  | [] => by simp [D.vtL]
  | a :: as => by
    have := vt_le a
    have := vtR_le as
    simp only [D.vtL, D.wtL, List.length_append]
    omega
theorem vtR_le : ∀ L : List D, (D.vtR L).length ≤ D.wtL L
  | [] => by simp [D.vtR]
  | a :: as => by
    have := vt_le a
    have := vtR_le as
    simp only [D.vtR, D.wtL, List.length_append, List.length_cons]
    omega
end
theorem plainOf_some {p : List Nat} {v : D} (h : plainOf p = some v) : v.vt = p ∧ isTup v = false ∧ v.wt = p.length + 1 ∧ (p.length ≤ line → ∀ S, PlainT S v) := by
  unfold plainOf at h
  split at h
  · rename_i e
    cases h
    subst e
    exact ⟨rfl, rfl, rfl, fun _ S => by simp only [PlainT]⟩
  split at h
  · cases h
    exact ⟨by simp [D.vt], rfl, by simp [D.wt], fun hl S => by
      simp only [PlainT]
      show p.toArray.size ≤ line
      rw [List.size_toArray]
      exact hl⟩
  split at h
  · split at h
    · rename_i e
      cases h
      exact ⟨by simp only [D.vt]; exact e, rfl, by simp only [D.wt]; rw [e], fun _ S => by simp only [PlainT]⟩
    · cases h
  · cases h
theorem put_pot {v : D} {os : List (List D)} {done : List D} {s : VS} (h : put v os done = some s) : pot s ≤ pot (os, done) + v.wt + 1 := by
  cases os with
  | nil =>
    simp only [put] at h
    split at h
    · cases h
      simp [pot, D.wtL]
    · cases h
  | cons ys os =>
    simp only [put] at h
    cases h
    simp [pot, wtL_app, D.wtL]
    omega
theorem vstep_pot {s s' : VS} {p : List Nat} (hp : 1 ≤ p.length) (h : vstep s p = some s') : pot s' ≤ pot s + 3 * p.length := by
  unfold vstep at h
  split at h
  · cases h
    simp [pot, D.wtL]
    omega
  split at h
  · cases h
    omega
  split at h
  · split at h
    · cases h
    · rename_i ys os e
      have := put_pot h
      have e2 : pot s = D.wtL ys + 3 + pot (os, s.2) := by
        unfold pot
        rw [e]
        simp
        omega
      simp only [D.wt] at this
      omega
  · split at h
    · cases h
    · rename_i v hv
      have := put_pot h
      rw [(plainOf_some hv).2.2.1] at this
      have e : pot (s.1, s.2) = pot s := rfl
      omega
theorem vrun_pot : ∀ (ps : List (List Nat)) {s s' : VS}, (∀ p ∈ ps, 1 ≤ p.length) → vrun ps s = some s' → pot s' ≤ pot s + 3 * lenSum ps
  | [], s, s', _, h => by
    cases h
    simp [lenSum]
  | p :: r, s, s', hp, h => by
    simp only [vrun] at h
    cases e : vstep s p with
    | none => rw [e] at h; cases h
    | some s1 =>
      rw [e] at h
      have a := vstep_pot (hp p (List.mem_cons_self ..)) e
      have b := vrun_pot r (fun q hq => hp q (List.mem_cons_of_mem _ hq)) h
      simp [lenSum] at b ⊢
      omega
/-- every node is plain -/
def PlainS (S : Sto) (s : VS) : Prop := (∀ ys ∈ s.1, PlainL S ys) ∧ PlainL S s.2
theorem put_plain {S : Sto} {v : D} {os : List (List D)} {done : List D} {s : VS} (h : put v os done = some s) (hv : PlainT S v) (hs : PlainS S (os, done)) : PlainS S s := by
  cases os with
  | nil =>
    simp only [put] at h
    split at h
    · cases h
      exact ⟨fun _ z => by simp at z, by simp only [PlainL]; exact ⟨hv, True.intro⟩⟩
    · cases h
  | cons ys os =>
    simp only [put] at h
    cases h
    refine ⟨fun zs hz => ?_, hs.2⟩
    rcases List.mem_cons.mp hz with rfl | hz
    · rw [plainL_iff]
      intro d hd
      rcases List.mem_append.mp hd with hd | hd
      · exact plainL_iff.mp (hs.1 ys (List.mem_cons_self ..)) d hd
      · simp at hd
        exact hd ▸ hv
    · exact hs.1 zs (List.mem_cons_of_mem _ hz)
theorem vstep_plain {S : Sto} {s s' : VS} {p : List Nat} (hp : p.length ≤ line) (h : vstep s p = some s') (hs : PlainS S s) : PlainS S s' := by
  unfold vstep at h
  split at h
  · cases h
    refine ⟨fun zs hz => ?_, hs.2⟩
    rcases List.mem_cons.mp hz with rfl | hz
    · simp only [PlainL]
    · exact hs.1 zs hz
  split at h
  · cases h
    exact hs
  split at h
  · split at h
    · cases h
    · rename_i ys os e
      refine put_plain h ?_ ⟨fun zs hz => hs.1 zs (by rw [e]; exact List.mem_cons_of_mem _ hz), hs.2⟩
      simp only [PlainT]
      exact hs.1 ys (by rw [e]; exact List.mem_cons_self ..)
  · split at h
    · cases h
    · rename_i v hv
      exact put_plain h ((plainOf_some hv).2.2.2 hp S) hs
theorem vrun_plain {S : Sto} : ∀ (ps : List (List Nat)) {s s' : VS}, (∀ p ∈ ps, p.length ≤ line) → vrun ps s = some s' → PlainS S s → PlainS S s'
  | [], s, s', _, h, hs => by
    cases h
    exact hs
  | p :: r, s, s', hp, h, hs => by
    simp only [vrun] at h
    cases e : vstep s p with
    | none => rw [e] at h; cases h
    | some s1 =>
      rw [e] at h
      exact vrun_plain r (fun q hq => hp q (List.mem_cons_of_mem _ hq)) h (vstep_plain (hp p (List.mem_cons_self ..)) e hs)
theorem vrun_done : ∀ (ps : List (List Nat)) {s s' : VS}, s.2.length ≤ 1 → vrun ps s = some s' → s'.2.length ≤ 1
  | [], s, s', h0, h => by
    cases h
    exact h0
  | p :: r, s, s', h0, h => by
    simp only [vrun] at h
    have putd : ∀ {v os s'}, put v os s.2 = some s' → s'.2.length ≤ 1 := fun {v os s'} z => by
      cases os with
      | nil =>
        simp only [put] at z
        split at z
        · cases z
          simp
        · cases z
      | cons ys os =>
        simp only [put] at z
        cases z
        exact h0
    cases e : vstep s p with
    | none => rw [e] at h; cases h
    | some s1 =>
      rw [e] at h
      refine vrun_done r ?_ h
      unfold vstep at e
      split at e
      · cases e
        exact h0
      split at e
      · cases e
        exact h0
      split at e
      · split at e
        · cases e
        · exact putd e
      · split at e
        · cases e
        · exact putd e
theorem valueOf_facts {ps : List (List Nat)} (h1 : ∀ p ∈ ps, 1 ≤ p.length) (h2 : ∀ p ∈ ps, p.length ≤ line) : (valueOf ps = [] ∨ ∃ v, valueOf ps = [v] ∧ v.wt ≤ 3 * lenSum ps ∧ ∀ S, PlainT S v) := by
  unfold valueOf
  split
  · rename_i done e
    have a := vrun_pot ps h1 e
    have c := vrun_done ps (by simp) e
    match done, a, c, e with
    | [], _, _, _ => exact .inl rfl
    | [v], a, _, e =>
      refine .inr ⟨v, rfl, by simp [pot, D.wtL] at a; omega, fun S => ?_⟩
      have := (vrun_plain (S := S) ps h2 e ⟨fun _ z => by simp at z, by simp only [PlainL]⟩).2
      simp only [PlainL] at this
      exact this.1
    | _ :: _ :: _, _, c, _ => simp at c
  · exact .inl rfl
end QV
set_option maxRecDepth 100000
set_option maxHeartbeats 1000000
/-! P7: the walk of value_of and read_value. -/
namespace QV
open PySem
local macro_rules | `(tactic| walk_at "qv") => `(tactic| repeat (first
  | with_reducible refine sw_one ?_ | with_reducible refine sw_cons ?_ | with_reducible refine sw_nil ?_ | with_reducible refine sw_ex ?_ | with_reducible refine sw_asg ?_ | with_reducible refine sw_par ?_ | with_reducible refine sw_setI ?_ | with_reducible refine sw_aug ?_
  | with_reducible refine sw_ret ?_ | with_reducible refine sw_ifs ?_ | with_reducible refine sw_brk ?_ | with_reducible refine sw_cnt ?_ | with_reducible refine sw_rai ?_ | with_reducible refine sw_fors ?_
  | with_reducible refine wp_non ?_ | with_reducible refine wp_bl ?_ | with_reducible refine wp_int ?_ | with_reducible refine wp_str ?_ | with_reducible refine wp_bin ?_ | with_reducible refine wp_isN ?_ | with_reducible refine wp_notN ?_
  | ((with_reducible refine wp_cmp ?_ ?_ ?_); (intro h; cases h); (intro h; cases h)) | with_reducible refine wp_nt ?_ | with_reducible refine wp_an ?_ | with_reducible refine wp_orr ?_ | with_reducible refine wp_ife ?_ | with_reducible refine wp_chn ?_
  | with_reducible refine wp_es0 ?_ | with_reducible refine wp_es ?_ | with_reducible refine wp_tup ?_ | with_reducible refine wp_lst ?_ | with_reducible refine wp_idx ?_ | with_reducible refine wp_o0 ?_ | with_reducible refine wp_o1 ?_ | with_reducible refine wp_slc ?_
  | with_reducible refine wp_call ?_ | with_reducible refine wp_callL ?_ | with_reducible refine wp_bi ?_ | with_reducible refine wp_isi ?_ | with_reducible refine wp_mth ?_ | with_reducible refine wp_fld ?_
  | with_reducible refine wp_lenT ?_ | with_reducible refine wp_addI ?_ | with_reducible refine wp_subI ?_ | with_reducible refine wp_ltI ?_ | with_reducible refine wp_leI ?_ | with_reducible refine wp_gtI ?_ | with_reducible refine wp_geI ?_ | with_reducible refine wp_eqI ?_
  | with_reducible refine wp_eqS ?_ | with_reducible refine wp_neS ?_ | with_reducible refine wp_intI ?_ | with_reducible refine wp_absI ?_ | with_reducible refine wp_strS ?_
  | ((with_reducible refine wp_var' ?_); (refine ⟨_, rfl, (by first | assumption | trivial), ?_⟩))))

def OL (S : Sto) : List Nat → List (List D) → Prop
  | [], [] => True
  | a :: as, ys :: os => S[a]? = some (.lst ys) ∧ OL S as os
  | _, _ => False
theorem OL.ext {M : Nat → Prop} {S S' : Sto} (x : Ext M S S') : ∀ {as : List Nat} {os : List (List D)}, (∀ a ∈ as, ¬ M a) → OL S as os → OL S' as os
  | [], [], _, _ => trivial
  | a :: as, ys :: os, hM, h => ⟨x.at h.1 (hM a (List.mem_cons_self ..)), OL.ext x (fun b hb => hM b (List.mem_cons_of_mem _ hb)) h.2⟩
  | [], _ :: _, _, h => h.elim
  | _ :: _, [], _, h => h.elim
structure OI (S : Sto) (m o e : Nat) (ps : List (List Nat)) (as : List Nat) (s : VS) (S2 : Sto) : Prop where
  x : Ex0 S S2
  m : S[m]? = some (.lst (ps.map fun p => D.str ⟨p.toArray⟩))
  go : S.length ≤ o
  ge : S.length ≤ e
  ne : e ≠ o
  ho : S2[o]? = some (.lst ((as.map D.loc).reverse))
  he : S2[e]? = some (.lst s.2)
  ol : OL S2 as s.1
  nd : as.Nodup
  ok : ∀ a ∈ as, S.length ≤ a ∧ a ≠ o ∧ a ≠ e ∧ a < S2.length
theorem OI.new {S S2 S3 : Sto} {m o e : Nat} {ps : List (List Nat)} {as : List Nat} {s : VS} (h : OI S m o e ps as s S2) (x : Ex0 S2 S3) : OI S m o e ps as s S3 :=
  ⟨h.x.trans x, h.m, h.go, h.ge, h.ne, x.keep h.ho, x.keep h.he, h.ol.ext x fun _ _ z => z, h.nd, fun a ha => let ⟨h1, h2, h3, h4⟩ := h.ok a ha; ⟨h1, h2, h3, Nat.lt_of_lt_of_le h4 x.len⟩⟩
theorem isEmpty_map {α β : Type} (f : α → β) (l : List α) : (l.map f).reverse.isEmpty = l.isEmpty := by
  cases l <;> simp
section
variable {F d : Nat} {S : Sto} {Q : D → Sto → Prop} {E : D → Sto → Prop}
theorem wp_tupL {n : Nat} {xs : List D} (h : asL S (.loc n) = some xs) (q : Q (.tup xs) S) : Wp (biD .tuple [.loc n]) S Q E :=
  show Wp (fun S => ofOpt ((asL S (.loc n)).map D.tup) S) S Q E from wp_optS (by rw [h]; rfl) q
theorem atD_last {xs : List D} {y : D} : atD (xs ++ [y]) (0 - 1) = some y := by
  unfold atD
  rw [if_neg (by omega), if_pos (by simp; omega)]
  have : (0 - 1 + ((xs ++ [y]).length : Int)).toNat = xs.length := by simp; omega
  rw [this]
  simp
theorem pot_len (s : VS) : (s.1.map List.length).sum + s.1.length + s.2.length ≤ pot s := by
  unfold pot
  have h2 := wtL_len s.2
  generalize s.1 = L
  have : (L.map List.length).sum + L.length ≤ (L.map fun ys => D.wtL ys + 3).sum := by
    induction L with
    | nil => simp
    | cons y L ih =>
      have := wtL_len y
      simp
      omega
  omega
theorem OL.length {S : Sto} : ∀ {as : List Nat} {os : List (List D)}, OL S as os → as.length = os.length
  | [], [], _ => rfl
  | a :: as, ys :: os, h => by simp [OL.length h.2]
  | [], _ :: _, h => h.elim
  | _ :: _, [], h => h.elim
theorem tail_ok {P : Po} {m o e r : Nat} {ps : List (List Nat)} {as : List Nat} {os : List (List D)} {done : List D} {v : D} {x : D} {S4 : Sto} (O : OI S m o e ps as (os, done) S4) (h4 : S4[r]? = some (.lst [v])) (hr : S.length ≤ r) (ro : r ≠ o) (re : r ≠ e) (ra : r ∉ as)
    (sums : (os.map List.length).sum + os.length + done.length < line)
    (k1 : ∀ e' as' s' S5 b, put v os done = some s' → OI S m o e' ps as' s' S5 → P.nx [some (.loc m), some (.loc o), some (.loc e'), some x, b] S5) (k2 : ∀ n S5, Ex0 S S5 → S.length ≤ n → S5[n]? = some (.lst []) → put v os done = none → P.rt (.loc n) S5) :
    Sw (evSs TBx (callN TBx F d) F [(.ifs (.orr (.cmp .eq (.var 4) (.lst [])) (.an (.cmp .eq (.var 1) (.lst [])) (.cmp .ne (.var 2) (.lst [])))) [(.ret (.lst []))] []), (.ifs (.cmp .eq (.var 1) (.lst [])) [(.asg (.nm 2) (.var 4))] [(.ex (.mth .append (.idx (.var 1) (.bin .sub (.int 0) (.int 1))) [(.idx (.var 4) (.int 0))]))])])
      [some (.loc m), some (.loc o), some (.loc e), some x, some (.loc r)] S4 P := by
  have asl : as.length = os.length := O.ol.length
  walk_at "qv"
  refine ⟨by simp [line], fun q S5 e5 x5 h5 l5 => ?_⟩
  refine wp_eq (eqD_nil (x5.keep h4) h5) ?_
  refine ⟨false, rfl, fun _ => ?_, fun z => by cases z⟩
  walk_at "qv"
  refine ⟨by simp [line], fun q2 S6 e6 x6 h6 l6 => ?_⟩
  have O6 := (O.new x5).new x6
  have h46 := x6.keep (x5.keep h4)
  refine wp_eq (eqD_nil O6.ho h6) ?_
  rw [isEmpty_map]
  match as, os, asl, O, O6, k1, k2, ra, sums with
  | [], [], _, O, O6, k1, k2, _, _ =>
    refine ⟨true, rfl, fun _ => ?_, fun z => by cases z⟩
    walk_at "qv"
    refine ⟨by simp [line], fun q3 S7 e7 x7 h7 l7 => ?_⟩
    have O7 := O6.new x7
    refine wp_ne (eqD_nil O7.he h7) ?_
    refine ⟨_, rfl, fun k => ?_, fun k => ?_⟩
    · walk_at "qv"
      refine ⟨by simp [line], fun n S8 e8 x8 h8 l8 => ?_⟩
      refine k2 n S8 (O7.x.trans x8) (by have := O7.x.len; omega) h8 ?_
      simp only [Bool.not_eq_true'] at k
      rw [put, if_neg (by rw [k]; simp)]
    · walk_at "qv"
      refine ⟨by simp [line], fun n S8 e8 x8 h8 l8 => ?_⟩
      have O8 := O7.new x8
      refine wp_eq (eqD_nil O8.ho h8) ?_
      refine ⟨true, rfl, fun _ => ?_, fun z => by cases z⟩
      walk_at "qv"
      simp only [Bool.not_eq_false'] at k
      refine k1 r [] ([], [v]) S8 _ (by rw [put, if_pos k]) ⟨O8.x, O.m, O.go, hr, ro, O8.ho, x8.keep (x7.keep h46), trivial, List.nodup_nil, fun a ha => by cases ha⟩
  | a :: as, ys :: os, _, O, O6, k1, k2, ra, sums =>
    refine ⟨false, rfl, fun z => (by cases z), fun _ => ?_⟩
    refine ⟨false, rfl, fun z => (by cases z), fun _ => ?_⟩
    walk_at "qv"
    refine ⟨by simp [line], fun n S8 e8 x8 h8 l8 => ?_⟩
    have O8 := O6.new x8
    refine wp_eq (eqD_nil O8.ho h8) ?_
    rw [isEmpty_map]
    refine ⟨false, rfl, fun z => (by cases z), fun _ => ?_⟩
    have hO := O8.ho
    simp only [List.map_cons, List.reverse_cons] at hO
    have ola := O8.ol
    have oka := O8.ok a (List.mem_cons_self ..)
    have nd := List.nodup_cons.mp O8.nd
    walk_at "qv"
    refine wp_idxL (asL_lst hO) atD_last ?_
    refine wp_chk (by intro h; cases h) ola.1 ?_
    walk_at "qv"
    refine wp_idxL (y := v) (asL_lst (x8.keep h46)) rfl ?_
    walk_at "qv"
    refine wp_append ola.1 (by simp only [List.map_cons, List.sum_cons, List.length_cons] at sums; omega) fun S9 x9 h9 l9 => ?_
    refine k1 e (a :: as) ((ys ++ [v]) :: os, done) S9 _ rfl ⟨O8.x.trans' x9 fun n hn z => by omega, O.m, O.go, O.ge, O.ne, x9.at O8.ho (Ne.symm oka.2.1), x9.at O8.he (Ne.symm oka.2.2.1), ⟨h9, ola.2.ext x9 fun b hb z => nd.1 (z ▸ hb)⟩, O8.nd, fun b hb => by have := O8.ok b hb; exact ⟨this.1, this.2.1, this.2.2.1, by omega⟩⟩
theorem value_ok {m : Nat} {ps : List (List Nat)} (hm : S[m]? = some (.lst (ps.map fun p => D.str ⟨p.toArray⟩))) (hp : ∀ p ∈ ps, 1 ≤ p.length) (hl : 3 * lenSum ps < line)
    (h : ∀ n S', Ex0 S S' → S.length ≤ n → S'[n]? = some (.lst (valueOf ps)) → Q (.loc n) S') : Wp (callN TBx F (d + 3) (.fn 6) [.loc m]) S Q E := by
  refine wp_fn (n := 1) (m := 5) (body := b6) rfl rfl (by decide) ?_
  unfold b6
  walk_at "qv"
  refine ⟨by simp [line], fun o S1 e1 x1 h1 l1 => ?_⟩
  walk_at "qv"
  refine ⟨by simp [line], fun e S2 e2 x2 h2 l2 => ?_⟩
  walk_at "qv"
  refine wp_itLoc (asL_lst (x2.keep (x1.keep hm))) ?_
  have bad : ∀ pre p post s, ps = pre ++ p :: post → vrun pre ([], []) = some s → vstep s p = none → valueOf ps = [] := fun pre p post s e1 e2 e3 => by
    unfold valueOf
    rw [e1, vrun_app, e2]
    simp [vrun, e3]
  refine sw_for_live (xs := ps.map fun p => D.str ⟨p.toArray⟩) (I := fun pr env S3 => ∃ pre e as s b c, pr = pre.map (fun p => D.str ⟨p.toArray⟩) ∧ env = [some (.loc m), some (.loc o), some (.loc e), b, c] ∧ vrun pre ([], []) = some s ∧ OI S m o e ps as s S3) ?_ ?_ ?_ ?_
  · rintro pr env S3 ⟨pre, e, as, s, b, c, _, rfl, hv, O⟩
    exact asL_lst (O.x.keep O.m)
  · exact ⟨[], e, [], ([], []), none, none, rfl, rfl, rfl, ⟨x1.trans x2, hm, by omega, by omega, by omega, x2.keep h1, h2, trivial, List.nodup_nil, fun a ha => by cases ha⟩⟩
  · rintro pr x post env S3 hsp ⟨pre, e, as, s, b, c, rfl, rfl, hv, O⟩
    obtain ⟨p, rest, rfl, hps⟩ : ∃ p rest, x = .str ⟨p.toArray⟩ ∧ ps = pre ++ p :: rest := by
      have hl := congrArg List.length hsp
      simp at hl
      have hk : pre.length < ps.length := by omega
      refine ⟨ps[pre.length], ps.drop (pre.length + 1), ?_, ?_⟩
      · have := congrArg (fun l => l[pre.length]?) hsp
        simp [hk] at this
        exact this.symm
      · have h2 := congrArg (fun l => l.take pre.length) hsp
        simp at h2
        rw [← List.map_take] at h2
        have inj : ∀ (a b : List (List Nat)), a.map (fun p => D.str ⟨p.toArray⟩) = b.map (fun p => D.str ⟨p.toArray⟩) → a = b := by
          intro a
          induction a with
          | nil => intro b hb; cases b with | nil => rfl | cons _ _ => simp at hb
          | cons x a ih =>
            intro b hb
            cases b with
            | nil => simp at hb
            | cons y b =>
              simp at hb
              rw [hb.1, ih b (by simpa using hb.2)]
        have h3 := inj _ _ h2
        conv => lhs; rw [← List.take_append_drop pre.length ps, List.drop_eq_getElem_cons hk, h3]
    clear hsp
    refine ⟨_, rfl, ?_⟩
    have pn : valueOf ps = [] ∨ True := .inr trivial
    have hpp : 1 ≤ p.length := hp p (by rw [hps]; simp)
    have psum : lenSum pre + p.length ≤ lenSum ps := by
      rw [hps]
      simp [lenSum]
    have hpot := vrun_pot pre (fun q hq => hp q (by rw [hps]; exact List.mem_append_left _ hq)) hv
    have pl : p.length ≤ line := by omega
    have sums := pot_len s
    have dn := vrun_done pre (by simp) hv
    have app : ∀ s', vstep s p = some s' → vrun (pre ++ [p]) ([], []) = some s' := fun s' z => by
      rw [vrun_app, hv]
      simp [vrun, z]
    have pot0 : pot ([], []) = 0 := by simp [pot, D.wtL]
    have asl : as.length = s.1.length := O.ol.length
    have hod : ∀ l : List Nat, decide ((⟨p.toArray⟩ : Str) = ⟨l.toArray⟩) = decide (p = l) := fun l => by
      congr 1
      simp
    walk_at "qv"
    rw [hod]
    refine ⟨_, rfl, fun k => ?_, fun k => ?_⟩
    · have k := of_decide_eq_true k
      walk_at "qv"
      refine wp_chk (by intro h; cases h) O.ho ?_
      walk_at "qv"
      refine ⟨by simp [line], fun a S4 e4 x4 h4 l4 => ?_⟩
      have O4 := O.new x4
      have hol : o < S3.length := lt_of_get O.ho
      have hel : e < S3.length := lt_of_get O.he
      refine wp_append O4.ho (by rw [List.length_reverse, List.length_map]; omega) fun S5 x5 h5 l5 => ?_
      walk_at "qv"
      refine ⟨pre ++ [p], e, a :: as, ([] :: s.1, s.2), _, _, by simp, rfl, app _ (by rw [vstep, if_pos k]), ⟨O4.x.trans' x5 fun n hn z => ?_, O.m, O.go, O.ge, O.ne, by rw [h5]; simp, x5.at O4.he O.ne, ⟨x5.at h4 (by omega), O4.ol.ext x5 fun b hb z => (O4.ok b hb).2.1 z⟩, List.nodup_cons.mpr ⟨fun z => ?_, O.nd⟩, fun b hb => ?_⟩⟩
      · have := O.go
        omega
      · have := (O.ok a z).2.2.2
        omega
      · rcases List.mem_cons.mp hb with rfl | hb
        · have := O.go
          exact ⟨by omega, by omega, by omega, by omega⟩
        · have := O4.ok b hb
          exact ⟨this.1, this.2.1, this.2.2.1, by omega⟩
    have k := of_decide_eq_false k
    walk_at "qv"
    rw [hod]
    refine ⟨_, rfl, fun k2 => ?_, fun k2 => ?_⟩
    · have k2 := of_decide_eq_true k2
      walk_at "qv"
      exact ⟨pre ++ [p], e, as, s, _, _, by simp, rfl, app _ (by rw [vstep, if_neg k, if_pos k2]), O⟩
    have k2 := of_decide_eq_false k2
    walk_at "qv"
    rw [hod]
    refine ⟨_, rfl, fun k3 => ?_, fun k3 => ?_⟩
    · have k3 := of_decide_eq_true k3
      walk_at "qv"
      refine ⟨by simp [line], fun r S4 e4 x4 h4 l4 => ?_⟩
      have O4 := O.new x4
      refine wp_eq (eqD_nil O4.ho h4) ?_
      rw [isEmpty_map]
      match as, s, O4, asl, hv, app, sums, hpot, dn with
      | [], (os, done), O4, asl, hv, app, _, _, _ =>
        have hos : os = [] := List.eq_nil_of_length_eq_zero asl.symm
        subst hos
        refine ⟨true, rfl, fun _ => ?_, fun z => by cases z⟩
        walk_at "qv"
        refine ⟨by simp [line], fun n S5 e5 x5 h5 l5 => ?_⟩
        refine h n S5 (O4.x.trans x5) (by have := O4.x.len; omega) ?_
        rw [h5, bad pre p rest ([], done) hps hv (by rw [vstep, if_neg k, if_neg k2, if_pos k3])]
      | a :: as, (os, done), O4, asl, hv, app, sums, hpot, dn =>
        refine ⟨false, rfl, fun z => (by cases z), fun _ => ?_⟩
        cases os with
        | nil => cases asl
        | cons ys os =>
        have hO := O4.ho
        simp only [List.map_cons, List.reverse_cons] at hO
        have ola := O4.ol
        have oka := O4.ok a (List.mem_cons_self ..)
        walk_at "qv"
        refine wp_chk (by intro h; cases h) hO ?_
        walk_at "qv"
        refine wp_pop hO fun S5 x5 h5 l5 => ?_
        walk_at "qv"
        refine wp_tupL (asL_lst (x5.at ola.1 oka.2.1)) ?_
        walk_at "qv"
        refine ⟨by simp [line], fun r S6 e6 x6 h6 l6 => ?_⟩
        have nd := List.nodup_cons.mp O4.nd
        have O5 : OI S m o e ps as (os, done) S5 := ⟨O4.x.trans' x5 fun n hn z => by have := O4.go; omega, O4.m, O4.go, O4.ge, O4.ne, h5, x5.at O4.he O4.ne, ola.2.ext x5 fun b hb z => (O4.ok b (List.mem_cons_of_mem _ hb)).2.1 z, nd.2, fun b hb => by have := O4.ok b (List.mem_cons_of_mem _ hb); exact ⟨this.1, this.2.1, this.2.2.1, by omega⟩⟩
        have O6 := O5.new x6
        have hol : o < S5.length := lt_of_get h5
        have hel : e < S5.length := lt_of_get O5.he
        have := O.go
        refine tail_ok O6 h6 (by omega) (by omega) (by omega) (fun z => by have := (O5.ok r z).2.2.2; omega) (by simp only [List.map_cons, List.sum_cons, List.length_cons] at sums; omega) (fun e' as' s' S7 b hs O7 => ⟨pre ++ [p], e', as', s', _, _, by simp, rfl, app _ (by rw [vstep, if_neg k, if_neg k2, if_pos k3]; exact hs), O7⟩) fun n S7 x7 hn h7 hs => h n S7 x7 hn ?_
        rw [h7, bad pre p rest _ hps hv (by rw [vstep, if_neg k, if_neg k2, if_pos k3]; exact hs)]
    · have k3 := of_decide_eq_false k3
      walk_at "qv"
      refine plainof_ok pl fun r S4 x4 hr h4 => ?_
      have O4 := O.new x4
      have hol : o < S3.length := lt_of_get O.ho
      have hel : e < S3.length := lt_of_get O.he
      have hgo := O.go
      cases hpo : plainOf p with
      | none =>
        rw [hpo] at h4
        walk_at "qv"
        refine ⟨by simp [line], fun q S5 e5 x5 h5 l5 => ?_⟩
        refine wp_eq (eqD_nil (x5.keep h4) h5) ?_
        refine ⟨true, rfl, fun z => (by cases z), fun _ => ?_⟩
        refine ⟨true, rfl, fun _ => ?_, fun z => by cases z⟩
        walk_at "qv"
        refine ⟨by simp [line], fun n S6 e6 x6 h6 l6 => ?_⟩
        refine h n S6 (O4.x.trans (x5.trans x6)) (by have := O4.x.len; have := x5.len; omega) ?_
        rw [h6, bad pre p rest s hps hv (by rw [vstep, if_neg k, if_neg k2, if_neg k3, hpo])]
      | some v =>
        rw [hpo] at h4
        refine tail_ok O4 h4 (by omega) (by omega) (by omega) (fun z => by have := (O.ok r z).2.2.2; omega) (by omega) (fun e' as' s' S7 b hs O7 => ⟨pre ++ [p], e', as', s', _, _, by simp, rfl, app _ (by rw [vstep, if_neg k, if_neg k2, if_neg k3, hpo]; exact hs), O7⟩) fun n S7 x7 hn h7 hs => h n S7 x7 hn ?_
        rw [h7, bad pre p rest _ hps hv (by rw [vstep, if_neg k, if_neg k2, if_neg k3, hpo]; exact hs)]
  · rintro env S3 ⟨pre, e, as, s, b, c, hpr, rfl, hv, O⟩
    have hpe : ps = pre := by
      have inj : ∀ (a b : List (List Nat)), a.map (fun p => D.str ⟨p.toArray⟩) = b.map (fun p => D.str ⟨p.toArray⟩) → a = b := by
        intro a
        induction a with
        | nil => intro b hb; cases b with | nil => rfl | cons _ _ => simp at hb
        | cons x a ih =>
          intro b hb
          cases b with
          | nil => simp at hb
          | cons y b =>
            simp at hb
            rw [hb.1, ih b (by simpa using hb.2)]
      exact inj _ _ hpr
    subst hpe
    have asl : as.length = s.1.length := O.ol.length
    walk_at "qv"
    refine ⟨by simp [line], fun r S4 e4 x4 h4 l4 => ?_⟩
    have O4 := O.new x4
    refine wp_eq (eqD_nil O4.ho h4) ?_
    rw [isEmpty_map]
    match as, s, O4, asl, hv with
    | [], (os, done), O4, asl, hv =>
      have hos : os = [] := List.eq_nil_of_length_eq_zero asl.symm
      subst hos
      refine ⟨true, rfl, fun _ => ?_, fun z => by cases z⟩
      walk_at "qv"
      refine h e S4 O4.x O4.ge ?_
      rw [O4.he]
      simp only [valueOf, hv]
    | a :: as, (os, done), O4, asl, hv =>
      refine ⟨false, rfl, fun z => (by cases z), fun _ => ?_⟩
      walk_at "qv"
      refine ⟨by simp [line], fun n S5 e5 x5 h5 l5 => ?_⟩
      refine h n S5 (O4.x.trans x5) (by have := O4.x.len; omega) ?_
      rw [h5]
      cases os with
      | nil => cases asl
      | cons ys os => simp only [valueOf, hv]
/-- what read_value tells -/
def readV (t : List Nat) : Option D := match valueOf (pcs t) with
  | v :: _ => if isVal v && decide (v.vt = t) then some v else none
  | [] => none
theorem pcs_mem {t p : List Nat} (h : p ∈ pcs t) : 1 ≤ p.length ∧ p.length ≤ t.length := by
  obtain ⟨a, b⟩ := pcs_sum t.length t (Nat.le_refl _)
  refine ⟨b p h, ?_⟩
  rw [← a]
  clear a b
  generalize pcs t = L at h
  induction L with
  | nil => cases h
  | cons q L ih =>
    rcases List.mem_cons.mp h with rfl | h
    · simp [lenSum]
    · have := ih h
      simp [lenSum] at this ⊢
      omega
theorem read_ok {t : List Nat} (ht : t.length ≤ 2000) (hF : 40000 ≤ F) (hF2 : F ≤ line) (h1 : ∀ v, readV t = some v → ∀ S', Ex0 S S' → Q v S') (h2 : readV t = none → ∀ S', Ex0 S S' → E nt0 S') :
    Wp (callN TBx F (d + 4) (.fn 7) [.str ⟨t.toArray⟩]) S Q E := by
  refine wp_fn (n := 1) (m := 2) (body := b7) rfl rfl (by decide) ?_
  have htl : Str.length ⟨t.toArray⟩ = t.length := by
    show t.toArray.size = _
    rw [List.size_toArray]
  have hln : line = 16777216 := rfl
  have hsum := (pcs_sum t.length t (Nat.le_refl _)).1
  unfold b7
  walk_at "qv"
  refine ⟨true, rfl, true, rfl, _, rfl, fun z => (by cases z), fun _ => ?_⟩
  walk_at "qv"
  refine pieces_ok (by omega) (by omega) fun m S1 x1 _ hm => ?_
  have hm : S1[m]? = some (.lst ((pcs t).map fun p => D.str ⟨p.toArray⟩)) := hm
  walk_at "qv"
  refine value_ok hm (fun p hp => (pcs_mem hp).1) (by omega) fun n S2 x2 _ hn => ?_
  walk_at "qv"
  refine ⟨by simp [line], fun q S3 e3 x3 h3 _ => ?_⟩
  refine wp_eq (eqD_nil (x3.keep hn) h3) ?_
  have x13 : Ex0 S S3 := x1.trans (x2.trans x3)
  rcases valueOf_facts (ps := pcs t) (fun p hp => (pcs_mem hp).1) (fun p hp => by have := pcs_mem hp; omega) with e | ⟨v, e, hw, hpl⟩
  · rw [e]
    refine ⟨true, rfl, fun z => (by cases z), fun _ => ?_⟩
    refine ⟨true, rfl, fun _ => ?_, fun z => by cases z⟩
    walk_at "qv"
    exact ⟨nt0, rfl, h2 (by rw [readV, e]) S3 x13⟩
  · rw [e] at hn ⊢
    have hn3 := x3.keep hn
    have hsz := sz_le v
    have hvt := vt_le v
    have nv : NC v := (hpl S).plain.nc
    refine ⟨false, rfl, fun _ => ?_, fun z => by cases z⟩
    walk_at "qv"
    refine wp_idxL (y := v) (asL_lst hn3) rfl ?_
    walk_at "qv"
    refine val_ok (hpl S3) (by omega) fun S4 x4 => ?_
    refine ⟨_, rfl, _, rfl, fun k => ?_, fun k => ?_⟩
    · simp only [Bool.not_eq_false'] at k
      walk_at "qv"
      refine wp_idxL (y := v) (asL_lst (x4.keep hn3)) rfl ?_
      walk_at "qv"
      refine vtext_ok (hpl S4) (by omega) hF2 (fun _ => by omega) (fun _ S5 x5 => ?_) (fun z => by rw [k] at z; cases z)
      walk_at "qv"
      refine ⟨_, rfl, fun k2 => ?_, fun k2 => ?_⟩
      · walk_at "qv"
        refine ⟨nt0, rfl, h2 ?_ S5 (x13.trans (x4.trans x5))⟩
        have : v.vt ≠ t := fun z => by
          rw [z] at k2
          simp at k2
        rw [readV, e]
        simp [this]
      · walk_at "qv"
        refine wp_idxL (y := v) (asL_lst (x5.keep (x4.keep hn3))) rfl ?_
        refine h1 v ?_ S5 (x13.trans (x4.trans x5))
        have : v.vt = t := by
          simpa using k2
        rw [readV, e]
        simp [this, k]
    · refine ⟨_, rfl, fun _ => ?_, fun z => by cases z⟩
      walk_at "qv"
      refine ⟨nt0, rfl, h2 ?_ S4 (x13.trans x4)⟩
      simp only [Bool.not_eq_true'] at k
      rw [readV, e]
      simp [k]
theorem read_no {v : D} (hv : Plain S v) (hs : ∀ x, v ≠ .str x) (h2 : ∀ S', Ex0 S S' → E nt0 S') : Wp (callN TBx F (d + 1) (.fn 7) [v]) S Q E := by
  refine wp_fn (n := 1) (m := 2) (body := b7) rfl rfl (by decide) ?_
  have nc := hv.nc
  unfold b7
  walk_at "qv"
  have : isiAny S v [.str] = some false := by
    cases v <;> first | rfl | exact hv.elim | exact absurd rfl (hs _) | skip
    obtain ⟨xs, hx⟩ := hv
    simp [isiAny, isiD, hx]
  refine ⟨false, this, _, rfl, _, rfl, fun _ => ?_, fun z => by cases z⟩
  walk_at "qv"
  exact ⟨nt0, rfl, h2 S Ext.refl⟩
end
end QV
set_option maxRecDepth 100000
set_option maxHeartbeats 1000000
/-! P8: the draws. -/
namespace QV
open PySem
local macro_rules | `(tactic| walk_at "qv") => `(tactic| repeat (first
  | with_reducible refine sw_one ?_ | with_reducible refine sw_cons ?_ | with_reducible refine sw_nil ?_ | with_reducible refine sw_ex ?_ | with_reducible refine sw_asg ?_ | with_reducible refine sw_par ?_ | with_reducible refine sw_setI ?_ | with_reducible refine sw_aug ?_
  | with_reducible refine sw_ret ?_ | with_reducible refine sw_ifs ?_ | with_reducible refine sw_brk ?_ | with_reducible refine sw_cnt ?_ | with_reducible refine sw_rai ?_ | with_reducible refine sw_fors ?_
  | with_reducible refine wp_non ?_ | with_reducible refine wp_bl ?_ | with_reducible refine wp_int ?_ | with_reducible refine wp_str ?_ | with_reducible refine wp_bin ?_ | with_reducible refine wp_isN ?_ | with_reducible refine wp_notN ?_
  | ((with_reducible refine wp_cmp ?_ ?_ ?_); (intro h; cases h); (intro h; cases h)) | with_reducible refine wp_nt ?_ | with_reducible refine wp_an ?_ | with_reducible refine wp_orr ?_ | with_reducible refine wp_ife ?_ | with_reducible refine wp_chn ?_
  | with_reducible refine wp_es0 ?_ | with_reducible refine wp_es ?_ | with_reducible refine wp_tup ?_ | with_reducible refine wp_lst ?_ | with_reducible refine wp_idx ?_ | with_reducible refine wp_o0 ?_ | with_reducible refine wp_o1 ?_ | with_reducible refine wp_slc ?_
  | with_reducible refine wp_call ?_ | with_reducible refine wp_callL ?_ | with_reducible refine wp_bi ?_ | with_reducible refine wp_isi ?_ | with_reducible refine wp_mth ?_ | with_reducible refine wp_fld ?_
  | with_reducible refine wp_lenT ?_ | with_reducible refine wp_addI ?_ | with_reducible refine wp_subI ?_ | with_reducible refine wp_ltI ?_ | with_reducible refine wp_leI ?_ | with_reducible refine wp_gtI ?_ | with_reducible refine wp_geI ?_ | with_reducible refine wp_eqI ?_
  | with_reducible refine wp_eqS ?_ | with_reducible refine wp_neS ?_ | with_reducible refine wp_intI ?_ | with_reducible refine wp_absI ?_ | with_reducible refine wp_strS ?_
  | ((with_reducible refine wp_var' ?_); (refine ⟨_, rfl, (by first | assumption | trivial), ?_⟩))))

def kGreat : Str := ⟨#[103, 114, 101, 97, 116]⟩
def kCells : Str := ⟨#[99, 101, 108, 108, 115]⟩
def kRest : Str := ⟨#[114, 101, 115, 116]⟩
def kTurn : Str := ⟨#[116, 117, 114, 110]⟩
/-- the state of the draws: the dict at s, its lists at g, c; t: a bound of the turns -/
structure St (s g c : Nat) (cl : List Int) (t : Nat) (S : Sto) : Prop where
  sg : s ≠ g
  sc : s ≠ c
  gc : g ≠ c
  hc : S[c]? = some (.lst (cl.map D.int))
  hs : ∃ (gl : List Int) (r : Int) (k : Nat), k ≤ t ∧ S[g]? = some (.lst (gl.map D.int)) ∧ S[s]? = some (.dic [(kGreat, .loc g), (kCells, .loc c), (kRest, .int r), (kTurn, .int k)])
def Sg (s g : Nat) : Nat → Prop := fun n => n = s ∨ n = g
section
variable {s g c : Nat} {cl : List Int} {t : Nat} {S S' : Sto}
theorem St.ext {M : Nat → Prop} (h : St s g c cl t S) (x : Ext M S S') (hs : ¬ M s) (hg : ¬ M g) (hc : ¬ M c) : St s g c cl t S' := by
  obtain ⟨gl, r, k, h1, h2, h3⟩ := h.hs
  exact ⟨h.sg, h.sc, h.gc, x.at h.hc hc, gl, r, k, h1, x.at h2 hg, x.at h3 hs⟩
theorem St.new (h : St s g c cl t S) (x : Ex0 S S') : St s g c cl t S' := h.ext x (fun z => z) (fun z => z) fun z => z
theorem St.mono {t' : Nat} (h : St s g c cl t S) (l : t ≤ t') : St s g c cl t' S := by
  obtain ⟨gl, r, k, h1, h2, h3⟩ := h.hs
  exact ⟨h.sg, h.sc, h.gc, h.hc, gl, r, k, Nat.le_trans h1 l, h2, h3⟩
end
section
variable {F d : Nat} {S : Sto} {Q : D → Sto → Prop} {E : D → Sto → Prop}
theorem wp_powI {i j : Int} (h0 : 0 ≤ j) (h1 : j ≤ 1000000) (h2 : i.natAbs < 2 ^ 64) (q : Q (.int (i ^ j.toNat)) S) : Wp (opD .pow (.int i) (.int j)) S Q E :=
  wp_only (by rw [decide_eq_true h0, decide_eq_true h1, decide_eq_true h2]; rfl) q
theorem wp_modI {i j : Int} (h0 : 0 < j) (q : Q (.int (i % j)) S) : Wp (opD .mod (.int i) (.int j)) S Q E := wp_only (decide_eq_true h0) q
theorem wp_divI {i j : Int} (h0 : 0 < j) (h1 : j < 1073741824) (q : Q (.int (i / j)) S) : Wp (opD .fdiv (.int i) (.int j)) S Q E := wp_only (by rw [decide_eq_true h0, decide_eq_true h1]; rfl) q
theorem wp_mulI {i j : Int} (h : (-(2 ^ 64) < i ∧ i < 2 ^ 64) ∨ (-(2 ^ 64) < j ∧ j < 2 ^ 64)) (q : Q (.int (i * j)) S) : Wp (opD .mul (.int i) (.int j)) S Q E := by
  refine wp_only ?_ q
  unfold mulOk
  rcases h with ⟨h1, h2⟩ | ⟨h1, h2⟩
  · rw [decide_eq_true h1, decide_eq_true h2]
    rfl
  · rw [decide_eq_true h1, decide_eq_true h2]
    simp
theorem wp_idxK {n : Nat} {kvs : List (Str × D)} {k : Str} {v : D} (h : S[n]? = some (.dic kvs)) (e : look kvs k = some v) (q : Q v S) : Wp (idxD (.loc n) (.str k)) S Q E := by
  unfold Wp idxD
  simp only [h, e]
  exact q
theorem wp_setK {n : Nat} {kvs : List (Str × D)} {k : Str} {v w : D} {Q : Unit → Sto → Prop} (h : S[n]? = some (.dic kvs)) (e : look kvs k = some w) (hl : kvs.length < 1000) (q : ∀ S', Ext (· = n) S S' → S'[n]? = some (.dic (kvs.map fun p => if p.1 = k then (k, v) else p)) → Q () S') : Wp (setD (.loc n) (.str k) v) S Q E := by
  unfold Wp setD
  simp only [h, e]
  rw [decide_eq_true hl]
  exact q _ (ext_set fun _ => rfl) (set_at h)
theorem wp_pop0 {n : Nat} {xs : List D} {y : D} (h : S[n]? = some (.lst (y :: xs))) (q : ∀ S', Ext (· = n) S S' → S'[n]? = some (.lst xs) → Q y S') : Wp (mthD .pop (.loc n) [.int 0]) S Q E := by
  have e : mthD .pop (.loc n) [.int 0] S = .ok y (S.set n (.lst xs)) := by simp [mthD, onlyIf, h]
  unfold Wp
  rw [e]
  exact q _ (ext_set fun _ => rfl) (set_at h)
theorem wp_lenL {n : Nat} {xs : List D} (h : asL S (.loc n) = some xs) (q : Q (.int xs.length) S) : Wp (biD .len [.loc n]) S Q E :=
  show Wp (fun S => ofOpt ((asL S (.loc n)).map fun xs => D.int xs.length) S) S Q E from wp_optS (by rw [h]; rfl) q
theorem look_rest {g c : Nat} {r k : D} : look [(kGreat, .loc g), (kCells, .loc c), (kRest, r), (kTurn, k)] kRest = some r := rfl
theorem look_turn {g c : Nat} {r k : D} : look [(kGreat, .loc g), (kCells, .loc c), (kRest, r), (kTurn, k)] kTurn = some k := rfl
theorem look_great {g c : Nat} {r k : D} : look [(kGreat, .loc g), (kCells, .loc c), (kRest, r), (kTurn, k)] kGreat = some (.loc g) := rfl
theorem look_cells {g c : Nat} {r k : D} : look [(kGreat, .loc g), (kCells, .loc c), (kRest, r), (kTurn, k)] kCells = some (.loc c) := rfl
theorem put_rest {g c : Nat} {r k v : D} : ([(kGreat, .loc g), (kCells, .loc c), (kRest, r), (kTurn, k)] : List (Str × D)).map (fun p => if p.1 = kRest then (kRest, v) else p) = [(kGreat, .loc g), (kCells, .loc c), (kRest, v), (kTurn, k)] := rfl
theorem put_turn {g c : Nat} {r k v : D} : ([(kGreat, .loc g), (kCells, .loc c), (kRest, r), (kTurn, k)] : List (Str × D)).map (fun p => if p.1 = kTurn then (kTurn, v) else p) = [(kGreat, .loc g), (kCells, .loc c), (kRest, r), (kTurn, v)] := rfl
theorem mixed_ok {s g c : Nat} {cl : List Int} {t : Nat} (h : St s g c cl t S) (ht : t ≤ 1000000) (q : ∀ (i : Int) S', Ext (· = s) S S' → St s g c cl (t + 1) S' → (∀ gl, S[g]? = some gl → S'[g]? = some gl) → Q (.int i) S') : Wp (callN TBx F (d + 1) (.fn 9) [.loc s]) S Q E := by
  obtain ⟨gl, r, k, hk, hg, hs⟩ := h.hs
  refine wp_fn (n := 1) (m := 6) (body := b9) rfl rfl (by decide) ?_
  unfold b9
  walk_at "qv"
  refine wp_idxK hs look_turn ?_
  walk_at "qv"
  refine wp_setK (k := kTurn) hs look_turn (by simp) fun S1 x1 h1 => ?_
  rw [put_turn] at h1
  have hc1 := x1.at h.hc (Ne.symm h.sc)
  have hg1 := x1.at hg (Ne.symm h.sg)
  walk_at "qv"
  refine ⟨by simp [line], fun a S2 e2 x2 h2 l2 => ?_⟩
  refine wp_itLoc (asL_lst h2) ?_
  have x12 : Ext (· = s) S S2 := x1.trans x2.to
  have lta : S1.length = a := e2.symm
  have hs2 := x2.keep h1
  have hc2 := x2.keep hc1
  have hg2 := x2.keep hg1
  refine sw_for_live (xs := [.int 2147483629, .int 2147483587, .int 2147483579, .int 2147483563]) (I := fun pre env S3 => ∃ (f : Int) (x3 x4 x5 : Option D), env = [some (.loc s), some (.int ((k : Int) + 1)), some (.int f), x3, x4, x5] ∧ S3 = S2) ?_ ?_ ?_ ?_
  · rintro pre env S3 ⟨f, x3, x4, x5, rfl, rfl⟩
    exact asL_lst h2
  · exact ⟨0, none, none, none, rfl, rfl⟩
  · rintro pre x post env S3 hsp ⟨f, x3, x4, x5, rfl, rfl⟩
    obtain ⟨p, rfl, hp0, hp1⟩ : ∃ p : Int, x = .int p ∧ 0 < p ∧ p < 4294967296 := by
      have : x ∈ ([.int 2147483629, .int 2147483587, .int 2147483579, .int 2147483563] : List D) := by rw [hsp]; simp
      simp at this
      rcases this with rfl | rfl | rfl | rfl <;> exact ⟨_, rfl, by decide, by decide⟩
    refine ⟨_, rfl, ?_⟩
    walk_at "qv"
    refine wp_mulI (.inl ⟨by decide, by decide⟩) ?_
    walk_at "qv"
    refine wp_divI (by decide) (by decide) ?_
    walk_at "qv"
    refine wp_idxK hs2 look_cells ?_
    refine wp_itLoc (asL_lst hc2) ?_
    refine sw_for_live (xs := cl.map D.int) (I := fun pre env S4 => ∃ (b : Int) (x5 : Option D), env = [some (.loc s), some (.int ((k : Int) + 1)), some (.int f), some (.int p), some (.int b), x5] ∧ S4 = S3 ∧ 0 ≤ b ∧ b < 1099511627776) ?_ ?_ ?_ ?_
    · rintro pre env S3 ⟨b, x5, rfl, rfl, _⟩
      exact asL_lst hc2
    · refine ⟨_, _, rfl, rfl, ?_, ?_⟩
      · have := Int.ediv_nonneg (a := p) (b := 41) (by omega) (by omega)
        omega
      · have := Int.ediv_le_self (a := p) 41 (by omega)
        omega
    · rintro pre x post env S4 hsp2 ⟨b, x5, rfl, rfl, b0, b1⟩
      obtain ⟨z, rfl⟩ : ∃ z : Int, x = .int z := by
        have : x ∈ cl.map D.int := by rw [hsp2]; simp
        obtain ⟨z, _, e⟩ := List.mem_map.mp this
        exact ⟨z, e.symm⟩
      refine ⟨_, rfl, ?_⟩
      walk_at "qv"
      refine wp_mulI (.inr ⟨by decide, by decide⟩) ?_
      walk_at "qv"
      refine wp_modI hp0 ?_
      refine ⟨_, _, rfl, rfl, Int.emod_nonneg _ (by omega), ?_⟩
      have := Int.emod_lt_of_pos ((b * 48271 + z + ((k : Int) + 1))) hp0
      omega
    · rintro env S4 ⟨b, x5, rfl, rfl, b0, b1⟩
      walk_at "qv"
      refine wp_mulI (.inr ⟨by decide, by decide⟩) ?_
      walk_at "qv"
      refine wp_powI (by decide) (by decide) (by have : b.natAbs < 1099511627776 := (by omega); omega) ?_
      walk_at "qv"
      refine wp_modI hp0 ?_
      walk_at "qv"
      exact ⟨_, _, _, _, rfl, rfl⟩
  · rintro env S3 ⟨f, x3, x4, x5, rfl, rfl⟩
    walk_at "qv"
    exact q f _ x12 ⟨h.sg, h.sc, h.gc, hc2, gl, r, k + 1, by omega, hg2, hs2⟩ fun gl' hgl => x12.at hgl (Ne.symm h.sg)
theorem draw_ok {s g c : Nat} {cl : List Int} {t : Nat} {room : Int} (h : St s g c cl t S) (ht : t ≤ 1000000) (hr : 0 < room) (hr2 : room < 1073741824) (q : ∀ (i : Nat) S', (i : Int) < room → Ext (Sg s g) S S' → St s g c cl (t + 1) S' → Q (.int i) S') : Wp (callN TBx F (d + 2) (.fn 10) [.loc s, .int room]) S Q E := by
  obtain ⟨gl, r, k, hk, hg, hs⟩ := h.hs
  refine wp_fn (n := 2) (m := 3) (body := b10) rfl rfl (by decide) ?_
  unfold b10
  -- behind the first statement
  have tail : ∀ S1, Ext (Sg s g) S S1 → St s g c cl (t + 1) S1 → Sw (evSs TBx (callN TBx F (d + 1)) F [
      (.asg (.nm 2) (.bin .mod (.bi .int [(.idx (.var 0) (.str ⟨#[114, 101, 115, 116]⟩))]) (.var 1)))
    , (.setI (.var 0) (.str ⟨#[114, 101, 115, 116]⟩) (.bin .fdiv (.idx (.var 0) (.str ⟨#[114, 101, 115, 116]⟩)) (.var 1)))
    , (.ret (.var 2))]) [some (.loc s), some (.int room), none] S1 { nx := fun _ S => Q .non S, rt := Q, bk := fun _ _ => False, ct := fun _ _ => False, ex := fun e _ S => E e S } := by
    intro S1 x1 h1
    obtain ⟨gl1, r1, k1, hk1, hg1, hs1⟩ := h1.hs
    walk_at "qv"
    refine wp_idxK hs1 look_rest ?_
    walk_at "qv"
    refine wp_modI hr ?_
    walk_at "qv"
    refine wp_idxK hs1 look_rest ?_
    walk_at "qv"
    refine wp_divI hr hr2 ?_
    walk_at "qv"
    refine wp_setK (k := kRest) hs1 look_rest (by simp) fun S2 x2 h2 => ?_
    rw [put_rest] at h2
    walk_at "qv"
    have e0 := Int.emod_nonneg r1 (b := room) (by omega)
    have e1 := Int.emod_lt_of_pos r1 hr
    have ei : r1 % room = ((r1 % room).toNat : Int) := by omega
    have := q (r1 % room).toNat S2 (by omega) (x1.trans (x2.mono fun n _ e => .inl e)) ⟨h1.sg, h1.sc, h1.gc, x2.at h1.hc (Ne.symm h1.sc), gl1, r1 / room, k1, hk1, x2.at hg1 (Ne.symm h1.sg), h2⟩
    rw [← ei] at this
    exact this
  walk_at "qv"
  refine wp_idxK hs look_rest ?_
  walk_at "qv"
  refine ⟨_, rfl, fun z => ?_, fun z => ?_⟩
  · walk_at "qv"
    refine wp_idxK hs look_great ?_
    walk_at "qv"
    refine ⟨by simp [line], fun a S1 e1 x1 h1 l1 => ?_⟩
    have g1 := x1.keep hg
    have s1 := x1.keep hs
    have H1 := h.new x1
    refine wp_ne (eqD_nil g1 h1) ?_
    refine ⟨_, rfl, fun kk => ?_, fun kk => ?_⟩
    · cases gl with
      | nil => cases kk
      | cons y gl =>
        walk_at "qv"
        refine wp_idxK s1 look_great ?_
        refine wp_chk (by intro h; cases h) g1 ?_
        walk_at "qv"
        refine wp_pop0 g1 fun S2 x2 h2 => ?_
        have s2 := x2.at s1 h.sg
        walk_at "qv"
        refine wp_setK (k := kRest) s2 look_rest (by simp) fun S3 x3 h3 => ?_
        rw [put_rest] at h3
        refine tail S3 ((x1.to.trans (x2.mono fun n _ e => .inr e)).trans (x3.mono fun n _ e => .inl e)) ⟨h.sg, h.sc, h.gc, x3.at (x2.at H1.hc (Ne.symm h.gc)) (Ne.symm h.sc), gl, y, k, by omega, x3.at h2 (Ne.symm h.sg), h3⟩
    · walk_at "qv"
      refine mixed_ok H1 ht fun i S2 x2 H2 _ => ?_
      obtain ⟨gl2, r2, k2, hk2, hg2, hs2⟩ := H2.hs
      walk_at "qv"
      refine wp_setK (k := kRest) hs2 look_rest (by simp) fun S3 x3 h3 => ?_
      rw [put_rest] at h3
      refine tail S3 ((x1.to.trans (x2.mono fun n _ e => .inl e)).trans (x3.mono fun n _ e => .inl e)) ⟨h.sg, h.sc, h.gc, x3.at H2.hc (Ne.symm h.sc), gl2, i, k2, hk2, x3.at hg2 (Ne.symm h.sg), h3⟩
  · refine sw_nil ?_
    exact tail S Ext.refl (h.mono (by omega))
theorem pick_ok {s g c : Nat} {cl : List Int} {t l : Nat} {xs : List D} (h : St s g c cl t S) (ht : t ≤ 1000000) (hl : S[l]? = some (.lst xs)) (n1 : l ≠ s) (n2 : l ≠ g) (h0 : 0 < xs.length) (h1 : xs.length < 1000) (q : ∀ y S', y ∈ xs → Ext (Sg s g) S S' → St s g c cl (t + 1) S' → Q y S') : Wp (callN TBx F (d + 3) (.fn 11) [.loc s, .loc l]) S Q E := by
  refine wp_fn (n := 2) (m := 2) (body := b11) rfl rfl (by decide) ?_
  unfold b11
  walk_at "qv"
  refine wp_lenL (asL_lst hl) ?_
  walk_at "qv"
  refine draw_ok h ht (by omega) (by omega) fun i S' hi x' h' => ?_
  have hi2 : i < xs.length := by omega
  have hl' : S'[l]? = some (.lst xs) := x'.at hl fun z => z.elim n1 n2
  refine wp_idxL (asL_lst hl') (atD_nat.trans (List.getElem?_eq_getElem hi2)) ?_
  exact q _ S' (List.getElem_mem hi2) x' h'
end
end QV
set_option maxRecDepth 100000
set_option maxHeartbeats 1000000
/-! P9: the law's own defs. -/
namespace QV
open PySem
local macro_rules | `(tactic| walk_at "qv") => `(tactic| repeat (first
  | with_reducible refine sw_one ?_ | with_reducible refine sw_cons ?_ | with_reducible refine sw_nil ?_ | with_reducible refine sw_ex ?_ | with_reducible refine sw_asg ?_ | with_reducible refine sw_par ?_ | with_reducible refine sw_setI ?_ | with_reducible refine sw_aug ?_
  | with_reducible refine sw_ret ?_ | with_reducible refine sw_ifs ?_ | with_reducible refine sw_brk ?_ | with_reducible refine sw_cnt ?_ | with_reducible refine sw_rai ?_ | with_reducible refine sw_fors ?_
  | with_reducible refine wp_non ?_ | with_reducible refine wp_bl ?_ | with_reducible refine wp_int ?_ | with_reducible refine wp_str ?_ | with_reducible refine wp_bin ?_ | with_reducible refine wp_isN ?_ | with_reducible refine wp_notN ?_
  | ((with_reducible refine wp_cmp ?_ ?_ ?_); (intro h; cases h); (intro h; cases h)) | with_reducible refine wp_nt ?_ | with_reducible refine wp_an ?_ | with_reducible refine wp_orr ?_ | with_reducible refine wp_ife ?_ | with_reducible refine wp_chn ?_
  | with_reducible refine wp_es0 ?_ | with_reducible refine wp_es ?_ | with_reducible refine wp_tup ?_ | with_reducible refine wp_lst ?_ | with_reducible refine wp_idx ?_ | with_reducible refine wp_o0 ?_ | with_reducible refine wp_o1 ?_ | with_reducible refine wp_slc ?_
  | with_reducible refine wp_call ?_ | with_reducible refine wp_callL ?_ | with_reducible refine wp_bi ?_ | with_reducible refine wp_isi ?_ | with_reducible refine wp_mth ?_ | with_reducible refine wp_fld ?_
  | with_reducible refine wp_lenT ?_ | with_reducible refine wp_addI ?_ | with_reducible refine wp_subI ?_ | with_reducible refine wp_ltI ?_ | with_reducible refine wp_leI ?_ | with_reducible refine wp_gtI ?_ | with_reducible refine wp_geI ?_ | with_reducible refine wp_eqI ?_
  | with_reducible refine wp_eqS ?_ | with_reducible refine wp_neS ?_ | with_reducible refine wp_intI ?_ | with_reducible refine wp_absI ?_ | with_reducible refine wp_strS ?_
  | ((with_reducible refine wp_var' ?_); (refine ⟨_, rfl, (by first | assumption | trivial), ?_⟩))))

def Atom (v : D) : Prop := v = .non ∨ v ∈ ([.str ⟨#[97]⟩, .str ⟨#[111, 110]⟩, .str ⟨#[122, 122]⟩, .str ⟨#[101, 110, 116, 114, 121]⟩, .str ⟨#[97, 98, 99, 100, 101, 102, 103, 104, 105, 106, 107, 108, 109]⟩] : List D) ∨
  v ∈ ([.int 0, .int 1, .int (0 - 1), .int 7, .int (0 - 42), .int 999999999999, .int (0 - 999999999999)] : List D)
/-- a drawn value, at most n tuples within one another -/
def Gen : Nat → D → Prop
  | 0, v => Atom v
  | n + 1, v => Atom v ∨ ∃ xs, v = .tup xs ∧ xs.length ≤ 3 ∧ ∀ x ∈ xs, Gen n x
def cost : Nat → Nat
  | 0 => 2
  | n + 1 => 2 + 3 * cost n
theorem Gen.atom {n : Nat} {v : D} (h : Atom v) : Gen n v := by
  cases n with
  | zero => exact h
  | succ n => exact .inl h
section
variable {F d : Nat} {S : Sto} {Q : D → Sto → Prop} {E : D → Sto → Prop}
theorem wp_itTup {xs : List D} {Q : It → Sto → Prop} (h : Q (.fix xs) S) : Wp (itW .val (.tup xs)) S Q E := h
theorem cost_pos (n : Nat) : 2 ≤ cost n := by cases n <;> simp [cost]
theorem some_tail {s g c : Nat} {cl : List Int} {t i n : Nat} (h : St s g c cl t S) (ht : t ≤ 1000000) (q : ∀ v S', Atom v → Ext (Sg s g) S S' → St s g c cl (t + 1) S' → Q v S')
    (hi : i ≥ 3 → Sw (evS TBx (callN TBx F (d + 3)) F (.ret (.bi .tuple [(.lc (.call 17 [(.var 0), (.bin .sub (.var 1) (.int 1))]) [3, 4] 4 .rng (.call 10 [(.var 0), (.int 4)]) none)]))) [some (.loc s), some (.int (n : Nat)), some (.int (i : Nat)), none, none] S { nx := fun _ S => Q .non S, rt := Q, bk := fun _ _ => False, ct := fun _ _ => False, ex := fun e _ S => E e S }) :
    Sw (evSs TBx (callN TBx F (d + 3)) F [
    (.ifs (.cmp .eq (.var 2) (.int 0)) [(.ret (.call 11 [(.var 0), (.lst [(.str ⟨#[97]⟩), (.str ⟨#[111, 110]⟩), (.str ⟨#[122, 122]⟩), (.str ⟨#[101, 110, 116, 114, 121]⟩), (.str ⟨#[97, 98, 99, 100, 101, 102, 103, 104, 105, 106, 107, 108, 109]⟩)])]))] [])
  , (.ifs (.cmp .eq (.var 2) (.int 1)) [(.ret (.call 11 [(.var 0), (.lst [(.int 0), (.int 1), (.bin .sub (.int 0) (.int 1)), (.int 7), (.bin .sub (.int 0) (.int 42)), (.int 999999999999), (.bin .sub (.int 0) (.int 999999999999))])]))] [])
  , (.ifs (.cmp .eq (.var 2) (.int 2)) [(.ret .non)] [])
  , (.ret (.bi .tuple [(.lc (.call 17 [(.var 0), (.bin .sub (.var 1) (.int 1))]) [3, 4] 4 .rng (.call 10 [(.var 0), (.int 4)]) none)]))]) [some (.loc s), some (.int (n : Nat)), some (.int (i : Nat)), none, none] S { nx := fun _ S => Q .non S, rt := Q, bk := fun _ _ => False, ct := fun _ _ => False, ex := fun e _ S => E e S } := by
  have ls : s < S.length := by obtain ⟨_, _, _, _, _, z⟩ := h.hs; exact lt_of_get z
  have lg : g < S.length := by obtain ⟨_, _, _, _, z, _⟩ := h.hs; exact lt_of_get z
  walk_at "qv"
  refine ⟨_, rfl, fun k => ?_, fun k => ?_⟩
  · walk_at "qv"
    refine ⟨by simp [line], fun l S1 e1 x1 h1 l1 => ?_⟩
    walk_at "qv"
    exact pick_ok (h.new x1) ht h1 (by omega) (by omega) (by simp) (by simp) fun y S2 hy x2 h2 => q y S2 (.inr (.inl hy)) (x1.to.trans x2) h2
  walk_at "qv"
  refine ⟨_, rfl, fun k1 => ?_, fun k1 => ?_⟩
  · walk_at "qv"
    refine ⟨by simp [line], fun l S1 e1 x1 h1 l1 => ?_⟩
    walk_at "qv"
    exact pick_ok (h.new x1) ht h1 (by omega) (by omega) (by simp) (by simp) fun y S2 hy x2 h2 => q y S2 (.inr (.inr hy)) (x1.to.trans x2) h2
  walk_at "qv"
  refine ⟨_, rfl, fun k2 => ?_, fun k2 => ?_⟩
  · walk_at "qv"
    exact q .non S (.inl rfl) Ext.refl (h.mono (by omega))
  refine sw_nil ?_
  refine sw_one (hi ?_)
  simp only [decide_eq_false_iff_not] at k k1 k2
  omega
theorem some_ok {s g c : Nat} {cl : List Int} : ∀ (n : Nat) {d t : Nat} {S : Sto} {Q : D → Sto → Prop} {E : D → Sto → Prop}, n + 4 ≤ d → t + cost n ≤ 1000000 → St s g c cl t S → (∀ v S', Gen n v → Ext (Sg s g) S S' → St s g c cl (t + cost n) S' → Q v S') →
    Wp (callN TBx F d (.fn 17) [.loc s, .int (n : Nat)]) S Q E := by
  intro n
  induction n with
  | zero =>
    intro d t S Q E hd ht h q
    obtain ⟨d, rfl⟩ : ∃ k, d = k + 4 := ⟨d - 4, by omega⟩
    refine wp_fn (n := 2) (m := 5) (body := b17) rfl rfl (by decide) ?_
    unfold b17
    walk_at "qv"
    refine ⟨false, rfl, fun z => (by cases z), fun _ => ?_⟩
    walk_at "qv"
    simp only [cost] at ht q
    refine draw_ok h (by omega) (by decide) (by decide) fun i S1 hi x1 h1 => ?_
    exact some_tail h1 (by omega) (fun v S2 a x2 h2 => q v S2 a (x1.trans x2) h2) fun z => by omega
  | succ n ih =>
    intro d t S Q E hd ht h q
    obtain ⟨d, rfl⟩ : ∃ k, d = k + 4 := ⟨d - 4, by omega⟩
    refine wp_fn (n := 2) (m := 5) (body := b17) rfl rfl (by decide) ?_
    unfold b17
    walk_at "qv"
    refine ⟨true, by simp, fun _ => ?_, fun z => by cases z⟩
    walk_at "qv"
    simp only [cost] at ht q
    refine draw_ok h (by omega) (by decide) (by decide) fun i S1 hi x1 h1 => ?_
    refine some_tail h1 (by omega) (fun v S2 a x2 h2 => q v S2 (Gen.atom a) (x1.trans x2) (h2.mono (by have := cost_pos n; omega))) fun _ => ?_
    walk_at "qv"
    refine wp_lc ?_
    walk_at "qv"
    refine draw_ok h1 (by omega) (by decide) (by decide) fun k S2 hk x2 h2 => ?_
    have hk9 : k < 1000 := by omega
    with_reducible refine wp_itRng hk9 ?_
    intro r S3 e3 x3 h3 l3
    have h23 := h2.new x3
    have ls : s < S2.length := by obtain ⟨_, _, _, _, _, z⟩ := h2.hs; exact lt_of_get z
    have lg : g < S2.length := by obtain ⟨_, _, _, _, z, _⟩ := h2.hs; exact lt_of_get z
    have lc : c < S2.length := lt_of_get h2.hc
    refine wp_lc_fix (I := fun pre S4 => ∃ ys : List D, ys.length = pre.length ∧ S4[r]? = some (.lst ys) ∧ (∀ y ∈ ys, Gen n y) ∧ Ext (Sg s g) S2 S4 ∧ St s g c cl (t + 2 + pre.length * cost n) S4 ∧ r < S4.length) ?_ ?_ ?_
    · refine ⟨[], rfl, h3, fun y hy => (by cases hy), x3.to, h23.mono (by simp), by omega⟩
    · rintro pre x post S4 hsp ⟨ys, hy1, hy2, hy3, x4, h4, rl⟩
      obtain ⟨hpl, rfl, _⟩ := split_range hsp
      refine wp_noEx (wp_bind (wp_t0 ?_))
      refine wp_bind ?_
      have hp : pre.length * cost n ≤ 2 * cost n := Nat.mul_le_mul_right _ (by omega)
      walk_at "qv"
      rw [show ((n + 1 : Nat) : Int) - 1 = (n : Nat) by omega]
      refine ih (d := d + 3) (t := t + 2 + pre.length * cost n) (by omega) (by omega) h4 fun v S5 gv x5 h5 => ?_
      refine wp_ret ?_
      have hr5 : S5[r]? = some (.lst ys) := x5.at hy2 fun z => by rcases z with z | z <;> omega
      refine ⟨ys, hr5, by simp only [line]; omega, fun S6 x6 h6 l6 => ⟨ys ++ [v], by simp [hy1], h6, fun y hy => ?_, (x4.trans x5).trans' x6 fun m hm z => by omega, ?_, by have := lt_of_get h6; omega⟩⟩
      · rcases List.mem_append.mp hy with hy | hy
        · exact hy3 y hy
        · simp at hy
          exact hy ▸ gv
      · refine (h5.ext x6 (by omega) (by omega) (by omega)).mono ?_
        rw [List.length_append, List.length_singleton, Nat.add_mul]
        omega
    · rintro S4 ⟨ys, hy1, hy2, hy3, x4, h4, rl⟩
      walk_at "qv"
      refine wp_tupL (asL_lst hy2) ?_
      rw [List.length_map, List.length_range] at hy1 h4
      have hk3 : k ≤ 3 := by omega
      have hp : k * cost n ≤ 3 * cost n := Nat.mul_le_mul_right _ hk3
      exact q _ S4 (.inr ⟨ys, rfl, by omega, hy3⟩) (x1.trans (x2.trans x4)) (h4.mono (by omega))
theorem sw_try {T : Tb} {K : Orc} {F : Nat} {env : En} {S : Sto} {P : Po} {body suite : List Sm} {k i : Nat}
    (h : Sw (evSs T K F body) env S { P with ex := fun d env' S' => ∃ j fs, d = .exc j fs ∧ excIs T j k = true ∧ Sw (evSs T K F suite) (env'.set i (some (.exc j fs))) S' { nx := fun e2 S2 => P.nx (e2.set i none) S2, rt := P.rt, bk := fun e2 S2 => P.bk (e2.set i none) S2, ct := fun e2 S2 => P.ct (e2.set i none) S2, ex := fun _ _ _ => False } }) :
    Sw (evS T K F (.tryA body k i suite)) env S P := by
  unfold Sw at h ⊢
  simp only [evS]
  revert h
  cases evSs T K F body env S with
  | ex d e S' =>
    rintro ⟨j, fs, rfl, he, h⟩
    simp only [he]
    revert h
    cases evSs T K F suite (e.set i (some (.exc j fs))) S' <;> simp only <;> intro h <;> first | exact h | exact h.elim
  | _ => intro h; exact h
def txt0 : D := .tup [.str ⟨#[116, 101, 120, 116]⟩, .int 0]
theorem caught_ok {b : C} {e : En} {l : Nat} (hl : l < S.length) (hA : ∀ S1, Ex0 S S1 → Wp (callN TBx F (d + 1) (.clo b e) []) S1 (fun _ S2 => Ext (· = l) S1 S2 ∧ ∀ S3, Ext (S.length ≤ ·) S2 S3 → Q .non S3) (fun x S2 => x = nt0 ∧ Ext (· = l) S1 S2 ∧ ∀ S3, Ext (S.length ≤ ·) S2 S3 → Q nt0 S3)) :
    Wp (callN TBx F (d + 2) (.fn 15) [.clo b e]) S Q E := by
  refine wp_fn (n := 1) (m := 3) (body := b15) rfl rfl (by decide) ?_
  unfold b15
  walk_at "qv"
  refine ⟨by simp [line], fun f S1 e1 x1 hf l1 => ?_⟩
  refine sw_cons (sw_try ?_)
  walk_at "qv"
  refine wp_clv rfl ?_
  refine wp_mono (hA S1 x1) (fun v S2 ⟨x2, q⟩ => ?_) fun x S2 ⟨hx, x2, q⟩ => ?_
  · walk_at "qv"
    refine ⟨by simp [line], fun r S3 e3 x3 h3 l3 => ?_⟩
    have hf2 := x2.at hf (by omega)
    refine wp_ne (eqD_nil (x3.keep hf2) h3) ?_
    refine ⟨false, rfl, fun z => (by cases z), fun _ => ?_⟩
    walk_at "qv"
    exact q S3 x3.to
  · subst hx
    have hf2 := x2.at hf (by omega)
    refine ⟨_, _, rfl, rfl, ?_⟩
    walk_at "qv"
    refine wp_chk (by intro h; cases h) hf2 ?_
    walk_at "qv"
    have hf3 : f < S2.length := lt_of_get hf2
    refine wp_append hf2 (by simp [line]) fun S3 x3 h3 l3 => ?_
    walk_at "qv"
    refine ⟨by simp [line], fun r S4 e4 x4 h4 l4 => ?_⟩
    refine wp_ne (eqD_nil (x4.keep h3) h4) ?_
    refine ⟨true, rfl, fun _ => ?_, fun z => by cases z⟩
    walk_at "qv"
    refine wp_idxL (y := nt0) (asL_lst (x4.keep h3)) rfl ?_
    exact q S4 ((x3.mono fun n _ z => by omega).trans x4.to)
theorem law_word {b : C} {e : En} {A : D → Prop} {B : Prop} (hA : ∀ S1, Ex0 S S1 → Wp (callN TBx F d (.clo b e) []) S1 (fun v S2 => Ex0 S1 S2 ∧ A v) (fun x S2 => Ex0 S1 S2 ∧ B ∧ x = nt0)) (q : ∀ v S2, Ex0 S S2 → (A v ∨ B ∧ v = txt0) → Q v S2) :
    Wp (callN TBx F (d + 3) (.fn 16) [.clo b e]) S Q E := by
  refine wp_fn (n := 1) (m := 5) (body := b16) rfl rfl (by decide) ?_
  unfold b16
  walk_at "qv"
  refine ⟨by simp [line], fun l S1 e1 x1 hl l1 => ?_⟩
  walk_at "qv"
  refine caught_ok (l := l) (by omega) fun S2 x2 => ?_
  refine wp_cl ?_
  walk_at "qv"
  refine wp_chk (by intro h; cases h) (x2.keep hl) ?_
  walk_at "qv"
  refine wp_clv rfl ?_
  refine wp_mono (hA S2 (x1.trans x2)) (fun v S3 ⟨x3, a⟩ => ?_) fun x S3 ⟨x3, hb, hx⟩ => ?_
  · walk_at "qv"
    refine wp_append (x3.keep (x2.keep hl)) (by simp [line]) fun S4 x4 h4 l4 => ?_
    refine ⟨x3.to.trans x4, fun S5 x5 => ?_⟩
    have ll := lt_of_get h4
    have h5 : S5[l]? = some (.lst [v]) := x5.at h4 (by omega)
    walk_at "qv"
    refine ⟨true, rfl, fun _ => ?_, fun z => by cases z⟩
    walk_at "qv"
    refine wp_idxL (y := v) (asL_lst h5) rfl ?_
    refine q v S5 ⟨?_, fun n hn _ => ?_⟩ (.inl a)
    · have := x1.len
      have := x2.len
      have := x3.len
      have := x4.len
      have := x5.len
      omega
    · have := x1.len
      have := x2.len
      have := x3.len
      have := x4.len
      rw [x5.get n (by omega) (by omega), x4.get n (by omega) (by omega), x3.get n (by omega) (fun z => z), x2.get n (by omega) (fun z => z), x1.get n (by omega) fun z => z]
  · subst hx
    refine ⟨rfl, x3.to, fun S4 x4 => ?_⟩
    have x14 : Ex0 S S4 := ⟨by
      have := x1.len
      have := x2.len
      have := x3.len
      have := x4.len
      omega, fun n hn _ => by
      have := x1.len
      have := x2.len
      have := x3.len
      rw [x4.get n (by omega) (by omega), x3.get n (by omega) (fun z => z), x2.get n (by omega) (fun z => z), x1.get n (by omega) fun z => z]⟩
    walk_at "qv"
    refine ⟨false, rfl, fun z => (by cases z), fun _ => ?_⟩
    walk_at "qv"
    refine ⟨false, rfl, false, rfl, fun z => (by cases z), fun _ => ?_⟩
    walk_at "qv"
    refine ⟨false, rfl, false, rfl, fun z => (by cases z), fun _ => ?_⟩
    walk_at "qv"
    refine ⟨true, rfl, true, rfl, fun _ => ?_, fun z => by cases z⟩
    walk_at "qv"
    refine ⟨_, _, .int 0, rfl, rfl, ?_⟩
    walk_at "qv"
    exact ⟨by simp [line], q txt0 S4 x14 (.inr ⟨hb, rfl⟩)⟩
end
end QV
set_option maxRecDepth 100000
set_option maxHeartbeats 1000000
/-! P10: more of the law's own defs. -/
namespace QV
open PySem
local macro_rules | `(tactic| walk_at "qv") => `(tactic| repeat (first
  | with_reducible refine sw_one ?_ | with_reducible refine sw_cons ?_ | with_reducible refine sw_nil ?_ | with_reducible refine sw_ex ?_ | with_reducible refine sw_asg ?_ | with_reducible refine sw_par ?_ | with_reducible refine sw_setI ?_ | with_reducible refine sw_aug ?_
  | with_reducible refine sw_ret ?_ | with_reducible refine sw_ifs ?_ | with_reducible refine sw_brk ?_ | with_reducible refine sw_cnt ?_ | with_reducible refine sw_rai ?_ | with_reducible refine sw_fors ?_
  | with_reducible refine wp_non ?_ | with_reducible refine wp_bl ?_ | with_reducible refine wp_int ?_ | with_reducible refine wp_str ?_ | with_reducible refine wp_bin ?_ | with_reducible refine wp_isN ?_ | with_reducible refine wp_notN ?_
  | ((with_reducible refine wp_cmp ?_ ?_ ?_); (intro h; cases h); (intro h; cases h)) | with_reducible refine wp_nt ?_ | with_reducible refine wp_an ?_ | with_reducible refine wp_orr ?_ | with_reducible refine wp_ife ?_ | with_reducible refine wp_chn ?_
  | with_reducible refine wp_es0 ?_ | with_reducible refine wp_es ?_ | with_reducible refine wp_tup ?_ | with_reducible refine wp_lst ?_ | with_reducible refine wp_idx ?_ | with_reducible refine wp_o0 ?_ | with_reducible refine wp_o1 ?_ | with_reducible refine wp_slc ?_
  | with_reducible refine wp_call ?_ | with_reducible refine wp_callL ?_ | with_reducible refine wp_bi ?_ | with_reducible refine wp_isi ?_ | with_reducible refine wp_mth ?_ | with_reducible refine wp_fld ?_
  | with_reducible refine wp_lenT ?_ | with_reducible refine wp_addI ?_ | with_reducible refine wp_subI ?_ | with_reducible refine wp_ltI ?_ | with_reducible refine wp_leI ?_ | with_reducible refine wp_gtI ?_ | with_reducible refine wp_geI ?_ | with_reducible refine wp_eqI ?_
  | with_reducible refine wp_eqS ?_ | with_reducible refine wp_neS ?_ | with_reducible refine wp_intI ?_ | with_reducible refine wp_absI ?_ | with_reducible refine wp_strS ?_
  | ((with_reducible refine wp_var' ?_); (refine ⟨_, rfl, (by first | assumption | trivial), ?_⟩))))

theorem flatL_mem : ∀ {L : List D}, D.flatL L = true ↔ ∀ d ∈ L, d.flat = true
  | [] => by simp [D.flatL]
  | a :: as => by simp [D.flatL, flatL_mem (L := as)]
theorem depthL_mem : ∀ {L : List D} {n : Nat}, D.depthL L ≤ n ↔ ∀ d ∈ L, d.depth ≤ n
  | [], n => by simp [D.depthL]
  | a :: as, n => by simp [D.depthL, Nat.max_le, depthL_mem (L := as)]
theorem wtL_mem : ∀ {L : List D} {x : D}, x ∈ L → x.wt + 1 ≤ D.wtL L
  | a :: as, x, h => by
    simp only [D.wtL]
    rcases List.mem_cons.mp h with rfl | h
    · omega
    · have := wtL_mem h
      omega
theorem flat_nc {v : D} (h : v.flat = true) : NC v := by cases v <;> first | trivial | cases h
section
variable {F d : Nat} {S : Sto}
theorem lplain_ok : ∀ (n : Nat) {d : Nat} {v : D} {S : Sto} {Q : D → Sto → Prop} {E : D → Sto → Prop}, v.depth ≤ n → n < d → v.flat = true → (∀ S', Ex0 S S' → Q (.bl true) S') → Wp (callN TBx F d (.fn 12) [v]) S Q E := by
  intro n
  induction n with
  | zero =>
    intro d v S Q E hv hd hf q
    obtain ⟨d, rfl⟩ : ∃ k, d = k + 1 := ⟨d - 1, by omega⟩
    refine wp_fn (n := 1) (m := 3) (body := b12) rfl rfl (by decide) ?_
    have nc := flat_nc hf
    unfold b12
    walk_at "qv"
    cases v with
    | tup xs => simp [D.depth] at hv
    | non =>
      refine ⟨false, rfl, false, rfl, fun z => (by cases z), fun _ => ?_⟩
      walk_at "qv"
      refine ⟨false, rfl, false, rfl, fun z => (by cases z), fun _ => ?_⟩
      walk_at "qv"
      exact ⟨true, rfl, fun z => (by cases z), fun _ => q S Ext.refl⟩
    | bl b =>
      refine ⟨false, rfl, false, rfl, fun z => (by cases z), fun _ => ?_⟩
      walk_at "qv"
      refine ⟨false, rfl, false, rfl, fun z => (by cases z), fun _ => ?_⟩
      walk_at "qv"
      refine ⟨false, rfl, fun _ => ?_, fun z => (by cases z)⟩
      walk_at "qv"
      exact ⟨true, rfl, q S Ext.refl⟩
    | int i =>
      refine ⟨false, rfl, false, rfl, fun z => (by cases z), fun _ => ?_⟩
      walk_at "qv"
      refine ⟨false, rfl, false, rfl, fun z => (by cases z), fun _ => ?_⟩
      walk_at "qv"
      refine ⟨false, rfl, fun _ => ?_, fun z => (by cases z)⟩
      walk_at "qv"
      exact ⟨true, rfl, q S Ext.refl⟩
    | str x =>
      refine ⟨false, rfl, false, rfl, fun z => (by cases z), fun _ => ?_⟩
      walk_at "qv"
      refine ⟨false, rfl, false, rfl, fun z => (by cases z), fun _ => ?_⟩
      walk_at "qv"
      refine ⟨false, rfl, fun _ => ?_, fun z => (by cases z)⟩
      walk_at "qv"
      exact ⟨true, rfl, q S Ext.refl⟩
    | _ => cases hf
  | succ n ih =>
    intro d v S Q E hv hd hf q
    by_cases ht : isTup v = true
    · obtain ⟨d, rfl⟩ : ∃ k, d = k + 1 := ⟨d - 1, by omega⟩
      refine wp_fn (n := 1) (m := 3) (body := b12) rfl rfl (by decide) ?_
      have nc := flat_nc hf
      unfold b12
      walk_at "qv"
      cases v with
      | tup xs =>
        simp only [D.depth, Nat.succ_le_succ_iff, D.flat] at hv hf
        refine ⟨true, rfl, true, rfl, fun _ => ?_, fun z => by cases z⟩
        walk_at "qv"
        refine wp_lc ?_
        walk_at "qv"
        refine wp_itTup fun r S1 e1 x1 h1 l1 => ?_
        refine wp_lc_fix (I := fun pre S2 => Ex0 S1 S2) Ext.refl ?_ ?_
        · intro pre x post S2 hsp x2
          have hx : x ∈ xs := by rw [hsp]; simp
          have ncx := flat_nc (flatL_mem.mp hf x hx)
          refine wp_noEx (wp_bind (wp_t1 ?_))
          walk_at "qv"
          refine ih (depthL_mem.mp hv x hx) (by omega) (flatL_mem.mp hf x hx) fun S3 x3 => ?_
          exact ⟨_, rfl, _, rfl, x2.trans x3⟩
        · intro S2 x2
          walk_at "qv"
          refine ⟨by simp [line], fun r2 S3 e3 x3 h3 l3 => ?_⟩
          refine wp_eq (eqD_nil (x3.keep (x2.keep h1)) h3) ?_
          exact q S3 (x1.trans (x2.trans x3))
      | _ => cases ht
    · refine ih ?_ (by omega) hf q
      cases v <;> first | exact Nat.zero_le _ | exact absurd rfl ht
theorem vtR_inter : ∀ (xs : List D) (a : D), ([32] : List Nat).intercalate ((a :: xs).map D.vt) = D.vt a ++ D.vtR xs
  | [], a => by simp [D.vtR, List.intercalate]
  | b :: xs, a => by
    have ih := vtR_inter xs b
    simp only [List.intercalate, List.map_cons, D.vtR] at ih ⊢
    rw [List.intersperse_cons_cons]
    simp only [List.flatten_cons, ih]
    simp
theorem joinD_vt (xs : List D) : joinD ⟨#[32]⟩ (xs.map fun x => ⟨x.vt.toArray⟩) = ⟨(D.vtL xs).toArray⟩ := by
  unfold joinD
  congr 2
  rw [List.map_map]
  have : (fun (y : Str) => y.cps.toList) ∘ (fun (x : D) => (⟨x.vt.toArray⟩ : Str)) = D.vt := by
    funext x
    simp
  rw [this]
  cases xs with
  | nil => rfl
  | cons a xs => exact vtR_inter xs a
theorem joinCost_vt : ∀ (xs : List D), joinCost ⟨#[32]⟩ (xs.map fun x => ⟨x.vt.toArray⟩) ≤ D.wtL xs
  | [] => by simp [joinCost]
  | a :: xs => by
    have := joinCost_vt xs
    have h1 := vt_le a
    simp only [List.map_cons, joinCost, D.wtL]
    have h2 : Str.length ⟨a.vt.toArray⟩ = a.vt.length := by
      show a.vt.toArray.size = _
      rw [List.size_toArray]
    have h3 : Str.length ⟨#[32]⟩ = 1 := rfl
    omega
theorem wp_addS {x y : Str} {Q : D → Sto → Prop} {E : D → Sto → Prop} (h : x.length + y.length ≤ line) (q : Q (.str (x ++ y)) S) : Wp (opD .add (.str x) (.str y)) S Q E := wp_only (decide_eq_true h) q
theorem str_app (a b : List Nat) : ((⟨a.toArray⟩ : Str) ++ ⟨b.toArray⟩) = ⟨(a ++ b).toArray⟩ := by
  show (⟨a.toArray ++ b.toArray⟩ : Str) = _
  simp
theorem str_len (a : List Nat) : Str.length ⟨a.toArray⟩ = a.length := by
  show a.toArray.size = _
  rw [List.size_toArray]
theorem lvt_ok : ∀ (n : Nat) {d : Nat} {v : D} {S : Sto} {Q : D → Sto → Prop} {E : D → Sto → Prop}, v.depth ≤ n → n < d → v.good = true → v.wt ≤ 1000000 → (∀ S', Ex0 S S' → Q (.str ⟨v.vt.toArray⟩) S') → Wp (callN TBx F d (.fn 14) [v]) S Q E := by
  intro n
  induction n with
  | zero =>
    intro d v S Q E hv hd hg hw q
    obtain ⟨d, rfl⟩ : ∃ k, d = k + 1 := ⟨d - 1, by omega⟩
    refine wp_fn (n := 1) (m := 3) (body := b14) rfl rfl (by decide) ?_
    have nc := good_nc hg
    unfold b14
    walk_at "qv"
    cases v with
    | tup xs => simp [D.depth] at hv
    | non =>
      refine ⟨false, rfl, false, rfl, fun z => (by cases z), fun _ => ?_⟩
      walk_at "qv"
      refine ⟨true, rfl, fun _ => ?_, fun z => (by cases z)⟩
      exact q S Ext.refl
    | int i =>
      refine ⟨false, rfl, false, rfl, fun z => (by cases z), fun _ => ?_⟩
      walk_at "qv"
      refine ⟨false, rfl, fun z => (by cases z), fun _ => ?_⟩
      walk_at "qv"
      have gi : decide ((if i < 0 then -i else i) < 1000000000000) = true := by simpa only [D.good] using hg
      refine wp_strI (log_lt (of_decide_eq_true gi)) ?_
      have := q S Ext.refl
      simp only [D.vt, str_eta] at this
      exact this
    | str x =>
      refine ⟨false, rfl, false, rfl, fun z => (by cases z), fun _ => ?_⟩
      walk_at "qv"
      refine ⟨false, rfl, fun z => (by cases z), fun _ => ?_⟩
      walk_at "qv"
      have := q S Ext.refl
      simp only [D.vt, str_eta] at this
      exact this
    | _ => cases hg
  | succ n ih =>
    intro d v S Q E hv hd hg hw q
    by_cases ht : isTup v = true
    · obtain ⟨d, rfl⟩ : ∃ k, d = k + 1 := ⟨d - 1, by omega⟩
      refine wp_fn (n := 1) (m := 3) (body := b14) rfl rfl (by decide) ?_
      have nc := good_nc hg
      unfold b14
      walk_at "qv"
      cases v with
      | tup xs =>
        simp only [D.depth, Nat.succ_le_succ_iff, D.good] at hv hg
        simp only [D.wt] at hw
        have hxl := wtL_len xs
        refine ⟨true, rfl, true, rfl, fun _ => ?_, fun z => by cases z⟩
        walk_at "qv"
        refine wp_ret ?_
        walk_at "qv"
        refine wp_lc ?_
        walk_at "qv"
        refine wp_itTup fun r S1 e1 x1 h1 l1 => ?_
        refine wp_lc_fix (I := fun pre S2 => Ext (· = r) S1 S2 ∧ S2[r]? = some (.lst ((pre.map fun x => (⟨x.vt.toArray⟩ : Str)).map D.str))) ⟨Ext.refl, h1⟩ ?_ ?_
        · rintro pre x post S2 hsp ⟨x2, h2⟩
          have hx : x ∈ xs := by rw [hsp]; simp
          have ncx := good_nc (goodL_mem.mp hg x hx)
          have hwx := wtL_mem hx
          have hpl : pre.length + post.length + 1 = xs.length := by rw [hsp]; simp; omega
          have hr : r < S2.length := lt_of_get h2
          refine wp_noEx (wp_bind (wp_t0 ?_))
          refine wp_bind ?_
          walk_at "qv"
          refine ih (depthL_mem.mp hv x hx) (by omega) (goodL_mem.mp hg x hx) (by omega) fun S3 x3 => ?_
          refine wp_ret ⟨_, x3.keep h2, by simp only [List.length_map, line]; omega, fun S4 x4 h4 _ => ⟨(x2.trans x3.to).trans x4, by rw [h4]; simp⟩⟩
        · rintro S2 ⟨x2, h2⟩
          have hjc := joinCost_vt xs
          have hvl := vtL_le xs
          have hline : line = 16777216 := rfl
          walk_at "qv"
          refine wp_join (asL_lst h2) (by omega) ?_
          rw [joinD_vt]
          refine wp_addS (x := ⟨#[40]⟩) (by have e1 := str_len (D.vtL xs); have e2 : Str.length ⟨#[40]⟩ = 1 := rfl; omega) ?_
          rw [str_app]
          walk_at "qv"
          refine wp_addS (y := ⟨#[41]⟩) (by have e1 := str_len ([40] ++ D.vtL xs); have e2 : Str.length ⟨#[41]⟩ = 1 := rfl; rw [List.length_append, List.length_singleton] at e1; omega) ?_
          rw [str_app]
          have := q S2 (x1.trans' (M := fun _ => False) x2 fun n hn e => by omega)
          simp only [D.vt] at this
          exact this
      | _ => cases ht
    · refine ih ?_ (by omega) hg hw q
      cases v <;> first | exact Nat.zero_le _ | exact absurd rfl ht
mutual
theorem beq_refl : ∀ {v : D}, v.flat = true → D.beq v v = true
  | .non, _ => rfl
  | .bl b, _ => by cases b <;> rfl
  | .int i, _ => by simp [D.beq]
  | .str x, _ => by simp [D.beq]
  | .tup xs, h => by
    simp only [D.flat] at h
    simp only [D.beq]
    exact beqL_refl h
  | .loc _, h => by cases h
  | .fn _, h => by cases h
  | .exc _ _, h => by cases h
  | .clo _ _, h => by cases h
theorem beqL_refl : ∀ {L : List D}, D.flatL L = true → D.beqL L L = true
  | [], _ => rfl
  | a :: as, h => by
    simp only [D.flatL, Bool.and_eq_true] at h
    simp only [D.beqL, beq_refl h.1, beqL_refl h.2, Bool.and_self]
end
theorem eqD_flat {a b : D} (ha : a.flat = true) (hb : b.flat = true) (da : a.depth ≤ 60) (db : b.depth ≤ 60) : eqD S a b = some (D.beq a b) := by
  have n1 : asL S a = none := by cases a <;> first | rfl | cases ha
  have n2 : asL S b = none := by cases b <;> first | rfl | cases hb
  simp [eqD, n1, n2, ha, hb, da, db]
theorem is_ok {v : D} {Q : D → Sto → Prop} {E : D → Sto → Prop} (hd : 61 < d) (hf : v.flat = true) (hv : v.depth ≤ 60) (hs : v.py.shown.length ≤ line) (hs2 : v.py.showable = true) (q : ∀ S', Ex0 S S' → Q (.bl true) S') : Wp (callN TBx F d (.fn 13) [v, v]) S Q E := by
  obtain ⟨d, rfl⟩ : ∃ k, d = k + 1 := ⟨d - 1, by omega⟩
  refine wp_fn (n := 2) (m := 2) (body := b13) rfl rfl (by decide) ?_
  have nc := flat_nc hf
  have he : ∀ S, eqD S v v = some true := fun S => by rw [eqD_flat hf hf hv hv, beq_refl hf]
  have hr : ∀ {S : Sto} {Q : D → Sto → Prop} {E : D → Sto → Prop}, Q (.str v.py.shown) S → Wp (biD .repr [v]) S Q E := fun z =>
    wp_only (by rw [hf, decide_eq_true hv]; rfl) (wp_only (by rw [decide_eq_true hs, hs2]; rfl) z)
  unfold b13
  walk_at "qv"
  refine lplain_ok 60 hv (by omega) hf fun S1 x1 => ?_
  refine ⟨true, rfl, fun _ => ?_, fun z => by cases z⟩
  walk_at "qv"
  refine wp_eq (he S1) ?_
  refine ⟨true, rfl, fun _ => ?_, fun z => by cases z⟩
  walk_at "qv"
  refine wp_eq (he S1) ?_
  refine ⟨true, rfl, fun _ => ?_, fun z => by cases z⟩
  walk_at "qv"
  refine hr ?_
  walk_at "qv"
  refine hr ?_
  walk_at "qv"
  rw [decide_eq_true rfl]
  exact q S1 x1
def nest : Nat → D → D
  | 0, v => v
  | n + 1, v => .tup [nest n v]
theorem nest_nc {n : Nat} {v : D} (h : NC v) : NC (nest n v) := by
  cases n with
  | zero => exact h
  | succ n => trivial
theorem nested_ok {n : Nat} {v : D} {Q : D → Sto → Prop} {E : D → Sto → Prop} (hn : n < 1000) (hv : NC v) (q : Q (nest n v) S) : Wp (callN TBx F (d + 1) (.fn 18) [.int (n : Nat), v]) S Q E := by
  with_reducible refine wp_fn (n := 2) (m := 3) (body := b18) ?_ ?_ ?_ ?_
  · rfl
  · rfl
  · decide
  unfold b18
  walk_at "qv"
  with_reducible refine wp_itRng hn ?_
  refine sw_for_fix (I := fun pre env S2 => ∃ a, env = [some (.int (n : Nat)), some (nest pre.length v), a] ∧ S2 = S) ?_ ?_ ?_
  · exact ⟨none, rfl, rfl⟩
  · rintro pre x post env S2 hsp ⟨a, rfl, rfl⟩
    refine ⟨_, rfl, ?_⟩
    have := nest_nc (n := pre.length) hv
    walk_at "qv"
    exact ⟨by simp [line], _, by rw [List.length_append]; rfl, rfl⟩
  · rintro env S2 ⟨a, rfl, rfl⟩
    have := nest_nc (n := ((List.range n).map fun i => D.int (i : Nat)).length) hv
    walk_at "qv"
    rw [List.length_map, List.length_range]
    exact q
end
end QV
set_option maxRecDepth 100000
set_option maxHeartbeats 1000000
/-! P11: drawn values: what is plain of them. -/
namespace QV
open PySem
theorem atom_cases {P : D → Prop} {v : D} (h : Atom v) (h0 : P .non) (h1 : P (.str ⟨#[97]⟩)) (h2 : P (.str ⟨#[111, 110]⟩)) (h3 : P (.str ⟨#[122, 122]⟩)) (h4 : P (.str ⟨#[101, 110, 116, 114, 121]⟩)) (h5 : P (.str ⟨#[97, 98, 99, 100, 101, 102, 103, 104, 105, 106, 107, 108, 109]⟩))
    (h6 : P (.int 0)) (h7 : P (.int 1)) (h8 : P (.int (0 - 1))) (h9 : P (.int 7)) (h10 : P (.int (0 - 42))) (h11 : P (.int 999999999999)) (h12 : P (.int (0 - 999999999999))) : P v := by
  rcases h with rfl | h | h
  · exact h0
  · simp only [List.mem_cons, List.not_mem_nil, or_false] at h
    rcases h with rfl | rfl | rfl | rfl | rfl <;> assumption
  · simp only [List.mem_cons, List.not_mem_nil, or_false] at h
    rcases h with rfl | rfl | rfl | rfl | rfl | rfl | rfl <;> assumption
/-- what is asked of an atom -/
def atomB (v : D) : Bool := v.good && v.flat && decide (v.depth = 0) && decide (v.wt ≤ 14) && v.vt.all (fun c => decide (c < 256) && !isSep c) && !v.vt.isEmpty && decide (v.py.shown.length ≤ 132) && v.py.showable && !decide (v.vt = [40]) && !decide (v.vt = [41]) && !decide (v.vt = [32])
theorem atom_B {v : D} (h : Atom v) : atomB v = true := by
  refine atom_cases (P := fun v => atomB v = true) h ?_ ?_ ?_ ?_ ?_ ?_ ?_ ?_ ?_ ?_ ?_ ?_ ?_ <;> decide +kernel
theorem atom_plain {v : D} (h : Atom v) : plainOf v.vt = some v := by
  refine atom_cases (P := fun v => plainOf v.vt = some v) h ?_ ?_ ?_ ?_ ?_ ?_ ?_ ?_ ?_ ?_ ?_ ?_ ?_ <;> rfl

structure AtomF (v : D) : Prop where
  good : v.good = true
  flat : v.flat = true
  depth : v.depth = 0
  wt : v.wt ≤ 14
  cs : ∀ c ∈ v.vt, c < 256 ∧ isSep c = false
  ne : v.vt ≠ []
  shown : v.py.shown.length ≤ 132
  showable : v.py.showable = true
  n1 : v.vt ≠ [40]
  n2 : v.vt ≠ [41]
  n3 : v.vt ≠ [32]
theorem atom_F {v : D} (h : Atom v) : AtomF v := by
  have b := atom_B h
  simp only [atomB, Bool.and_eq_true, decide_eq_true_eq, Bool.not_eq_true', List.all_eq_true, decide_eq_false_iff_not, List.isEmpty_eq_false_iff] at b
  obtain ⟨⟨⟨⟨⟨⟨⟨⟨⟨⟨b1, b2⟩, b3⟩, b4⟩, b5⟩, b6⟩, b7⟩, b8⟩, b9⟩, b10⟩, b11⟩ := b
  exact ⟨b1, b2, b3, b4, fun c hc => ⟨(b5 c hc).1, by simpa using (b5 c hc).2⟩, b6, b7, b8, b9, b10, b11⟩
def Wb : Nat → Nat
  | 0 => 14
  | n + 1 => 3 * (Wb n + 1) + 14
def Hb : Nat → Nat
  | 0 => 132
  | n + 1 => 3 * (Hb n + 2) + 132
theorem wtL_bound {B : Nat} : ∀ {xs : List D}, (∀ x ∈ xs, x.wt ≤ B) → D.wtL xs ≤ xs.length * (B + 1)
  | [], _ => by simp [D.wtL]
  | a :: as, h => by
    have := wtL_bound fun x hx => h x (List.mem_cons_of_mem _ hx)
    have := h a (List.mem_cons_self ..)
    simp only [D.wtL, List.length_cons, Nat.add_mul]
    omega
theorem pyL_map : ∀ xs : List D, D.pyL xs = xs.map D.py
  | [] => rfl
  | a :: as => by simp [D.pyL, pyL_map as]
theorem shownAll_map : ∀ xs : List PyData, PyData.shownAll xs = xs.map PyData.shown
  | [] => by simp [PyData.shownAll]
  | a :: as => by simp [PyData.shownAll, shownAll_map as]
theorem showableAll_iff : ∀ {xs : List PyData}, PyData.showableAll xs = true ↔ ∀ x ∈ xs, x.showable = true
  | [] => by simp [PyData.showableAll]
  | a :: as => by simp [PyData.showableAll, showableAll_iff (xs := as)]
theorem piled_bound {B : Nat} : ∀ {ts : List Str}, (∀ t ∈ ts, t.length ≤ B) → piled ts ≤ ts.length * (B + 2)
  | [], _ => by simp [piled]
  | a :: as, h => by
    have h1 := piled_bound fun x hx => h x (List.mem_cons_of_mem _ hx)
    have := h a (List.mem_cons_self ..)
    simp only [piled, List.map_cons, List.sum_cons, List.length_cons, Nat.add_mul] at h1 ⊢
    omega
theorem tupleText_len (ts : List Str) : (tupleText ts).length ≤ piled ts + 3 := by
  unfold tupleText
  have h2 : (if ts.length == 1 then ((",)" : String) : Str) else (")" : String)).length ≤ 2 := by
    split <;> decide
  have h1 : (Str.join ", " ts).length ≤ piled ts := by
    cases ts with
    | nil => decide
    | cons a as =>
      have := join_length_add (a :: as) (by simp)
      omega
  have h3 : ("(" : Str).length = 1 := by decide
  rw [len_append, len_append]
  have h4 : ((if ts.length == 1 then ",)" else ")" : String) : Str).length ≤ 2 := by
    split <;> decide
  omega
theorem gen_facts : ∀ (n : Nat) {v : D}, Gen n v → v.good = true ∧ v.flat = true ∧ v.depth ≤ n ∧ v.wt ≤ Wb n ∧ (∀ c ∈ v.vt, c < 256) ∧ v.py.shown.length ≤ Hb n ∧ v.py.showable = true ∧ v.vt ≠ []
  | 0, v, h => by
    have a := atom_F h
    exact ⟨a.good, a.flat, by rw [a.depth]; omega, a.wt, fun c hc => (a.cs c hc).1, a.shown, a.showable, a.ne⟩
  | n + 1, v, h => by
    rcases h with h | ⟨xs, rfl, hl, hx⟩
    · have a := atom_F h
      refine ⟨a.good, a.flat, by rw [a.depth]; omega, by have := a.wt; simp only [Wb]; omega, fun c hc => (a.cs c hc).1, by have := a.shown; simp only [Hb]; omega, a.showable, a.ne⟩
    · have ih := fun x hx' => gen_facts n (hx x hx')
      refine ⟨?_, ?_, ?_, ?_, ?_, ?_, ?_, by simp [D.vt]⟩
      · simp only [D.good]
        exact goodL_mem.mpr fun x h => (ih x h).1
      · simp only [D.flat]
        exact flatL_mem.mpr fun x h => (ih x h).2.1
      · simp only [D.depth]
        exact Nat.succ_le_succ (depthL_mem.mpr fun x h => (ih x h).2.2.1)
      · have h1 := wtL_bound (B := Wb n) fun x h => (ih x h).2.2.2.1
        have h2 : xs.length * (Wb n + 1) ≤ 3 * (Wb n + 1) := Nat.mul_le_mul_right _ hl
        simp only [D.wt, Wb]
        omega
      · have vtR_cs : ∀ ys : List D, (∀ y ∈ ys, y ∈ xs) → ∀ c ∈ D.vtR ys, c < 256 := by
          intro ys
          induction ys with
          | nil => intro _ c hc; simp [D.vtR] at hc
          | cons y ys ihy =>
            intro hm c hc
            simp only [D.vtR, List.mem_cons, List.mem_append] at hc
            rcases hc with rfl | hc | hc
            · decide
            · exact (ih y (hm y (List.mem_cons_self ..))).2.2.2.2.1 c hc
            · exact ihy (fun z hz => hm z (List.mem_cons_of_mem _ hz)) c hc
        intro c hc
        simp only [D.vt, List.mem_cons, List.mem_append, List.not_mem_nil, or_false] at hc
        rcases hc with rfl | hc | rfl
        · decide
        · cases xs with
          | nil => simp [D.vtL] at hc
          | cons y ys =>
            simp only [D.vtL, List.mem_append] at hc
            rcases hc with hc | hc
            · exact (ih y (List.mem_cons_self ..)).2.2.2.2.1 c hc
            · exact vtR_cs ys (fun z hz => List.mem_cons_of_mem _ hz) c hc
        · decide
      · simp only [D.py, PyData.shown, Hb, pyL_map, shownAll_map]
        have h1 := tupleText_len ((xs.map D.py).map PyData.shown)
        have h2 := piled_bound (B := Hb n) (ts := (xs.map D.py).map PyData.shown) fun t ht => by
          obtain ⟨p, hp, rfl⟩ := List.mem_map.mp ht
          obtain ⟨x, hx', rfl⟩ := List.mem_map.mp hp
          exact (ih x hx').2.2.2.2.2.1
        rw [List.length_map, List.length_map] at h2
        have h3 : xs.length * (Hb n + 2) ≤ 3 * (Hb n + 2) := Nat.mul_le_mul_right _ hl
        omega
      · simp only [D.py, PyData.showable, pyL_map]
        refine showableAll_iff.mpr fun p hp => ?_
        obtain ⟨x, hx', rfl⟩ := List.mem_map.mp hp
        exact (ih x hx').2.2.2.2.2.2.1
/-- behind a value -/
def SepSt (r : List Nat) : Prop := r = [] ∨ ∃ c r', r = c :: r' ∧ isSep c = true
def PP (v : D) : Prop := ∀ (rest : List Nat) (os : List (List D)) (done : List D), SepSt rest → vrun (pcs (v.vt ++ rest)) (os, done) = (put v os done).bind (vrun (pcs rest))
theorem takeWhile_sep {l rest : List Nat} (h : ∀ c ∈ l, isSep c = false) (hr : SepSt rest) : (l ++ rest).takeWhile (fun c => !isSep c) = l ∧ (l ++ rest).dropWhile (fun c => !isSep c) = rest := by
  induction l with
  | nil =>
    rcases hr with rfl | ⟨c, r', rfl, hc⟩
    · exact ⟨rfl, rfl⟩
    · simp [hc]
  | cons a l ih =>
    have ha := h a (List.mem_cons_self ..)
    have := ih fun c hc => h c (List.mem_cons_of_mem _ hc)
    simp [ha, this]
theorem atom_PP {v : D} (h : Atom v) : PP v := by
  intro rest os done hr
  have a := atom_F h
  have pl := atom_plain h
  cases hv : v.vt with
  | nil => exact absurd hv a.ne
  | cons c l =>
    have hc := fun x hx => (a.cs x hx).2
    rw [hv] at hc
    have e := takeWhile_sep (l := l) (rest := rest) (fun x hx => hc x (List.mem_cons_of_mem _ hx)) hr
    rw [List.cons_append, pcs_one (hc c (List.mem_cons_self ..)), e.1, e.2, ← hv]
    simp only [vrun]
    have : vstep (os, done) v.vt = put v os done := by
      rw [vstep, if_neg a.n1, if_neg a.n3, if_neg a.n2, pl]
    rw [this]
theorem list_PP : ∀ (xs : List D), (∀ x ∈ xs, PP x) → ∀ (rest : List Nat) (ys : List D) (os : List (List D)) (done : List D), SepSt rest →
    vrun (pcs (D.vtR xs ++ rest)) (ys :: os, done) = vrun (pcs rest) ((ys ++ xs) :: os, done)
  | [], _, rest, ys, os, done, hr => by simp [D.vtR]
  | x :: xs, h, rest, ys, os, done, hr => by
    have hx := h x (List.mem_cons_self ..)
    have ih := list_PP xs fun z hz => h z (List.mem_cons_of_mem _ hz)
    simp only [D.vtR, List.cons_append, List.append_assoc]
    rw [pcs_sep (by decide)]
    simp only [vrun]
    have : vstep (ys :: os, done) [32] = some (ys :: os, done) := by simp [vstep]
    rw [this, Option.bind_some, hx]
    · simp only [put, Option.bind_some]
      rw [ih rest _ os done hr]
      simp
    · cases xs with
      | nil => simpa [D.vtR] using hr
      | cons z zs => exact .inr ⟨32, _, rfl, by decide⟩
theorem gen_PP : ∀ (n : Nat) {v : D}, Gen n v → PP v
  | 0, v, h => atom_PP h
  | n + 1, v, h => by
    rcases h with h | ⟨xs, rfl, hl, hx⟩
    · exact atom_PP h
    · intro rest os done hr
      have ih := fun x hx' => gen_PP n (hx x hx')
      simp only [D.vt, List.cons_append, List.append_assoc, List.nil_append]
      rw [pcs_sep (by decide)]
      simp only [vrun]
      have e1 : vstep (os, done) [40] = some ([] :: os, done) := by simp [vstep]
      rw [e1, Option.bind_some]
      have e2 : vrun (pcs (D.vtL xs ++ 41 :: rest)) ([] :: os, done) = vrun (pcs (41 :: rest)) (xs :: os, done) := by
        cases xs with
        | nil => rfl
        | cons x xs =>
          simp only [D.vtL, List.append_assoc]
          rw [ih x (List.mem_cons_self ..)]
          · simp only [put, Option.bind_some]
            rw [list_PP xs (fun z hz => ih z (List.mem_cons_of_mem _ hz)) _ _ _ _ (.inr ⟨41, rest, rfl, by decide⟩)]
            simp
          · cases xs with
            | nil => exact .inr ⟨41, rest, rfl, by decide⟩
            | cons z zs => exact .inr ⟨32, _, rfl, by decide⟩
      rw [e2, pcs_sep (by decide)]
      simp only [vrun]
      have e3 : vstep (xs :: os, done) [41] = put (.tup xs) os done := by simp [vstep]
      rw [e3]
theorem gen_val {n : Nat} {v : D} (h : Gen n v) (hn : n ≤ 59) : isVal v = true := by
  have f := gen_facts n h
  exact (isVal_iff v).mpr ⟨f.1, by omega⟩
theorem gen_read {n : Nat} {v : D} (h : Gen n v) (hn : n ≤ 59) : readV v.vt = some v := by
  have e := gen_PP n h [] [] [] (.inl rfl)
  rw [List.append_nil] at e
  have : valueOf (pcs v.vt) = [v] := by
    unfold valueOf
    rw [e]
    rfl
  rw [readV, this]
  simp [gen_val h hn]
theorem good_flat {v : D} : v.good = true → v.flat = true := by
  have key : ∀ n (v : D), v.depth ≤ n → v.good = true → v.flat = true := by
    intro n
    induction n with
    | zero => intro v hd hg; cases v <;> first | rfl | cases hg | (simp [D.depth] at hd)
    | succ n ih =>
      intro v hd hg
      cases v with
      | tup xs =>
        simp only [D.depth, Nat.succ_le_succ_iff, D.good, D.flat] at hd hg ⊢
        exact flatL_mem.mpr fun x hx => ih x (depthL_mem.mp hd x hx) (goodL_mem.mp hg x hx)
      | _ => first | rfl | cases hg
  exact key _ v (Nat.le_refl _)
theorem good_plain {S : Sto} {v : D} : v.good = true → v.wt ≤ line → PlainT S v := by
  have key : ∀ n (v : D), v.depth ≤ n → v.good = true → v.wt ≤ line → PlainT S v := by
    intro n
    induction n with
    | zero =>
      intro v hd hg hw
      cases v <;> first | (simp only [PlainT]; done) | cases hg | (simp [D.depth] at hd; done) | skip
      simp only [PlainT, D.wt, len_toList] at hw ⊢
      omega
    | succ n ih =>
      intro v hd hg hw
      cases v with
      | tup xs =>
        simp only [D.depth, Nat.succ_le_succ_iff, D.good, PlainT, D.wt] at hd hg hw ⊢
        exact plainL_iff.mpr fun x hx => ih x (depthL_mem.mp hd x hx) (goodL_mem.mp hg x hx) (by have := wtL_mem hx; omega)
      | str x =>
        simp only [PlainT, D.wt, len_toList] at hw ⊢
        omega
      | _ => first | (simp only [PlainT]; done) | cases hg
  exact key _ v (Nat.le_refl _)
mutual
theorem beq_eq : ∀ {a b : D}, a.good = true → b.good = true → D.beq a b = true → a = b
  | .non, b, _, hb, h => by cases b <;> first | rfl | cases h
  | .str x, b, _, hb, h => by
    cases b <;> first | cases h | skip
    simp only [D.beq, decide_eq_true_eq] at h
    rw [h]
  | .int x, b, _, hb, h => by
    cases b <;> first | cases h | cases hb | skip
    simp only [D.beq, decide_eq_true_eq] at h
    rw [h]
  | .tup xs, b, ha, hb, h => by
    cases b <;> first | cases h | skip
    simp only [D.beq, D.good] at h ha hb
    rw [beqL_eq ha hb h]
  | .bl _, _, ha, _, _ => by cases ha
  | .loc _, _, ha, _, _ => by cases ha
  | .fn _, _, ha, _, _ => by cases ha
  | .exc _ _, _, ha, _, _ => by cases ha
  | .clo _ _, _, ha, _, _ => by cases ha
theorem beqL_eq : ∀ {L M : List D}, D.goodL L = true → D.goodL M = true → D.beqL L M = true → L = M
  | [], M, _, _, h => by cases M <;> first | rfl | cases h
  | a :: as, M, ha, hm, h => by
    cases M with
    | nil => cases h
    | cons m ms =>
      simp only [D.goodL, D.beqL, Bool.and_eq_true] at ha hm h
      rw [beq_eq ha.1 hm.1 h.1, beqL_eq ha.2 hm.2 h.2]
end
/-- texts are equal if values are -/
theorem vt_inj {n m : Nat} {a b : D} (ha : Gen n a) (hb : Gen m b) (hn : n ≤ 59) (hm : m ≤ 59) (h : a.vt = b.vt) : a = b := by
  have h1 := gen_read ha hn
  rw [h, gen_read hb hm] at h1
  exact (Option.some.inj h1).symm
end QV
set_option maxRecDepth 100000
set_option maxHeartbeats 1000000
/-! P12: the law's first statements. -/
namespace QV
open PySem
local macro_rules | `(tactic| walk_at "qv") => `(tactic| repeat (first
  | with_reducible refine sw_one ?_ | with_reducible refine sw_cons ?_ | with_reducible refine sw_nil ?_ | with_reducible refine sw_ex ?_ | with_reducible refine sw_asg ?_ | with_reducible refine sw_par ?_ | with_reducible refine sw_setI ?_ | with_reducible refine sw_aug ?_
  | with_reducible refine sw_ret ?_ | with_reducible refine sw_ifs ?_ | with_reducible refine sw_brk ?_ | with_reducible refine sw_cnt ?_ | with_reducible refine sw_rai ?_ | with_reducible refine sw_fors ?_
  | with_reducible refine wp_non ?_ | with_reducible refine wp_bl ?_ | with_reducible refine wp_int ?_ | with_reducible refine wp_str ?_ | with_reducible refine wp_bin ?_ | with_reducible refine wp_isN ?_ | with_reducible refine wp_notN ?_
  | ((with_reducible refine wp_cmp ?_ ?_ ?_); (intro h; cases h); (intro h; cases h)) | with_reducible refine wp_nt ?_ | with_reducible refine wp_an ?_ | with_reducible refine wp_orr ?_ | with_reducible refine wp_ife ?_ | with_reducible refine wp_chn ?_
  | with_reducible refine wp_es0 ?_ | with_reducible refine wp_es ?_ | with_reducible refine wp_tup ?_ | with_reducible refine wp_lst ?_ | with_reducible refine wp_idx ?_ | with_reducible refine wp_o0 ?_ | with_reducible refine wp_o1 ?_ | with_reducible refine wp_slc ?_
  | with_reducible refine wp_call ?_ | with_reducible refine wp_callL ?_ | with_reducible refine wp_bi ?_ | with_reducible refine wp_isi ?_ | with_reducible refine wp_mth ?_ | with_reducible refine wp_fld ?_
  | with_reducible refine wp_lenT ?_ | with_reducible refine wp_addI ?_ | with_reducible refine wp_subI ?_ | with_reducible refine wp_ltI ?_ | with_reducible refine wp_leI ?_ | with_reducible refine wp_gtI ?_ | with_reducible refine wp_geI ?_ | with_reducible refine wp_eqI ?_
  | with_reducible refine wp_eqS ?_ | with_reducible refine wp_neS ?_ | with_reducible refine wp_intI ?_ | with_reducible refine wp_absI ?_ | with_reducible refine wp_strS ?_
  | ((with_reducible refine wp_var' ?_); (refine ⟨_, rfl, (by first | assumption | trivial), ?_⟩))))

section
variable {F d : Nat} {S : Sto} {Q : D → Sto → Prop} {E : D → Sto → Prop}
theorem split_map {ns : List Int} {pre post : List D} {x : D} (h : ns.map D.int = pre ++ x :: post) : ∃ z : Int, x = .int z := by
  have : x ∈ ns.map D.int := by rw [h]; simp
  obtain ⟨z, _, e⟩ := List.mem_map.mp this
  exact ⟨z, e.symm⟩
theorem begun_ok {m : Nat} {ns : List Int} (hm : S[m]? = some (.ro (ns.map D.int))) (hl : ns.length ≤ 1000) (q : ∀ s g c cl S', Ex0 S S' → S.length ≤ s → S.length ≤ g → S.length ≤ c → St s g c cl 0 S' → Q (.loc s) S') : Wp (callN TBx F (d + 1) (.fn 8) [.loc m]) S Q E := by
  refine wp_fn (n := 1) (m := 4) (body := b8) rfl rfl (by decide) ?_
  unfold b8
  have hmS := lt_of_get hm
  walk_at "qv"
  refine wp_lc ?_
  walk_at "qv"
  refine wp_itLoc (asL_ro hm) fun g S1 e1 x1 h1 l1 => ?_
  refine wp_lc_live (xs := ns.map D.int) (I := fun pre S2 => Ext (· = g) S1 S2 ∧ ∃ gl : List Int, gl.length ≤ pre.length ∧ S2[g]? = some (.lst (gl.map D.int))) ?_ ⟨Ext.refl, [], Nat.le_refl _, h1⟩ ?_ ?_
  · rintro pre S2 ⟨x2, _⟩
    exact asL_ro (x2.at (x1.keep hm) (by omega))
  · rintro pre x post S2 hsp ⟨x2, gl, hg, h2⟩
    obtain ⟨z, rfl⟩ := split_map hsp
    have hpl : pre.length + post.length + 1 = ns.length := by
      have := congrArg List.length hsp
      simp at this
      omega
    refine wp_noEx (wp_bind (wp_t1 ?_))
    walk_at "qv"
    refine wp_powI (by decide) (by decide) (by decide) ?_
    walk_at "qv"
    refine ⟨_, rfl, ?_⟩
    cases hk : decide ((10 : Int) ^ ((18 : Int)).toNat ≤ if z < 0 then -z else z) with
    | true =>
      refine wp_bind ?_
      walk_at "qv"
      refine wp_powI (by decide) (by decide) (by decide) ?_
      walk_at "qv"
      refine wp_ret ⟨_, h2, by rw [List.length_map]; simp only [line]; omega, fun S3 x3 h3 _ => ⟨x2.trans x3, gl ++ [_], by simp; omega, by rw [h3]; simp; rfl⟩⟩
    | false => exact wp_ret ⟨x2, gl, by simp; omega, h2⟩
  · rintro S2 ⟨x2, gl, hg, h2⟩
    have hm2 : S2[m]? = some (.ro (ns.map D.int)) := x2.at (x1.keep hm) (by omega)
    have hgS : g < S2.length := lt_of_get h2
    have x12 : Ex0 S S2 := x1.to.trans' x2 fun n hn e => by omega
    walk_at "qv"
    refine wp_dic (by decide) fun s S3 e3 x3 h3 l3 => ?_
    walk_at "qv"
    refine wp_lc ?_
    walk_at "qv"
    refine wp_itLoc (asL_ro (x3.keep hm2)) fun c S4 e4 x4 h4 l4 => ?_
    refine wp_lc_live (xs := ns.map D.int) (I := fun pre S5 => Ext (· = c) S4 S5 ∧ ∃ cl : List Int, cl.length ≤ pre.length ∧ S5[c]? = some (.lst (cl.map D.int))) ?_ ⟨Ext.refl, [], Nat.le_refl _, h4⟩ ?_ ?_
    · rintro pre S5 ⟨x5, _⟩
      exact asL_ro (x5.at (x4.keep (x3.keep hm2)) (by omega))
    · rintro pre x post S5 hsp ⟨x5, cl, hc, h5⟩
      obtain ⟨z, rfl⟩ := split_map hsp
      have hpl : pre.length + post.length + 1 = ns.length := by
        have := congrArg List.length hsp
        simp at this
        omega
      refine wp_noEx (wp_bind (wp_t0 ?_))
      refine wp_bind ?_
      walk_at "qv"
      refine wp_ret ⟨_, h5, by rw [List.length_map]; simp only [line]; omega, fun S6 x6 h6 _ => ⟨x5.trans x6, cl ++ [_], by simp; omega, by rw [h6]; simp; rfl⟩⟩
    · rintro S5 ⟨x5, cl, hc, h5⟩
      walk_at "qv"
      have hs5 : S5[s]? = some (.dic []) := x5.at (x4.keep h3) (by omega)
      refine ⟨hs5, ?_⟩
      have hx := x12.len
      have hcS := lt_of_get h5
      have hg5 : S5[g]? = some (.lst (gl.map D.int)) := x5.at (x4.keep (x3.keep h2)) (by omega)
      refine q s g c cl _ ?_ (by omega) (by omega) (by omega) ⟨by omega, by omega, by omega, ?_, gl, 0, 0, Nat.le_refl _, ?_, ?_⟩
      · exact ((x12.trans (x3.trans x4)).trans' x5 fun n hn e => by omega).trans' (ext_set (n := s) (M := (· = s)) fun _ => rfl) fun n hn e => by omega
      · exact (ext_set (n := s) (M := (· = s)) fun _ => rfl).at h5 (by omega)
      · exact (ext_set (n := s) (M := (· = s)) fun _ => rfl).at hg5 (by omega)
      · exact set_at hs5
end
end QV
set_option maxRecDepth 100000
set_option maxHeartbeats 2000000
/-! P13: the law's told refusals. -/
namespace QV
open PySem
local macro_rules | `(tactic| walk_at "qv") => `(tactic| repeat (first
  | with_reducible refine sw_one ?_ | with_reducible refine sw_cons ?_ | with_reducible refine sw_nil ?_ | with_reducible refine sw_ex ?_ | with_reducible refine sw_asg ?_ | with_reducible refine sw_par ?_ | with_reducible refine sw_setI ?_ | with_reducible refine sw_aug ?_
  | with_reducible refine sw_ret ?_ | with_reducible refine sw_ifs ?_ | with_reducible refine sw_brk ?_ | with_reducible refine sw_cnt ?_ | with_reducible refine sw_rai ?_ | with_reducible refine sw_fors ?_
  | with_reducible refine wp_non ?_ | with_reducible refine wp_bl ?_ | with_reducible refine wp_int ?_ | with_reducible refine wp_str ?_ | with_reducible refine wp_bin ?_ | with_reducible refine wp_isN ?_ | with_reducible refine wp_notN ?_
  | ((with_reducible refine wp_cmp ?_ ?_ ?_); (intro h; cases h); (intro h; cases h)) | with_reducible refine wp_nt ?_ | with_reducible refine wp_an ?_ | with_reducible refine wp_orr ?_ | with_reducible refine wp_ife ?_ | with_reducible refine wp_chn ?_
  | with_reducible refine wp_es0 ?_ | with_reducible refine wp_es ?_ | with_reducible refine wp_tup ?_ | with_reducible refine wp_lst ?_ | with_reducible refine wp_idx ?_ | with_reducible refine wp_o0 ?_ | with_reducible refine wp_o1 ?_ | with_reducible refine wp_slc ?_
  | with_reducible refine wp_call ?_ | with_reducible refine wp_callL ?_ | with_reducible refine wp_bi ?_ | with_reducible refine wp_isi ?_ | with_reducible refine wp_mth ?_ | with_reducible refine wp_fld ?_
  | with_reducible refine wp_lenT ?_ | with_reducible refine wp_addI ?_ | with_reducible refine wp_subI ?_ | with_reducible refine wp_ltI ?_ | with_reducible refine wp_leI ?_ | with_reducible refine wp_gtI ?_ | with_reducible refine wp_geI ?_ | with_reducible refine wp_eqI ?_
  | with_reducible refine wp_eqS ?_ | with_reducible refine wp_neS ?_ | with_reducible refine wp_intI ?_ | with_reducible refine wp_absI ?_ | with_reducible refine wp_strS ?_
  | ((with_reducible refine wp_var' ?_); (refine ⟨_, rfl, (by first | assumption | trivial), ?_⟩))))

theorem isVal_no {v : D} (h : v.good = false) : isVal v = false := by
  cases e : isVal v with
  | false => rfl
  | true =>
    have := ((isVal_iff v).mp e).1
    rw [h] at this
    cases this
theorem nest_plain {S : Sto} {v : D} (h : PlainT S v) : ∀ n, PlainT S (nest n v)
  | 0 => h
  | n + 1 => by
    simp only [nest, PlainT, PlainL]
    exact ⟨nest_plain h n, True.intro⟩
theorem nest_sz {v : D} : ∀ n, (nest n v).sz = n + v.sz
  | 0 => by simp [nest]
  | n + 1 => by
    simp only [nest, D.sz, D.szL, nest_sz n]
    omega
def T1 (a1 a2 : Nat) : List D := [.str ⟨#[65]⟩, .str ⟨#[]⟩, .str ⟨#[97, 32, 98]⟩, .str ⟨#[97, 49]⟩, .str ⟨#[45]⟩, .int (10 ^ ((12 : Int)).toNat), .int (0 - 10 ^ ((12 : Int)).toNat), .bl true, .loc a1, .tup [.str ⟨#[97]⟩, .loc a2], .tup [.str ⟨#[97]⟩, .str ⟨#[66]⟩], nest 60 (.str ⟨#[97]⟩), .tup [.str ⟨#[97]⟩, .bl true]]
theorem T1_facts {S : Sto} {a1 a2 : Nat} {l1 l2 : List D} (h1 : S[a1]? = some (.lst l1)) (h2 : S[a2]? = some (.lst l2)) {x : D} (hx : x ∈ T1 a1 a2) : PlainT S x ∧ isVal x = false ∧ x.sz ≤ 100 := by
  have hs : ∀ l : List Nat, l.length ≤ 100 → PlainT S (.str ⟨l.toArray⟩) := fun l hl => by
    simp only [PlainT]
    rw [str_len]
    simp only [line]
    omega
  simp only [T1, List.mem_cons, List.not_mem_nil, or_false] at hx
  rcases hx with rfl | rfl | rfl | rfl | rfl | rfl | rfl | rfl | rfl | rfl | rfl | rfl | rfl
  · exact ⟨hs _ (by decide), isVal_no (by decide), by decide⟩
  · exact ⟨hs _ (by decide), isVal_no (by decide), by decide⟩
  · exact ⟨hs _ (by decide), isVal_no (by decide), by decide⟩
  · exact ⟨hs _ (by decide), isVal_no (by decide), by decide⟩
  · exact ⟨hs _ (by decide), isVal_no (by decide), by decide⟩
  · exact ⟨by simp only [PlainT], isVal_no (by decide), by simp [D.sz]⟩
  · exact ⟨by simp only [PlainT], isVal_no (by decide), by simp [D.sz]⟩
  · exact ⟨by simp only [PlainT], isVal_no (by decide), by simp [D.sz]⟩
  · exact ⟨by simp only [PlainT]; exact ⟨_, h1⟩, isVal_no rfl, by simp [D.sz]⟩
  · exact ⟨by simp only [PlainT, PlainL]; exact ⟨hs _ (by decide), ⟨_, h2⟩, True.intro⟩, isVal_no rfl, by simp [D.sz, D.szL]⟩
  · exact ⟨by simp only [PlainT, PlainL]; exact ⟨hs _ (by decide), hs _ (by decide), True.intro⟩, isVal_no (by decide), by decide⟩
  · exact ⟨nest_plain (hs _ (by decide)) 60, by decide +kernel, by rw [nest_sz]; decide⟩
  · exact ⟨by simp only [PlainT, PlainL]; exact ⟨hs _ (by decide), True.intro, True.intro⟩, isVal_no (by decide), by decide⟩
theorem eq_txt {S : Sto} : eqD S txt0 txt0 = some true := by
  rw [eqD_flat rfl rfl (by decide) (by decide), beq_refl rfl]
section
variable {F d : Nat} {S : Sto}
theorem law_2 {P : Po} {m s : Nat} {a2 a3 a4 a5 a6 a7 a8 a9 a10 : Option D} (hF : 40000 ≤ F) (hF2 : F ≤ line) (q : ∀ a10' S', Ex0 S S' → P.nx [some (.loc m), some (.loc s), a2, a3, a4, a5, a6, a7, a8, a9, a10'] S') :
    Sw (evS TBx (callN TBx F (d + 70)) F (.fors (.nm 10) .val (.lst [(.str ⟨#[65]⟩), (.str ⟨#[]⟩), (.str ⟨#[97, 32, 98]⟩), (.str ⟨#[97, 49]⟩), (.str ⟨#[45]⟩), (.bin .pow (.int 10) (.int 12)), (.bin .sub (.int 0) (.bin .pow (.int 10) (.int 12))), (.bl true), (.lst [(.str ⟨#[97]⟩)]), (.tup [(.str ⟨#[97]⟩), (.lst [(.str ⟨#[98]⟩)])]), (.tup [(.str ⟨#[97]⟩), (.str ⟨#[66]⟩)]), (.call 18 [(.int 60), (.str ⟨#[97]⟩)]), (.tup [(.str ⟨#[97]⟩), (.bl true)])]) [(.ifs (.cmp .ne (.callL 16 (.call 3 [(.var 10)])) (.tup [(.str ⟨#[116, 101, 120, 116]⟩), (.int 0)])) [(.ret (.bl false))] [])])) [some (.loc m), some (.loc s), a2, a3, a4, a5, a6, a7, a8, a9, a10] S P := by
  walk_at "qv"
  with_reducible refine wp_powI (by decide) (by decide) (by decide) ?_
  walk_at "qv"
  with_reducible refine wp_powI (by decide) (by decide) (by decide) ?_
  walk_at "qv"
  refine ⟨by simp [line], fun b1 S1 e1 x1 h1 l1 => ?_⟩
  walk_at "qv"
  refine ⟨by simp [line], fun b2 S2 e2 x2 h2 l2 => ?_⟩
  walk_at "qv"
  refine ⟨by simp [line], ?_⟩
  walk_at "qv"
  refine ⟨by simp [line], ?_⟩
  walk_at "qv"
  rw [show D.int 60 = D.int ((60 : Nat) : Int) from rfl]
  have n97 : NC (.str ⟨#[97]⟩) := trivial
  have n60 : 60 < 1000 := by decide
  with_reducible refine nested_ok n60 n97 ?_
  walk_at "qv"
  refine ⟨by simp [line], ?_⟩
  walk_at "qv"
  refine ⟨by simp [line], fun l S3 e3 x3 h3 l3 => ?_⟩
  have h3 : S3[l]? = some (.lst (T1 b1 b2)) := h3
  with_reducible refine wp_itLoc (asL_lst h3) ?_
  have g1 := x3.keep (x2.keep h1)
  have g2 := x3.keep h2
  with_reducible refine sw_for_live (xs := T1 b1 b2) (I := fun pre env S4 => ∃ a, env = [some (.loc m), some (.loc s), a2, a3, a4, a5, a6, a7, a8, a9, a] ∧ Ex0 S3 S4) ?_ ?_ ?_ ?_
  · rintro pre env S4 ⟨a, rfl, x4⟩
    exact asL_lst (x4.keep h3)
  · exact ⟨_, rfl, Ext.refl⟩
  · rintro pre x post env S4 hsp ⟨a, rfl, x4⟩
    refine ⟨_, rfl, ?_⟩
    have hx : x ∈ T1 b1 b2 := by rw [hsp]; simp
    obtain ⟨f1, f2, f3⟩ := T1_facts (x4.keep g1) (x4.keep g2) hx
    have nc := f1.plain.nc
    walk_at "qv"
    with_reducible refine law_word (A := fun _ => False) (B := True) ?_ ?_
    · intro S5 x5
      with_reducible refine wp_cl ?_
      walk_at "qv"
      with_reducible refine vtext_ok (f1.ext x5) (by omega) hF2 (fun z => ?_) (fun z => ?_) (fun _ S6 x6 => ?_)
      · rw [f2] at z
        cases z
      · rw [f2] at z
        cases z
      · exact ⟨x6, trivial, rfl⟩
    · rintro v S5 x5 (z | ⟨_, rfl⟩)
      · exact z.elim
      · walk_at "qv"
        refine ⟨by simp [line], ?_⟩
        with_reducible refine wp_ne eq_txt ?_
        refine ⟨false, rfl, fun z => (by cases z), fun _ => ?_⟩
        walk_at "qv"
        exact ⟨_, rfl, x4.trans x5⟩
  · rintro env S4 ⟨a, rfl, x4⟩
    exact q a S4 (x1.trans (x2.trans (x3.trans x4)))
end
end QV
set_option maxRecDepth 100000
set_option maxHeartbeats 2000000
/-! P14: the law's deepest value, texts of none. -/
namespace QV
open PySem
local macro_rules | `(tactic| walk_at "qv") => `(tactic| repeat (first
  | with_reducible refine sw_one ?_ | with_reducible refine sw_cons ?_ | with_reducible refine sw_nil ?_ | with_reducible refine sw_ex ?_ | with_reducible refine sw_asg ?_ | with_reducible refine sw_par ?_ | with_reducible refine sw_setI ?_ | with_reducible refine sw_aug ?_
  | with_reducible refine sw_ret ?_ | with_reducible refine sw_ifs ?_ | with_reducible refine sw_brk ?_ | with_reducible refine sw_cnt ?_ | with_reducible refine sw_rai ?_ | with_reducible refine sw_fors ?_
  | with_reducible refine wp_non ?_ | with_reducible refine wp_bl ?_ | with_reducible refine wp_int ?_ | with_reducible refine wp_str ?_ | with_reducible refine wp_bin ?_ | with_reducible refine wp_isN ?_ | with_reducible refine wp_notN ?_
  | ((with_reducible refine wp_cmp ?_ ?_ ?_); (intro h; cases h); (intro h; cases h)) | with_reducible refine wp_nt ?_ | with_reducible refine wp_an ?_ | with_reducible refine wp_orr ?_ | with_reducible refine wp_ife ?_ | with_reducible refine wp_chn ?_
  | with_reducible refine wp_es0 ?_ | with_reducible refine wp_es ?_ | with_reducible refine wp_tup ?_ | with_reducible refine wp_lst ?_ | with_reducible refine wp_idx ?_ | with_reducible refine wp_o0 ?_ | with_reducible refine wp_o1 ?_ | with_reducible refine wp_slc ?_
  | with_reducible refine wp_call ?_ | with_reducible refine wp_callL ?_ | with_reducible refine wp_bi ?_ | with_reducible refine wp_isi ?_ | with_reducible refine wp_mth ?_ | with_reducible refine wp_fld ?_
  | with_reducible refine wp_lenT ?_ | with_reducible refine wp_addI ?_ | with_reducible refine wp_subI ?_ | with_reducible refine wp_ltI ?_ | with_reducible refine wp_leI ?_ | with_reducible refine wp_gtI ?_ | with_reducible refine wp_geI ?_ | with_reducible refine wp_eqI ?_
  | with_reducible refine wp_eqS ?_ | with_reducible refine wp_neS ?_ | with_reducible refine wp_intI ?_ | with_reducible refine wp_absI ?_ | with_reducible refine wp_strS ?_
  | ((with_reducible refine wp_var' ?_); (refine ⟨_, rfl, (by first | assumption | trivial), ?_⟩))))

def dp : D := nest 59 (.str ⟨#[97]⟩)
theorem t59 : readV dp.vt = some dp := by kernel_rfl
theorem t60 : readV (nest 60 (.str ⟨#[97]⟩)).vt = none := by kernel_rfl
theorem dp_val : isVal dp = true := by decide +kernel
theorem dp_txt : (repS ⟨#[40]⟩ ((59 : Int)).toNat ++ ⟨#[97]⟩ ++ repS ⟨#[41]⟩ ((59 : Int)).toNat : Str) = ⟨dp.vt.toArray⟩ := by decide +kernel
theorem dp_txt60 : (repS ⟨#[40]⟩ ((60 : Int)).toNat ++ ⟨#[97]⟩ ++ repS ⟨#[41]⟩ ((60 : Int)).toNat : Str) = ⟨(nest 60 (.str ⟨#[97]⟩)).vt.toArray⟩ := by decide +kernel
theorem dp_len : dp.vt.length = 119 := by decide +kernel
theorem dp_len60 : (nest 60 (.str ⟨#[97]⟩)).vt.length = 121 := by decide +kernel
theorem dp_good : dp.good = true := by decide +kernel
theorem dp_depth : dp.depth ≤ 60 := by decide +kernel
theorem dp_plain (S : Sto) : PlainT S dp := nest_plain (by simp only [PlainT]; decide) 59
theorem dp_sz : dp.sz = 60 := by decide +kernel
theorem dp_flat : dp.flat = true := good_flat dp_good
theorem dp_shown : (D.str ⟨dp.vt.toArray⟩).py.shown.length ≤ line := by decide +kernel
theorem repS_len (c n : Nat) : (repS ⟨#[c]⟩ n).length = n := by
  show ((List.replicate n [c]).flatten).toArray.size = n
  simp
def T2 : List D := [.non, .int 5, .str ⟨#[]⟩, .str ⟨#[32]⟩, .str ⟨#[65]⟩, .str ⟨#[97, 32, 98]⟩, .str ⟨#[48, 49]⟩, .str ⟨#[45, 48]⟩, .str ⟨#[45, 45, 49]⟩, .str ⟨#[43, 49]⟩, .str ⟨#[49, 48, 48, 48, 48, 48, 48, 48, 48, 48, 48, 48, 48]⟩, .str ⟨#[40]⟩, .str ⟨#[41]⟩, .str ⟨#[40, 97]⟩, .str ⟨#[97, 41]⟩, .str ⟨#[40, 97, 41, 41]⟩, .str ⟨#[40, 32, 97, 41]⟩, .str ⟨#[40, 97, 32, 41]⟩, .str ⟨#[40, 97, 32, 32, 98, 41]⟩, .str ⟨#[40, 41, 40, 41]⟩, .str ⟨#[40, 97, 41, 40, 98, 41]⟩, .str ⟨#[97, 40, 41]⟩, .str ⟨#[49, 97]⟩, .str ⟨#[97, 49]⟩, .str ⟨#[45, 32, 49]⟩, .str ⟨#[40, 45, 41, 45]⟩, .str ⟨#[40, 97, 10, 98, 41]⟩, .str ⟨#[49, 47, 50]⟩]
theorem eq_txt0 {S : Sto} : eqD S txt0 txt0 = some true := eq_txt
section
variable {F d : Nat} {S : Sto}
theorem wp_mulS {x : Str} {n : Int} {Q : D → Sto → Prop} {E : D → Sto → Prop} (h1 : 1 < n) (h2 : n ≤ 1000) (h3 : 0 < x.length) (h4 : x.length ≤ 1000) (q : Q (.str (repS x n.toNat)) S) : Wp (opD .mul (.str x) (.int n)) S Q E :=
  wp_only (by rw [decide_eq_true h1, decide_eq_true h2, decide_eq_true h3, decide_eq_true h4]; rfl) q
theorem law_3 {P : Po} {m s : Nat} {a2 a3 a4 a5 a6 a7 a8 a9 a10 : Option D} (q : P.nx [some (.loc m), some (.loc s), some dp, a3, a4, a5, a6, a7, a8, a9, a10] S) :
    Sw (evS TBx (callN TBx F (d + 70)) F (.asg (.nm 2) (.call 18 [(.int 59), (.str ⟨#[97]⟩)]))) [some (.loc m), some (.loc s), a2, a3, a4, a5, a6, a7, a8, a9, a10] S P := by
  walk_at "qv"
  rw [show D.int 59 = D.int ((59 : Nat) : Int) from rfl]
  have n97 : NC (.str ⟨#[97]⟩) := trivial
  have n60 : 59 < 1000 := by decide
  with_reducible refine nested_ok n60 n97 ?_
  exact q
/-- a text of brackets around a -/
theorem wp_brackets {n : Int} {env : En} {K : Orc} {Q : D → Sto → Prop} {E : D → Sto → Prop} (h1 : 1 < n) (h2 : n ≤ 100) (q : Q (.str (repS ⟨#[40]⟩ n.toNat ++ ⟨#[97]⟩ ++ repS ⟨#[41]⟩ n.toNat)) S) :
    Wp (evC K (.bin .add (.bin .add (.bin .mul (.str ⟨#[40]⟩) (.int n)) (.str ⟨#[97]⟩)) (.bin .mul (.str ⟨#[41]⟩) (.int n))) env) S Q E := by
  have l1 : Str.length ⟨#[40]⟩ = 1 := rfl
  have l2 : Str.length ⟨#[41]⟩ = 1 := rfl
  have l3 : Str.length ⟨#[97]⟩ = 1 := rfl
  have hl : line = 16777216 := rfl
  walk_at "qv"
  with_reducible refine wp_mulS h1 (by omega) (by omega) (by omega) ?_
  walk_at "qv"
  with_reducible refine wp_addS (by rw [repS_len]; omega) ?_
  walk_at "qv"
  with_reducible refine wp_mulS h1 (by omega) (by omega) (by omega) ?_
  with_reducible refine wp_addS (by rw [len_append, repS_len, repS_len]; omega) ?_
  exact q
theorem law_4 {P : Po} {m s : Nat} {a3 a4 a5 a6 a7 a8 a9 a10 : Option D} (hF : 40000 ≤ F) (hF2 : F ≤ line) (q : ∀ S', Ex0 S S' → P.nx [some (.loc m), some (.loc s), some dp, a3, a4, a5, a6, a7, a8, a9, a10] S') :
    Sw (evS TBx (callN TBx F (d + 70)) F (.ifs (.orr (.nt (.call 13 [(.call 3 [(.var 2)]), (.bin .add (.bin .add (.bin .mul (.str ⟨#[40]⟩) (.int 59)) (.str ⟨#[97]⟩)) (.bin .mul (.str ⟨#[41]⟩) (.int 59)))])) (.orr (.cmp .ne (.call 7 [(.bin .add (.bin .add (.bin .mul (.str ⟨#[40]⟩) (.int 59)) (.str ⟨#[97]⟩)) (.bin .mul (.str ⟨#[41]⟩) (.int 59)))]) (.var 2)) (.cmp .ne (.callL 16 (.call 7 [(.bin .add (.bin .add (.bin .mul (.str ⟨#[40]⟩) (.int 60)) (.str ⟨#[97]⟩)) (.bin .mul (.str ⟨#[41]⟩) (.int 60)))])) (.tup [(.str ⟨#[116, 101, 120, 116]⟩), (.int 0)])))) [(.ret (.bl false))] [])) [some (.loc m), some (.loc s), some dp, a3, a4, a5, a6, a7, a8, a9, a10] S P := by
  have ncd : NC dp := trivial
  have nn1 : Cm.ne ≠ Cm.isN := by decide
  have nn2 : Cm.ne ≠ Cm.notN := by decide
  have hsz := dp_sz
  have hvl := dp_len
  have hl : line = 16777216 := rfl
  have h9 : (1 : Int) < 59 := by decide
  have h9' : (59 : Int) ≤ 100 := by decide
  have h6 : (1 : Int) < 60 := by decide
  have h6' : (60 : Int) ≤ 100 := by decide
  with_reducible refine sw_ifs ?_
  with_reducible refine wp_orr ?_
  with_reducible refine wp_nt ?_
  with_reducible refine wp_call ?_
  with_reducible refine wp_es ?_
  walk_at "qv"
  with_reducible refine vtext_ok (dp_plain S) (by omega) hF2 (fun _ => by omega) (fun _ S1 x1 => ?_) (fun z => by rw [dp_val] at z; cases z)
  with_reducible refine wp_es ?_
  with_reducible refine wp_brackets h9 h9' ?_
  rw [dp_txt]
  with_reducible refine wp_es0 ?_
  with_reducible refine is_ok (by omega) rfl (by decide) dp_shown rfl fun S2 x2 => ?_
  refine ⟨true, rfl, _, rfl, fun _ => ?_, fun z => by cases z⟩
  with_reducible refine wp_orr ?_
  with_reducible refine wp_cmp nn1 nn2 ?_
  with_reducible refine wp_call ?_
  with_reducible refine wp_es ?_
  with_reducible refine wp_brackets h9 h9' ?_
  rw [dp_txt]
  with_reducible refine wp_es0 ?_
  with_reducible refine read_ok (by omega) hF hF2 (fun v hv S3 x3 => ?_) (fun z => by rw [t59] at z; cases z)
  rw [t59] at hv
  cases hv
  walk_at "qv"
  with_reducible refine wp_ne (b := true) ?_ ?_
  · rw [eqD_flat dp_flat dp_flat dp_depth dp_depth, beq_refl dp_flat]
  refine ⟨false, rfl, fun _ => ?_, fun z => by cases z⟩
  with_reducible refine wp_cmp nn1 nn2 ?_
  with_reducible refine wp_callL ?_
  with_reducible refine law_word (A := fun _ => False) (B := True) ?_ ?_
  · intro S5 x5
    with_reducible refine wp_cl ?_
    with_reducible refine wp_call ?_
    with_reducible refine wp_es ?_
    with_reducible refine wp_brackets h6 h6' ?_
    rw [dp_txt60]
    with_reducible refine wp_es0 ?_
    have := dp_len60
    with_reducible refine read_ok (by omega) hF hF2 (fun v hv S3 x3 => ?_) (fun z S6 x6 => ?_)
    · rw [t60] at hv
      cases hv
    · exact ⟨x6, trivial, rfl⟩
  · rintro v S5 x5 (z | ⟨_, rfl⟩)
    · exact z.elim
    · walk_at "qv"
      refine ⟨by simp [line], ?_⟩
      with_reducible refine wp_ne eq_txt ?_
      refine ⟨false, rfl, fun z => (by cases z), fun _ => ?_⟩
      walk_at "qv"
      exact q S5 (x1.trans (x2.trans (x3.trans x5)))
theorem T2_facts {x : D} (hx : x ∈ T2) : (x = .non ∨ x = .int 5) ∨ ∃ t : List Nat, x = .str ⟨t.toArray⟩ ∧ t.length ≤ 2000 ∧ readV t = none := by
  simp only [T2, List.mem_cons, List.not_mem_nil, or_false] at hx
  rcases hx with rfl | rfl | rfl | rfl | rfl | rfl | rfl | rfl | rfl | rfl | rfl | rfl | rfl | rfl | rfl | rfl | rfl | rfl | rfl | rfl | rfl | rfl | rfl | rfl | rfl | rfl | rfl | rfl
  · exact .inl (.inl rfl)
  · exact .inl (.inr rfl)
  · exact .inr ⟨[], rfl, by decide, by kernel_rfl⟩
  · exact .inr ⟨[32], rfl, by decide, by kernel_rfl⟩
  · exact .inr ⟨[65], rfl, by decide, by kernel_rfl⟩
  · exact .inr ⟨[97, 32, 98], rfl, by decide, by kernel_rfl⟩
  · exact .inr ⟨[48, 49], rfl, by decide, by kernel_rfl⟩
  · exact .inr ⟨[45, 48], rfl, by decide, by kernel_rfl⟩
  · exact .inr ⟨[45, 45, 49], rfl, by decide, by kernel_rfl⟩
  · exact .inr ⟨[43, 49], rfl, by decide, by kernel_rfl⟩
  · exact .inr ⟨[49, 48, 48, 48, 48, 48, 48, 48, 48, 48, 48, 48, 48], rfl, by decide, by kernel_rfl⟩
  · exact .inr ⟨[40], rfl, by decide, by kernel_rfl⟩
  · exact .inr ⟨[41], rfl, by decide, by kernel_rfl⟩
  · exact .inr ⟨[40, 97], rfl, by decide, by kernel_rfl⟩
  · exact .inr ⟨[97, 41], rfl, by decide, by kernel_rfl⟩
  · exact .inr ⟨[40, 97, 41, 41], rfl, by decide, by kernel_rfl⟩
  · exact .inr ⟨[40, 32, 97, 41], rfl, by decide, by kernel_rfl⟩
  · exact .inr ⟨[40, 97, 32, 41], rfl, by decide, by kernel_rfl⟩
  · exact .inr ⟨[40, 97, 32, 32, 98, 41], rfl, by decide, by kernel_rfl⟩
  · exact .inr ⟨[40, 41, 40, 41], rfl, by decide, by kernel_rfl⟩
  · exact .inr ⟨[40, 97, 41, 40, 98, 41], rfl, by decide, by kernel_rfl⟩
  · exact .inr ⟨[97, 40, 41], rfl, by decide, by kernel_rfl⟩
  · exact .inr ⟨[49, 97], rfl, by decide, by kernel_rfl⟩
  · exact .inr ⟨[97, 49], rfl, by decide, by kernel_rfl⟩
  · exact .inr ⟨[45, 32, 49], rfl, by decide, by kernel_rfl⟩
  · exact .inr ⟨[40, 45, 41, 45], rfl, by decide, by kernel_rfl⟩
  · exact .inr ⟨[40, 97, 10, 98, 41], rfl, by decide, by kernel_rfl⟩
  · exact .inr ⟨[49, 47, 50], rfl, by decide, by kernel_rfl⟩

theorem law_5 {P : Po} {m s : Nat} {a2 a3 a4 a5 a6 a7 a8 a9 a10 : Option D} (hF : 40000 ≤ F) (hF2 : F ≤ line) (q : ∀ a10' S', Ex0 S S' → P.nx [some (.loc m), some (.loc s), a2, a3, a4, a5, a6, a7, a8, a9, a10'] S') :
    Sw (evS TBx (callN TBx F (d + 70)) F (.fors (.nm 10) .val (.lst [.non, (.int 5), (.str ⟨#[]⟩), (.str ⟨#[32]⟩), (.str ⟨#[65]⟩), (.str ⟨#[97, 32, 98]⟩), (.str ⟨#[48, 49]⟩), (.str ⟨#[45, 48]⟩), (.str ⟨#[45, 45, 49]⟩), (.str ⟨#[43, 49]⟩), (.str ⟨#[49, 48, 48, 48, 48, 48, 48, 48, 48, 48, 48, 48, 48]⟩), (.str ⟨#[40]⟩), (.str ⟨#[41]⟩), (.str ⟨#[40, 97]⟩), (.str ⟨#[97, 41]⟩), (.str ⟨#[40, 97, 41, 41]⟩), (.str ⟨#[40, 32, 97, 41]⟩), (.str ⟨#[40, 97, 32, 41]⟩), (.str ⟨#[40, 97, 32, 32, 98, 41]⟩), (.str ⟨#[40, 41, 40, 41]⟩), (.str ⟨#[40, 97, 41, 40, 98, 41]⟩), (.str ⟨#[97, 40, 41]⟩), (.str ⟨#[49, 97]⟩), (.str ⟨#[97, 49]⟩), (.str ⟨#[45, 32, 49]⟩), (.str ⟨#[40, 45, 41, 45]⟩), (.str ⟨#[40, 97, 10, 98, 41]⟩), (.str ⟨#[49, 47, 50]⟩)]) [(.ifs (.cmp .ne (.callL 16 (.call 7 [(.var 10)])) (.tup [(.str ⟨#[116, 101, 120, 116]⟩), (.int 0)])) [(.ret (.bl false))] [])])) [some (.loc m), some (.loc s), a2, a3, a4, a5, a6, a7, a8, a9, a10] S P := by
  walk_at "qv"
  refine ⟨by simp [line], fun l S3 e3 x3 h3 l3 => ?_⟩
  have h3 : S3[l]? = some (.lst T2) := h3
  with_reducible refine wp_itLoc (asL_lst h3) ?_
  with_reducible refine sw_for_live (xs := T2) (I := fun pre env S4 => ∃ a, env = [some (.loc m), some (.loc s), a2, a3, a4, a5, a6, a7, a8, a9, a] ∧ Ex0 S3 S4) ?_ ?_ ?_ ?_
  · rintro pre env S4 ⟨a, rfl, x4⟩
    exact asL_lst (x4.keep h3)
  · exact ⟨_, rfl, Ext.refl⟩
  · rintro pre x post env S4 hsp ⟨a, rfl, x4⟩
    refine ⟨_, rfl, ?_⟩
    have hx : x ∈ T2 := by rw [hsp]; simp
    have hf := T2_facts hx
    have nc : NC x := by
      rcases hf with (rfl | rfl) | ⟨t, rfl, _⟩ <;> trivial
    walk_at "qv"
    with_reducible refine law_word (A := fun _ => False) (B := True) ?_ ?_
    · intro S5 x5
      with_reducible refine wp_cl ?_
      walk_at "qv"
      rcases hf with (rfl | rfl) | ⟨t, rfl, ht, hr⟩
      · with_reducible refine read_no (v := .non) ?_ ?_ fun S6 x6 => ?_
        · trivial
        · intro x h; cases h
        · exact ⟨x6, trivial, rfl⟩
      · with_reducible refine read_no (v := .int 5) ?_ ?_ fun S6 x6 => ?_
        · trivial
        · intro x h; cases h
        · exact ⟨x6, trivial, rfl⟩
      · with_reducible refine read_ok ht hF hF2 (fun v hv S6 x6 => ?_) (fun _ S6 x6 => ?_)
        · rw [hr] at hv
          cases hv
        · exact ⟨x6, trivial, rfl⟩
    · rintro v S5 x5 (z | ⟨_, rfl⟩)
      · exact z.elim
      · walk_at "qv"
        refine ⟨by simp [line], ?_⟩
        with_reducible refine wp_ne eq_txt ?_
        refine ⟨false, rfl, fun z => (by cases z), fun _ => ?_⟩
        walk_at "qv"
        exact ⟨_, rfl, x4.trans x5⟩
  · rintro env S4 ⟨a, rfl, x4⟩
    exact q a S4 (x3.trans x4)
end
end QV
set_option maxRecDepth 100000
set_option maxHeartbeats 2000000
/-! P15: the law's loop. -/
namespace QV
open PySem
local macro_rules | `(tactic| walk_at "qv") => `(tactic| repeat (first
  | with_reducible refine sw_one ?_ | with_reducible refine sw_cons ?_ | with_reducible refine sw_nil ?_ | with_reducible refine sw_ex ?_ | with_reducible refine sw_asg ?_ | with_reducible refine sw_par ?_ | with_reducible refine sw_setI ?_ | with_reducible refine sw_aug ?_
  | with_reducible refine sw_ret ?_ | with_reducible refine sw_ifs ?_ | with_reducible refine sw_brk ?_ | with_reducible refine sw_cnt ?_ | with_reducible refine sw_rai ?_ | with_reducible refine sw_fors ?_
  | with_reducible refine wp_non ?_ | with_reducible refine wp_bl ?_ | with_reducible refine wp_int ?_ | with_reducible refine wp_str ?_ | with_reducible refine wp_bin ?_ | with_reducible refine wp_isN ?_ | with_reducible refine wp_notN ?_
  | ((with_reducible refine wp_cmp ?_ ?_ ?_); (intro h; cases h); (intro h; cases h)) | with_reducible refine wp_nt ?_ | with_reducible refine wp_an ?_ | with_reducible refine wp_orr ?_ | with_reducible refine wp_ife ?_ | with_reducible refine wp_chn ?_
  | with_reducible refine wp_es0 ?_ | with_reducible refine wp_es ?_ | with_reducible refine wp_tup ?_ | with_reducible refine wp_lst ?_ | with_reducible refine wp_idx ?_ | with_reducible refine wp_o0 ?_ | with_reducible refine wp_o1 ?_ | with_reducible refine wp_slc ?_
  | with_reducible refine wp_call ?_ | with_reducible refine wp_callL ?_ | with_reducible refine wp_bi ?_ | with_reducible refine wp_isi ?_ | with_reducible refine wp_mth ?_ | with_reducible refine wp_fld ?_
  | with_reducible refine wp_lenT ?_ | with_reducible refine wp_addI ?_ | with_reducible refine wp_subI ?_ | with_reducible refine wp_ltI ?_ | with_reducible refine wp_leI ?_ | with_reducible refine wp_gtI ?_ | with_reducible refine wp_geI ?_ | with_reducible refine wp_eqI ?_
  | with_reducible refine wp_eqS ?_ | with_reducible refine wp_neS ?_ | with_reducible refine wp_intI ?_ | with_reducible refine wp_absI ?_ | with_reducible refine wp_strS ?_
  | ((with_reducible refine wp_var' ?_); (refine ⟨_, rfl, (by first | assumption | trivial), ?_⟩))))

section
variable {F d : Nat} {S : Sto}
theorem eqD_bl {a b : Bool} : eqD S (.bl a) (.bl b) = some (a == b) := by
  simp [eqD, asL, D.flat, D.depth, D.beq]
theorem wp_min2 {i j : Int} {Q : D → Sto → Prop} {E : D → Sto → Prop} (q : Q (.int (if j < i then j else i)) S) : Wp (biD .min2 [.int i, .int j]) S Q E := q
theorem St.lt_s {s g c t : Nat} {cl : List Int} (h : St s g c cl t S) : s < S.length := by obtain ⟨_, _, _, _, _, z⟩ := h.hs; exact lt_of_get z
theorem St.lt_g {s g c t : Nat} {cl : List Int} (h : St s g c cl t S) : g < S.length := by obtain ⟨_, _, _, _, z, _⟩ := h.hs; exact lt_of_get z
theorem shown_str {l : List Nat} (h : ∀ c ∈ l, c < 256) (hl : l.length ≤ 2000) : (D.str ⟨l.toArray⟩).py.shown.length ≤ line := by
  have : (D.str ⟨l.toArray⟩).py.shown = reprText ⟨l.toArray⟩ := by simp only [D.py, PyData.shown]
  rw [this]
  have := StrLaws.reprText_len ⟨l.toArray⟩ fun c hc => Nat.lt_trans (h c hc) (by decide)
  have e := str_len l
  simp only [line]
  omega
theorem law_6 {P : Po} {m s g c : Nat} {cl : List Int} {n : Nat} {xs : List D} {a3 a4 a5 a6 a7 a8 a9 a10 : Option D} (hF : 40000 ≤ F) (hF2 : F ≤ line) (hm : S[m]? = some (.ro xs)) (H : St s g c cl 0 S) (q : ∀ e S', P.nx e S') :
    Sw (evS TBx (callN TBx F (d + 70)) F (.fors (.nm 3) .rng (.bin .add (.int 8) (.bi .min2 [(.bi .len [(.var 0)]), (.int 10)])) [(.par 4 5 (.call 17 [(.var 1), (.int 3)]) (.call 17 [(.var 1), (.int 3)])), (.asg (.nm 6) (.call 14 [(.var 4)])), (.ifs (.orr (.nt (.call 13 [(.call 3 [(.var 4)]), (.var 6)])) (.orr (.nt (.call 13 [(.call 7 [(.var 6)]), (.var 4)])) (.orr (.nt (.call 13 [(.call 7 [(.var 6)]), (.var 4)])) (.nt (.call 13 [(.call 3 [(.var 4)]), (.var 6)]))))) [(.ret (.bl false))] []), (.ifs (.cmp .ne (.cmp .eq (.call 3 [(.var 4)]) (.call 3 [(.var 5)])) (.cmp .eq (.var 4) (.var 5))) [(.ret (.bl false))] []), (.asg (.nm 7) (.call 10 [(.var 1), (.bin .add (.bi .len [(.var 6)]) (.int 1))])), (.asg (.nm 9) (.call 11 [(.var 1), (.lst [(.bin .add (.bin .add (.slc (.var 6) none (some (.var 7))) (.call 11 [(.var 1), (.lst [(.str ⟨#[40]⟩), (.str ⟨#[41]⟩), (.str ⟨#[32]⟩), (.str ⟨#[65]⟩)])])) (.slc (.var 6) (some (.var 7)) none)), (.bin .add (.slc (.var 6) none (some (.var 7))) (.slc (.var 6) (some (.bin .add (.var 7) (.int 1))) none))])])), (.asg (.nm 8) (.callL 16 (.call 7 [(.var 9)]))), (.ifs (.an (.cmp .ne (.var 8) (.tup [(.str ⟨#[116, 101, 120, 116]⟩), (.int 0)])) (.orr (.nt (.call 12 [(.var 8)])) (.cmp .ne (.call 14 [(.var 8)]) (.var 9)))) [(.ret (.bl false))] [])])) [some (.loc m), some (.loc s), some dp, a3, a4, a5, a6, a7, a8, a9, a10] S P := by
  have hline : line = 16777216 := rfl
  have c3 : cost 3 = 80 := rfl
  with_reducible refine sw_fors ?_
  with_reducible refine wp_bin ?_
  walk_at "qv"
  with_reducible refine wp_lenL (asL_ro hm) ?_
  walk_at "qv"
  with_reducible refine wp_min2 ?_
  walk_at "qv"
  obtain ⟨k, hk, hk2⟩ : ∃ k : Nat, (8 + (if (10 : Int) < (xs.length : Int) then (10 : Int) else (xs.length : Int))) = (k : Int) ∧ k < 19 := by
    refine ⟨8 + min xs.length 10, ?_, by omega⟩
    split <;> omega
  rw [hk]
  have hk3 : k < 1000 := by omega
  with_reducible refine wp_itRng hk3 ?_
  with_reducible refine sw_for_fix (I := fun pre env S4 => ∃ x3 x4 x5 x6 x7 x8 x9 x10, env = [some (.loc m), some (.loc s), some dp, x3, x4, x5, x6, x7, x8, x9, x10] ∧ St s g c cl (pre.length * 163) S4) ?_ ?_ ?_
  · exact ⟨_, _, _, _, _, _, _, _, rfl, H.mono (by simp)⟩
  · rintro pre lap post env S4 hsp ⟨x3, x4, x5, x6, x7, x8, x9, x10, rfl, H4⟩
    have hpre := (split_range hsp).1
    obtain ⟨t, ht⟩ : ∃ t, pre.length * 163 = t := ⟨_, rfl⟩
    have ht2 : t ≤ 3000 := by omega
    have htn : t + 163 = (pre ++ [lap]).length * 163 := by simp; omega
    rw [ht] at H4
    rw [← htn]
    refine ⟨_, rfl, ?_⟩
    walk_at "qv"
    rw [show D.int 3 = D.int ((3 : Nat) : Int) from rfl]
    with_reducible refine some_ok 3 (by omega) (by omega) H4 fun one S5 g5 y5 h5 => ?_
    walk_at "qv"
    rw [show D.int 3 = D.int ((3 : Nat) : Int) from rfl]
    with_reducible refine some_ok 3 (by omega) (by omega) h5 fun other S6 g6 y6 h6 => ?_
    obtain ⟨f1, f2, f3, f4, f5, f6, f7, f8⟩ := gen_facts 3 g5
    obtain ⟨o1, o2, o3, o4, o5, o6, o7, o8⟩ := gen_facts 3 g6
    have w3 : Wb 3 = 599 := by decide
    have h3 : Hb 3 = 5358 := by decide
    have nc1 := flat_nc f2
    have nc2 := flat_nc o2
    have v1 := vt_le one
    have v2 := vt_le other
    have s1 := sz_le one
    have s2 := sz_le other
    have val1 := gen_val g5 (by decide)
    have val2 := gen_val g6 (by decide)
    have r1 := gen_read g5 (by decide)
    have pl : ∀ S, PlainT S one := fun S => good_plain f1 (by omega)
    have pl2 : ∀ S, PlainT S other := fun S => good_plain o1 (by omega)
    have tl := str_len one.vt
    have tol : (⟨one.vt.toArray⟩ : Str).cps.toList = one.vt := by simp
    have isT : ∀ {S : Sto} {Q : D → Sto → Prop} {E : D → Sto → Prop}, (∀ S', Ex0 S S' → Q (.bl true) S') → Wp (callN TBx F (d + 70) (.fn 13) [.str ⟨one.vt.toArray⟩, .str ⟨one.vt.toArray⟩]) S Q E := fun z =>
      is_ok (by omega) rfl (by show 0 ≤ 60; decide) (shown_str f5 (by omega)) rfl z
    have isV : ∀ {S : Sto} {Q : D → Sto → Prop} {E : D → Sto → Prop}, (∀ S', Ex0 S S' → Q (.bl true) S') → Wp (callN TBx F (d + 70) (.fn 13) [one, one]) S Q E := fun z =>
      is_ok (by omega) f2 (by omega) (by omega) f7 z
    have vtx : ∀ {S : Sto} {Q : D → Sto → Prop} {E : D → Sto → Prop}, (∀ S', Ex0 S S' → Q (.str ⟨one.vt.toArray⟩) S') → Wp (callN TBx F (d + 70) (.fn 3) [one]) S Q E := fun z =>
      vtext_ok (d := d + 67) (pl _) (by omega) hF2 (fun _ => by omega) (fun _ => z) fun z => by rw [val1] at z; cases z
    have rdx : ∀ {S : Sto} {Q : D → Sto → Prop} {E : D → Sto → Prop}, (∀ S', Ex0 S S' → Q one S') → Wp (callN TBx F (d + 70) (.fn 7) [.str ⟨one.vt.toArray⟩]) S Q E := fun z =>
      read_ok (d := d + 66) (by omega) hF hF2 (fun v hv S' x => by
        rw [r1] at hv
        cases hv
        exact z S' x) fun z => by rw [r1] at z; cases z
    walk_at "qv"
    with_reducible refine lvt_ok 3 f3 (by omega) f1 (by omega) fun S7 y7 => ?_
    walk_at "qv"
    with_reducible refine vtx fun S8 y8 => ?_
    walk_at "qv"
    with_reducible refine isT fun S9 y9 => ?_
    refine ⟨true, rfl, _, rfl, fun _ => ?_, fun z => by cases z⟩
    walk_at "qv"
    with_reducible refine rdx fun S10 y10 => ?_
    walk_at "qv"
    with_reducible refine isV fun S11 y11 => ?_
    refine ⟨true, rfl, _, rfl, fun _ => ?_, fun z => by cases z⟩
    walk_at "qv"
    with_reducible refine rdx fun S12 y12 => ?_
    walk_at "qv"
    with_reducible refine isV fun S13 y13 => ?_
    refine ⟨true, rfl, _, rfl, fun _ => ?_, fun z => by cases z⟩
    walk_at "qv"
    with_reducible refine vtx fun S14 y14 => ?_
    walk_at "qv"
    with_reducible refine isT fun S15 y15 => ?_
    refine ⟨true, rfl, _, rfl, fun z => (by cases z), fun _ => ?_⟩
    have h15 : St s g c cl (t + 160) S15 := ((((((((((h6.new y7).new y8).new y9).new y10).new y11).new y12).new y13).new y14).new y15).mono (by omega))
    walk_at "qv"
    with_reducible refine vtx fun S16 y16 => ?_
    walk_at "qv"
    with_reducible refine vtext_ok (pl2 _) (by omega) hF2 (fun _ => by omega) (fun _ S17 y17 => ?_) (fun z => by rw [val2] at z; cases z)
    walk_at "qv"
    with_reducible refine wp_eq (eqD_flat f2 o2 (by omega) (by omega)) ?_
    with_reducible refine wp_ne eqD_bl ?_
    have hb : decide ((⟨one.vt.toArray⟩ : Str) = ⟨other.vt.toArray⟩) = D.beq one other := by
      cases hb : D.beq one other with
      | true =>
        have := beq_eq f1 o1 hb
        rw [this]
        simp
      | false =>
        refine decide_eq_false fun z => ?_
        have z2 : one.vt = other.vt := by simpa using z
        have := vt_inj g5 g6 (by decide) (by decide) z2
        rw [this, beq_refl o2] at hb
        cases hb
    rw [hb, beq_self_eq_true]
    refine ⟨false, rfl, fun z => (by cases z), fun _ => ?_⟩
    walk_at "qv"
    with_reducible refine wp_lenS (by omega) ?_
    walk_at "qv"
    with_reducible refine draw_ok ((h15.new y16).new y17) (by omega) (by omega) (by omega) fun i S18 hi y18 h18 => ?_
    have hil : i ≤ one.vt.length := by omega
    have a1 := str_len (List.take i one.vt)
    have a2 : (List.take i one.vt).length ≤ one.vt.length := by rw [List.length_take]; omega
    have a3 := str_len (List.drop i one.vt)
    have a4 : (List.drop i one.vt).length ≤ one.vt.length := by rw [List.length_drop]; omega
    have a5 := str_len (List.drop (i + 1) one.vt)
    have a6 : (List.drop (i + 1) one.vt).length ≤ one.vt.length := by rw [List.length_drop]; omega
    walk_at "qv"
    refine ⟨_, rfl, ?_⟩
    with_reducible refine wp_slice (by omega) ?_
    rw [cut_lo, tol]
    walk_at "qv"
    refine ⟨by simp [line], fun l1 S19 e19 y19 hl1 ll1 => ?_⟩
    walk_at "qv"
    have ls18 := h18.lt_s
    have lg18 := h18.lt_g
    with_reducible refine pick_ok (h18.new y19) (by omega) hl1 (by omega) (by omega) (by simp) (by simp) fun y S20 hy y20 h20 => ?_
    obtain ⟨ch, rfl⟩ : ∃ ch : Nat, y = .str ⟨#[ch]⟩ := by
      simp only [List.mem_cons, List.not_mem_nil, or_false] at hy
      rcases hy with rfl | rfl | rfl | rfl <;> exact ⟨_, rfl⟩
    have lch : Str.length ⟨#[ch]⟩ = 1 := rfl
    with_reducible refine wp_addS (by omega) ?_
    walk_at "qv"
    refine ⟨_, rfl, ?_⟩
    walk_at "qv"
    with_reducible refine wp_slice (by omega) ?_
    rw [cut_hi, tol]
    with_reducible refine wp_addS (by rw [len_append]; omega) ?_
    walk_at "qv"
    refine ⟨_, rfl, ?_⟩
    with_reducible refine wp_slice (by omega) ?_
    rw [cut_lo, tol]
    walk_at "qv"
    refine ⟨_, rfl, ?_⟩
    walk_at "qv"
    with_reducible refine wp_slice (by omega) ?_
    rw [show ((i : Int) + 1) = ((i + 1 : Nat) : Int) by omega, cut_hi, tol]
    with_reducible refine wp_addS (by omega) ?_
    walk_at "qv"
    refine ⟨by simp [line], fun l2 S21 e21 y21 hl2 ll2 => ?_⟩
    walk_at "qv"
    have ls20 := h20.lt_s
    have lg20 := h20.lt_g
    with_reducible refine pick_ok (h20.new y21) (by omega) hl2 (by omega) (by omega) (by simp) (by simp) fun y S22 hy y22 h22 => ?_
    obtain ⟨bt, rfl, hbt⟩ : ∃ bt : List Nat, y = .str ⟨bt.toArray⟩ ∧ bt.length ≤ one.vt.length + 1 := by
      have e1 : ((⟨(List.take i one.vt).toArray⟩ : Str) ++ ⟨#[ch]⟩) ++ ⟨(List.drop i one.vt).toArray⟩ = ⟨(List.take i one.vt ++ [ch] ++ List.drop i one.vt).toArray⟩ := by
        rw [show (⟨#[ch]⟩ : Str) = ⟨([ch] : List Nat).toArray⟩ from rfl, str_app, str_app]
      have e2 : ((⟨(List.take i one.vt).toArray⟩ : Str) ++ ⟨(List.drop (i + 1) one.vt).toArray⟩) = ⟨(List.take i one.vt ++ List.drop (i + 1) one.vt).toArray⟩ := str_app _ _
      simp only [List.mem_cons, List.not_mem_nil, or_false] at hy
      have b1 : (List.take i one.vt).length = i := by rw [List.length_take]; omega
      rcases hy with hy | hy
      · refine ⟨_, hy.trans (congrArg D.str e1), ?_⟩
        rw [List.length_append, List.length_append, List.length_drop, b1]
        simp
        omega
      · refine ⟨_, hy.trans (congrArg D.str e2), ?_⟩
        rw [List.length_append, List.length_drop, b1]
        omega
    have bl := str_len bt
    walk_at "qv"
    with_reducible refine law_word (A := fun v => readV bt = some v) (B := True) ?_ ?_
    · intro S23 y23
      with_reducible refine wp_cl ?_
      walk_at "qv"
      with_reducible refine read_ok (by omega) hF hF2 (fun v hv S24 y24 => ?_) (fun _ S24 y24 => ?_)
      · exact ⟨y24, hv⟩
      · exact ⟨y24, trivial, rfl⟩
    · intro told S23 y23 hA
      have h23 := h22.new y23
      have fin : ∀ (e3 e5 e6 e7 e8 e9 : Option D) S24, Ex0 S23 S24 → ∃ x3 x4 x5 x6 x7 x8 x9 x10', [some (D.loc m), some (.loc s), some dp, e3, some one, e5, e6, e7, e8, e9, x10] = [some (.loc m), some (.loc s), some dp, x3, x4, x5, x6, x7, x8, x9, x10'] ∧ St s g c cl (t + 163) S24 := fun e3 e5 e6 e7 e8 e9 S24 y24 =>
        ⟨_, _, _, _, _, _, _, _, rfl, (h23.new y24).mono (by omega)⟩
      have nct : NC told := by
        rcases hA with hA | ⟨_, rfl⟩
        · unfold readV at hA
          rcases valueOf_facts (ps := pcs bt) (fun p hp => (pcs_mem hp).1) (fun p hp => by have := pcs_mem hp; omega) with e | ⟨v, e, hw, hpl⟩
          · rw [e] at hA
            cases hA
          · rw [e] at hA
            split at hA
            · rename_i heq
              cases heq
              split at hA
              · cases hA
                exact (hpl S).plain.nc
              · cases hA
            · cases hA
        · trivial
      rcases hA with hA | ⟨_, rfl⟩
      · obtain ⟨tv, tt, tw⟩ : isVal told = true ∧ told.vt = bt ∧ told.wt ≤ 3 * bt.length := by
          unfold readV at hA
          have hs := (pcs_sum bt.length bt (Nat.le_refl _)).1
          rcases valueOf_facts (ps := pcs bt) (fun p hp => (pcs_mem hp).1) (fun p hp => by have := pcs_mem hp; omega) with e | ⟨v, e, hw, hpl⟩
          · rw [e] at hA
            cases hA
          · rw [e] at hA
            split at hA
            · rename_i heq
              cases heq
              split at hA
              · rename_i hc
                cases hA
                simp only [Bool.and_eq_true, decide_eq_true_eq] at hc
                exact ⟨hc.1, hc.2, by omega⟩
              · cases hA
            · cases hA
        obtain ⟨tg, td⟩ := (isVal_iff told).mp tv
        have tf := good_flat tg
        walk_at "qv"
        refine ⟨by simp [line], ?_⟩
        with_reducible refine wp_ne (eqD_flat tf rfl (by omega) (by decide)) ?_
        refine ⟨_, rfl, fun z => ?_, fun z => ?_⟩
        · walk_at "qv"
          with_reducible refine lplain_ok 59 td (by omega) tf fun S24 y24 => ?_
          refine ⟨true, rfl, _, rfl, fun _ => ?_, fun z => by cases z⟩
          walk_at "qv"
          with_reducible refine lvt_ok 59 td (by omega) tg (by omega) fun S25 y25 => ?_
          walk_at "qv"
          rw [tt, decide_eq_true rfl]
          refine ⟨false, rfl, fun z => (by cases z), fun _ => ?_⟩
          walk_at "qv"
          exact fin _ _ _ _ _ _ S25 (y24.trans y25)
        · refine ⟨false, rfl, fun z => (by cases z), fun _ => ?_⟩
          walk_at "qv"
          exact fin _ _ _ _ _ _ S23 Ext.refl
      · walk_at "qv"
        refine ⟨by simp [line], ?_⟩
        with_reducible refine wp_ne eq_txt ?_
        refine ⟨false, rfl, fun z => (by cases z), fun _ => ?_⟩
        refine ⟨false, rfl, fun z => (by cases z), fun _ => ?_⟩
        walk_at "qv"
        exact fin _ _ _ _ _ _ S23 Ext.refl
  · rintro env S4 ⟨x3, x4, x5, x6, x7, x8, x9, x10, rfl, H4⟩
    exact q _ _
end
end QV
set_option maxRecDepth 100000
set_option maxHeartbeats 2000000
/-! P16: the plain law. -/
namespace QV
open PySem
theorem law_plain (ns : List Int) (h : ns.length ≤ 63) : ∃ S', callN TBx 40000 71 (.fn 19) [.loc 0] [.ro (ns.map D.int)] = .ok (.bl true) S' := by
  have hF : 40000 ≤ 40000 := Nat.le_refl _
  have hF2 : 40000 ≤ line := by decide
  have key : Wp (callN TBx 40000 (0 + 70 + 1) (.fn 19) [.loc 0]) [.ro (ns.map D.int)] (fun v _ => v = .bl true) fun _ _ => False := by
    with_reducible refine wp_fn (n := 1) (m := 11) (body := b19) ?_ ?_ ?_ ?_
    · rfl
    · rfl
    · decide
    have hm : ([.ro (ns.map D.int)] : Sto)[0]? = some (.ro (ns.map D.int)) := rfl
    unfold b19
    with_reducible refine sw_cons ?_
    with_reducible refine sw_asg ?_
    with_reducible refine wp_call ?_
    with_reducible refine wp_es ?_
    refine wp_var rfl trivial ?_
    with_reducible refine wp_es0 ?_
    with_reducible refine begun_ok hm (by omega) fun s g c cl S1 x1 l1 l2 l3 H => ?_
    with_reducible refine sw_cons ?_
    refine law_2 hF hF2 fun a10 S2 x2 => ?_
    with_reducible refine sw_cons ?_
    refine law_3 ?_
    with_reducible refine sw_cons ?_
    refine law_4 hF hF2 fun S3 x3 => ?_
    with_reducible refine sw_cons ?_
    refine law_5 hF hF2 fun a10 S4 x4 => ?_
    have x14 : Ex0 S1 S4 := x2.trans (x3.trans x4)
    with_reducible refine sw_cons ?_
    refine law_6 (n := 0) hF hF2 (x14.keep (x1.keep hm)) (H.new x14) fun e S' => ?_
    with_reducible refine sw_one ?_
    with_reducible refine sw_ret ?_
    exact wp_bl rfl
  obtain ⟨a, S', e, rfl⟩ := key.elim
  exact ⟨S', e⟩
end QV
set_option maxRecDepth 100000
/-! C88: the program's defs in the small language. -/
namespace QV
open PySem PySem.Spec PyProof.Rows L2
abbrev prg : Program := PySem.Challenge.pw_axlebook_k88_values_written
def topK (i : Nat) : Stmt := prg.main.body.getD i (.Pass ⟨0, 0, 0, 0⟩)
def CT88 : CT where
  defs := (["is_word", "is_figure", "is_value", "value_text", "pieces_of", "plain_of", "value_of", "read_value", "_law_begun", "_law_mixed"] : List Str) ++ (["_law_draw", "_law_pick", "_law_plain", "_law_is", "_law_value_text", "_law_caught", "_law_word", "_law_some_value", "_law_nested", "law"] : List Str)
  pars := [(["thing"] : List Str), (["thing"] : List Str), (["thing"] : List Str), (["value"] : List Str), (["text"] : List Str), (["piece"] : List Str), (["pieces"] : List Str), (["text"] : List Str), (["script"] : List Str), (["state"] : List Str), (["state", "room"] : List Str), (["state", "some"] : List Str), (["value"] : List Str), (["found", "due"] : List Str), (["value"] : List Str), (["action"] : List Str), (["action"] : List Str), (["state", "deep"] : List Str), (["many", "one"] : List Str), (["script"] : List Str)]
  excs := (["AxleError", "NoName", "NoNumber", "NoLot", "NoTable", "NoKind", "NoBook", "NoState", "NoExpression", "NoLaw"] : List Str) ++ (["NoDeed", "NoPast", "Twice", "NoText", "Used", "TooMany"] : List Str)
  root := 0
  numC := [(("MOST_DEEP" : Str), 60), (("MOST_FIGURES" : Str), 12), (("MOST_NUMBER" : Str), 1000000000000)]
  txtC := [(("SMALL" : Str), ("abcdefghijklmnopqrstuvwxyz" : Str)), (("FIGURES" : Str), ("0123456789" : Str))]
  blt := (["len", "abs", "int", "str", "repr", "all", "any", "min", "tuple", "isinstance"] : List Str) ++ (["bool", "list", "dict", "range", "enumerate", "reversed"] : List Str)
  flds := (["line", "name", "most"] : List Str)
abbrev N0 : List Str := (["thing", ".0", "sign"] : List Str)
abbrev A0 : List Str := (["thing"] : List Str)
theorem df0 : TBx.defs[0]? = some (A0.length, N0.length, cSs CT88 1 N0 100 (defScope (topK 23)) (defBody (topK 23))) := by kernel_rfl
theorem sc0 : FnScope N0 A0 (defScope (topK 23)) := ⟨rfl, rfl, rfl, by decide +kernel, rfl, by decide +kernel, by decide +kernel⟩
def dd0 : He.DefD := ⟨("is_word", none), "is_word", "is_word", defArgs (topK 23), defBody (topK 23), defScope (topK 23), [], []⟩
abbrev N1 : List Str := (["thing"] : List Str)
abbrev A1 : List Str := (["thing"] : List Str)
theorem df1 : TBx.defs[1]? = some (A1.length, N1.length, cSs CT88 1 N1 100 (defScope (topK 24)) (defBody (topK 24))) := by kernel_rfl
theorem sc1 : FnScope N1 A1 (defScope (topK 24)) := ⟨rfl, rfl, rfl, by decide +kernel, rfl, by decide +kernel, by decide +kernel⟩
def dd1 : He.DefD := ⟨("is_figure", none), "is_figure", "is_figure", defArgs (topK 24), defBody (topK 24), defScope (topK 24), [], []⟩
abbrev N2 : List Str := (["thing", "layer", "deep", "later", "one"] : List Str)
abbrev A2 : List Str := (["thing"] : List Str)
theorem df2 : TBx.defs[2]? = some (A2.length, N2.length, cSs CT88 1 N2 100 (defScope (topK 25)) (defBody (topK 25))) := by kernel_rfl
theorem sc2 : FnScope N2 A2 (defScope (topK 25)) := ⟨rfl, rfl, rfl, by decide +kernel, rfl, by decide +kernel, by decide +kernel⟩
def dd2 : He.DefD := ⟨("is_value", none), "is_value", "is_value", defArgs (topK 25), defBody (topK 25), defScope (topK 25), [], []⟩
abbrev N3 : List Str := (["value", "found", "left", "here", "at", "one"] : List Str)
abbrev A3 : List Str := (["value"] : List Str)
theorem df3 : TBx.defs[3]? = some (A3.length, N3.length, cSs CT88 1 N3 100 (defScope (topK 26)) (defBody (topK 26))) := by kernel_rfl
theorem sc3 : FnScope N3 A3 (defScope (topK 26)) := ⟨rfl, rfl, rfl, by decide +kernel, rfl, by decide +kernel, by decide +kernel⟩
def dd3 : He.DefD := ⟨("value_text", none), "value_text", "value_text", defArgs (topK 26), defBody (topK 26), defScope (topK 26), [], []⟩
abbrev N4 : List Str := (["text", "found", "at", "end"] : List Str)
abbrev A4 : List Str := (["text"] : List Str)
theorem df4 : TBx.defs[4]? = some (A4.length, N4.length, cSs CT88 1 N4 100 (defScope (topK 27)) (defBody (topK 27))) := by kernel_rfl
theorem sc4 : FnScope N4 A4 (defScope (topK 27)) := ⟨rfl, rfl, rfl, by decide +kernel, rfl, by decide +kernel, by decide +kernel⟩
def dd4 : He.DefD := ⟨("pieces_of", none), "pieces_of", "pieces_of", defArgs (topK 27), defBody (topK 27), defScope (topK 27), [], []⟩
abbrev N5 : List Str := (["piece", "bare", ".0", "sign"] : List Str)
abbrev A5 : List Str := (["piece"] : List Str)
theorem df5 : TBx.defs[5]? = some (A5.length, N5.length, cSs CT88 1 N5 100 (defScope (topK 28)) (defBody (topK 28))) := by kernel_rfl
theorem sc5 : FnScope N5 A5 (defScope (topK 28)) := ⟨rfl, rfl, rfl, by decide +kernel, rfl, by decide +kernel, by decide +kernel⟩
def dd5 : He.DefD := ⟨("plain_of", none), "plain_of", "plain_of", defArgs (topK 28), defBody (topK 28), defScope (topK 28), [], []⟩
abbrev N6 : List Str := (["pieces", "open_ones", "done", "piece", "one"] : List Str)
abbrev A6 : List Str := (["pieces"] : List Str)
theorem df6 : TBx.defs[6]? = some (A6.length, N6.length, cSs CT88 1 N6 100 (defScope (topK 29)) (defBody (topK 29))) := by kernel_rfl
theorem sc6 : FnScope N6 A6 (defScope (topK 29)) := ⟨rfl, rfl, rfl, by decide +kernel, rfl, by decide +kernel, by decide +kernel⟩
def dd6 : He.DefD := ⟨("value_of", none), "value_of", "value_of", defArgs (topK 29), defBody (topK 29), defScope (topK 29), [], []⟩
abbrev N7 : List Str := (["text", "found"] : List Str)
abbrev A7 : List Str := (["text"] : List Str)
theorem df7 : TBx.defs[7]? = some (A7.length, N7.length, cSs CT88 1 N7 100 (defScope (topK 30)) (defBody (topK 30))) := by kernel_rfl
theorem sc7 : FnScope N7 A7 (defScope (topK 30)) := ⟨rfl, rfl, rfl, by decide +kernel, rfl, by decide +kernel, by decide +kernel⟩
def dd7 : He.DefD := ⟨("read_value", none), "read_value", "read_value", defArgs (topK 30), defBody (topK 30), defScope (topK 30), [], []⟩
abbrev N8 : List Str := (["script", "great", ".0", "cell"] : List Str)
abbrev A8 : List Str := (["script"] : List Str)
theorem df8 : TBx.defs[8]? = some (A8.length, N8.length, cSs CT88 1 N8 100 (defScope (topK 32)) (defBody (topK 32))) := by kernel_rfl
theorem sc8 : FnScope N8 A8 (defScope (topK 32)) := ⟨rfl, rfl, rfl, by decide +kernel, rfl, by decide +kernel, by decide +kernel⟩
def dd8 : He.DefD := ⟨("_law_begun", none), "_law_begun", "_law_begun", defArgs (topK 32), defBody (topK 32), defScope (topK 32), [], []⟩
abbrev N9 : List Str := (["state", "turn", "found", "prime", "blend", "cell"] : List Str)
abbrev A9 : List Str := (["state"] : List Str)
theorem df9 : TBx.defs[9]? = some (A9.length, N9.length, cSs CT88 1 N9 100 (defScope (topK 33)) (defBody (topK 33))) := by kernel_rfl
theorem sc9 : FnScope N9 A9 (defScope (topK 33)) := ⟨rfl, rfl, rfl, by decide +kernel, rfl, by decide +kernel, by decide +kernel⟩
def dd9 : He.DefD := ⟨("_law_mixed", none), "_law_mixed", "_law_mixed", defArgs (topK 33), defBody (topK 33), defScope (topK 33), [], []⟩
abbrev N10 : List Str := (["state", "room", "found"] : List Str)
abbrev A10 : List Str := (["state", "room"] : List Str)
theorem df10 : TBx.defs[10]? = some (A10.length, N10.length, cSs CT88 1 N10 100 (defScope (topK 34)) (defBody (topK 34))) := by kernel_rfl
theorem sc10 : FnScope N10 A10 (defScope (topK 34)) := ⟨rfl, rfl, rfl, by decide +kernel, rfl, by decide +kernel, by decide +kernel⟩
def dd10 : He.DefD := ⟨("_law_draw", none), "_law_draw", "_law_draw", defArgs (topK 34), defBody (topK 34), defScope (topK 34), [], []⟩
abbrev N11 : List Str := (["state", "some"] : List Str)
abbrev A11 : List Str := (["state", "some"] : List Str)
theorem df11 : TBx.defs[11]? = some (A11.length, N11.length, cSs CT88 1 N11 100 (defScope (topK 35)) (defBody (topK 35))) := by kernel_rfl
theorem sc11 : FnScope N11 A11 (defScope (topK 35)) := ⟨rfl, rfl, rfl, by decide +kernel, rfl, by decide +kernel, by decide +kernel⟩
def dd11 : He.DefD := ⟨("_law_pick", none), "_law_pick", "_law_pick", defArgs (topK 35), defBody (topK 35), defScope (topK 35), [], []⟩
abbrev N12 : List Str := (["value", ".0", "one"] : List Str)
abbrev A12 : List Str := (["value"] : List Str)
theorem df12 : TBx.defs[12]? = some (A12.length, N12.length, cSs CT88 1 N12 100 (defScope (topK 36)) (defBody (topK 36))) := by kernel_rfl
theorem sc12 : FnScope N12 A12 (defScope (topK 36)) := ⟨rfl, rfl, rfl, by decide +kernel, rfl, by decide +kernel, by decide +kernel⟩
def dd12 : He.DefD := ⟨("_law_plain", none), "_law_plain", "_law_plain", defArgs (topK 36), defBody (topK 36), defScope (topK 36), [], []⟩
abbrev N13 : List Str := (["found", "due"] : List Str)
abbrev A13 : List Str := (["found", "due"] : List Str)
theorem df13 : TBx.defs[13]? = some (A13.length, N13.length, cSs CT88 1 N13 100 (defScope (topK 37)) (defBody (topK 37))) := by kernel_rfl
theorem sc13 : FnScope N13 A13 (defScope (topK 37)) := ⟨rfl, rfl, rfl, by decide +kernel, rfl, by decide +kernel, by decide +kernel⟩
def dd13 : He.DefD := ⟨("_law_is", none), "_law_is", "_law_is", defArgs (topK 37), defBody (topK 37), defScope (topK 37), [], []⟩
abbrev N14 : List Str := (["value", ".0", "one"] : List Str)
abbrev A14 : List Str := (["value"] : List Str)
theorem df14 : TBx.defs[14]? = some (A14.length, N14.length, cSs CT88 1 N14 100 (defScope (topK 38)) (defBody (topK 38))) := by kernel_rfl
theorem sc14 : FnScope N14 A14 (defScope (topK 38)) := ⟨rfl, rfl, rfl, by decide +kernel, rfl, by decide +kernel, by decide +kernel⟩
def dd14 : He.DefD := ⟨("_law_value_text", none), "_law_value_text", "_law_value_text", defArgs (topK 38), defBody (topK 38), defScope (topK 38), [], []⟩
abbrev N15 : List Str := (["action", "found", "error"] : List Str)
abbrev A15 : List Str := (["action"] : List Str)
theorem df15 : TBx.defs[15]? = some (A15.length, N15.length, cSs CT88 1 N15 100 (defScope (topK 39)) (defBody (topK 39))) := by kernel_rfl
theorem sc15 : FnScope N15 A15 (defScope (topK 39)) := ⟨rfl, rfl, rfl, by decide +kernel, rfl, by decide +kernel, by decide +kernel⟩
def dd15 : He.DefD := ⟨("_law_caught", none), "_law_caught", "_law_caught", defArgs (topK 39), defBody (topK 39), defScope (topK 39), [], []⟩
abbrev N16 : List Str := (["action", "error", "word", "is_one", "told"] : List Str)
abbrev A16 : List Str := (["action"] : List Str)
theorem df16 : TBx.defs[16]? = some (A16.length, N16.length, cSs CT88 2 N16 100 (defScope (topK 40)) (defBody (topK 40))) := by kernel_rfl
theorem sc16 : FnScope N16 A16 (defScope (topK 40)) := ⟨rfl, rfl, rfl, by decide +kernel, rfl, by decide +kernel, by decide +kernel⟩
def dd16 : He.DefD := ⟨("_law_word", none), "_law_word", "_law_word", defArgs (topK 40), defBody (topK 40), defScope (topK 40), [], []⟩
abbrev N17 : List Str := (["state", "deep", "way", ".0", "lap"] : List Str)
abbrev A17 : List Str := (["state", "deep"] : List Str)
theorem df17 : TBx.defs[17]? = some (A17.length, N17.length, cSs CT88 1 N17 100 (defScope (topK 41)) (defBody (topK 41))) := by kernel_rfl
theorem sc17 : FnScope N17 A17 (defScope (topK 41)) := ⟨rfl, rfl, rfl, by decide +kernel, rfl, by decide +kernel, by decide +kernel⟩
def dd17 : He.DefD := ⟨("_law_some_value", none), "_law_some_value", "_law_some_value", defArgs (topK 41), defBody (topK 41), defScope (topK 41), [], []⟩
abbrev N18 : List Str := (["many", "one", "lap"] : List Str)
abbrev A18 : List Str := (["many", "one"] : List Str)
theorem df18 : TBx.defs[18]? = some (A18.length, N18.length, cSs CT88 1 N18 100 (defScope (topK 42)) (defBody (topK 42))) := by kernel_rfl
theorem sc18 : FnScope N18 A18 (defScope (topK 42)) := ⟨rfl, rfl, rfl, by decide +kernel, rfl, by decide +kernel, by decide +kernel⟩
def dd18 : He.DefD := ⟨("_law_nested", none), "_law_nested", "_law_nested", defArgs (topK 42), defBody (topK 42), defScope (topK 42), [], []⟩
abbrev N19 : List Str := (["script", "state", "deepest", "turn", "one", "other", "text", "at", "told", "bent", "thing"] : List Str)
abbrev A19 : List Str := (["script"] : List Str)
theorem df19 : TBx.defs[19]? = some (A19.length, N19.length, cSs CT88 2 N19 100 (defScope (topK 43)) (defBody (topK 43))) := by kernel_rfl
theorem sc19 : FnScope N19 A19 (defScope (topK 43)) := ⟨rfl, rfl, rfl, by decide +kernel, rfl, by decide +kernel, by decide +kernel⟩
def dd19 : He.DefD := ⟨("law", none), "law", "law", defArgs (topK 43), defBody (topK 43), defScope (topK 43), [], []⟩
def fn88 : List He.DefD := [dd0, dd1, dd2, dd3, dd4, dd5, dd6, dd7, dd8, dd9, dd10, dd11, dd12, dd13, dd14, dd15, dd16, dd17, dd18, dd19]
end QV
set_option maxRecDepth 100000
set_option maxHeartbeats 2000000
/-! E1: what is looked at behind the top, as truths. -/
namespace QV
open PySem PySem.Spec PyProof.Rows L2
def eqB (a b : Option (Option Value)) : Bool := decide (a = b)
theorem eqB_ok {a b : Option (Option Value)} (h : eqB a b = true) : a = b := of_decide_eq_true h
theorem and2 {a b : Bool} (h : (a && b) = true) : a = true ∧ b = true := Bool.and_eq_true_iff.mp h
def excCB (K : PySem.W.Frag) (D : Addr) : Bool :=
  eqB (PySem.W.findIn K (.ref D) "__getattribute__") (some (some (.builtin "BaseException.__getattribute__"))) && (eqB (PySem.W.findIn K (.ref D) "__getattr__") (some none) &&
  (decide (PySem.W.subIn K (.ref D) (.type "BaseException") = some true) && (PySem.W.hasDictIn K D && (eqB (PySem.W.findIn K (.ref D) "__class__") (some (some (.builtin "object.__class__"))) &&
  (eqB (PySem.W.specialIn K (.builtin "object.__class__") "__get__") (some (some (.builtin "getset_descriptor.__get__"))) && (decide (PySem.W.takesIn K (.builtin "object.__class__") = some true) &&
  decide (PySem.W.mroIn K D (.type "object") = some true)))))))
theorem excCB_ok {K : PySem.W.Frag} {D : Addr} (h : excCB K D = true) : ExcC K D := by
  obtain ⟨h1, h⟩ := and2 h
  obtain ⟨h2, h⟩ := and2 h
  obtain ⟨h3, h⟩ := and2 h
  obtain ⟨h4, h⟩ := and2 h
  obtain ⟨h5, h⟩ := and2 h
  obtain ⟨h6, h⟩ := and2 h
  obtain ⟨h7, h8⟩ := and2 h
  exact ⟨eqB_ok h1, eqB_ok h2, of_decide_eq_true h3, h4, eqB_ok h5, eqB_ok h6, of_decide_eq_true h7, of_decide_eq_true h8⟩
def oexB (K : PySem.W.Frag) (C : Addr) : Bool := (match K.lookup C with
  | some ⟨.type t, _, .cls cd, sl⟩ => (match cd.mro, sl.toList with
    | .ref C' :: bm, [_, _, _, _, some (.builtin n), _] => decide (t = "type") && (C' == C && (n == "ValueError.__new__" && (!cd.hasDel && (cd.hasDict && PySem.HandSPX.refsVE bm))))
    | _, _ => false)
  | _ => false) && (eqB (PySem.W.findIn K (.ref C) "__setattr__") (some (some (.builtin "object.__setattr__"))) && (decide (PySem.W.subIn K (.ref C) (.type "BaseException") = some true) &&
  (decide (PySem.W.typeIn K (.ref C) = some (.type "type")) && PySem.W.keepIn K (.ref C))))
theorem oexB_ok {K : PySem.W.Frag} {C : Addr} (h : oexB K C = true) : OexC K C := by
  obtain ⟨q, h⟩ := and2 h
  obtain ⟨h2, h⟩ := and2 h
  obtain ⟨h3, h⟩ := and2 h
  obtain ⟨h4, h5⟩ := and2 h
  refine ⟨?_, eqB_ok h2, of_decide_eq_true h3, of_decide_eq_true h4, h5⟩
  split at q
  · rename_i t dd cd sl ho
    split at q
    · rename_i C' bm k0 k1 k2 k3 n k5 hm hs
      obtain ⟨q1, q⟩ := and2 q
      obtain ⟨q2, q⟩ := and2 q
      obtain ⟨q3, q⟩ := and2 q
      obtain ⟨q4, q⟩ := and2 q
      obtain ⟨q5, q6⟩ := and2 q
      obtain ⟨nm, bs, mro, ns, qn, hd, sn, sub, ab, col, del⟩ := cd
      simp only [beq_iff_eq, Bool.not_eq_true', decide_eq_true_eq] at q1 q2 q3 q4 q5 hm
      subst q1 q2 q3 q4 q5 hm
      have hsl : sl = #[k0, k1, k2, k3, some (.builtin "ValueError.__new__"), k5] := by
        obtain ⟨l⟩ := sl
        simp only at hs
        rw [hs]
      subst hsl
      exact ⟨nm, qn, ns, bs, bm, sn, sub, ab, col, dd, k0, k1, k2, k3, k5, ho, q6⟩
    · cases q
  · cases q
/-- the text of such an __init__ -/
def bodyB (fl : Str) : List Stmt → Bool
  | [.Expr (.Call (.Attribute (.Call (.Name a p0) [] [] p1) b p2) [.Name c p3] [] p4) p5, .Assign [.Attribute (.Name d p6) f p7] (.Name e p8) p9] =>
    decide (a = "super") && (decide (b = "__init__") && (decide (c = "text") && (decide (d = "self") && (decide (f = fl) && (decide (e = "line") && p2.endLine == p4.line)))))
  | _ => false
theorem init_line {p0 p1 p2 p3 p4 : Pos} (hl : (p2.endLine == p4.line) = true) (env : Env) : ∃ pl : Sem Bool, eval (.Call (.Attribute (.Call (.Name "super" p0) [] [] p1) "__init__" p2) [.Name "text" p3] [] p4) env = (do
      let ov ← attributeBase (.Call (.Name "super" p0) [] [] p1) "__init__" env (eval (.Call (.Name "super" p0) [] [] p1) env)
      standAt p2.atName
      let (f, first) ← holding [ov] (getMethod ov "__init__" pl)
      callWith p4 f first (backTo p4 (starEach [.Name "text" p3] env)) []) := by
  refine ⟨L2.plainOf (.Call (.Name "super" p0) [] [] p1) env, ?_⟩
  have e : ∀ ov : Value, methodCall (.Call (.Name "super" p0) [] [] p1) "__init__" p2 p4 env ov (([Expr.Name "text" p3]).length + ([] : List Keyword).length) (backTo p4 (starEach [.Name "text" p3] env)) (backToKw p4 (keywordEach [] env)) = (do
      let (f, first) ← holding [ov] (getMethod ov "__init__" (L2.plainOf (.Call (.Name "super" p0) [] [] p1) env))
      callWith p4 f first (backTo p4 (starEach [.Name "text" p3] env)) []) := fun ov => mcall_line rfl hl
  show (do
    let ov ← attributeBase (.Call (.Name "super" p0) [] [] p1) "__init__" env (eval (.Call (.Name "super" p0) [] [] p1) env)
    standAt p2.atName
    methodCall (.Call (.Name "super" p0) [] [] p1) "__init__" p2 p4 env ov (([Expr.Name "text" p3]).length + ([] : List Keyword).length) (backTo p4 (starEach [.Name "text" p3] env)) (backToKw p4 (keywordEach [] env))) = _
  simp only [e]
def parB : Arguments → Bool
  | ⟨[], [a, b, c], none, [], [], none, [_]⟩ => decide (a.arg = "self") && (decide (b.arg = "text") && decide (c.arg = "line"))
  | _ => false
def scB (sc : Scope) : Bool := decide (sc.kind = .function) && (!sc.isCoroutine && (!sc.isGenerator && ((sc.names.all fun x => !decide (x.2 = .cell)) && (decide (sc.names.lookup ("super" : Str) = some .globalImplicit) && (decide (sc.names.lookup ("__class__" : Str) = some .free) &&
  (decide (sc.names.lookup ("self" : Str) = some .local) && (decide (sc.names.lookup ("text" : Str) = some .local) && decide (sc.names.lookup ("line" : Str) = some .local))))))))
def fileB (K : PySem.W.Frag) (cda : Addr) (P : Program) : Bool := match K.lookup cda with
  | some ⟨_, _, .fields vs, _⟩ => (match (vs[2]? : Option Value) with
    | some (.str file _) => (P.main.file : Str) == file
    | _ => false)
  | _ => false
def cellB (K : PySem.W.Frag) (cc C : Addr) : Bool := match K.lookup cc with
  | some ⟨_, _, .cell (some (.ref D)), _⟩ => D == C
  | _ => false
def dflt1 (K : PySem.W.Frag) : Value → Bool
  | .ref T => (match K.lookup T with
    | some ⟨_, _, .seq its _, _⟩ => (match its with
      | ⟨[_]⟩ => true
      | _ => false)
    | _ => false)
  | _ => false
theorem dflt1_ok {K : PySem.W.Frag} {v : Value} (h : dflt1 K v = true) : ∃ T oc od d n sl, v = .ref T ∧ K.lookup T = some ⟨oc, od, .seq #[d] n, sl⟩ := by
  unfold dflt1 at h
  split at h
  · split at h
    · rename_i lk
      split at h
      · exact ⟨_, _, _, _, _, _, rfl, lk⟩
      · cases h
    · cases h
  · cases h
def fnIB (K : PySem.W.Frag) (P : Program) (C fI : Addr) (fl : Str) : Bool := match K.lookup fI with
  | some ⟨_, _, .func ⟨name, qual, params, .stmts body, scope, globals, [(n, cc)], dV, kV, doc, pm, an, .ref cda, ct, bs⟩, _⟩ =>
    decide (globals = mainGlobals) && (decide (bs = builtinsNs) && (decide (n = "__class__") && (cellB K cc C && (PySem.W.codeIn K (.ref cda) qual && (bodyB fl body && (parB params && (dflt1 K dV && (fileB K cda P && scB scope))))))))
  | _ => false
def iniB (K : PySem.W.Frag) (P : Program) (C : Addr) (fl : Str) : Bool := oexB K C && (PySem.W.excInitIn K C HandSPX.veTail "ValueError.__new__" && (eqB (PySem.W.findIn K (.ref C) "__init__") (some (some (.ref (He.ma K C "__init__")))) &&
  (decide (PySem.W.typeIn K (.ref (He.ma K C "__init__")) = some (.type "function")) && (eqB (PySem.W.findIn K (.ref C) fl) (some none) && (decide (PySem.W.subIn K (.ref C) (.type "ValueError") = some true) &&
  (eqB (PySem.W.nsIn K cStatics "thirdparty.any") (some none) && (eqB (PySem.W.ks_superIn K C C "__init__") (some (some (.builtin "ValueError.__init__"))) && (decide (PySem.W.mroIn K C (.ref C) = some true) && fnIB K P C (He.ma K C "__init__") fl))))))))
theorem bodyB_ok {fl : Str} {body : List Stmt} (h : bodyB fl body = true) : ∃ p0 p1 p2 p3 p4 p5 p6 p7 p8 p9 : Pos, body = [.Expr (.Call (.Attribute (.Call (.Name "super" p0) [] [] p1) "__init__" p2) [.Name "text" p3] [] p4) p5, .Assign [.Attribute (.Name "self" p6) fl p7] (.Name "line" p8) p9] ∧ (p2.endLine == p4.line) = true := by
  unfold bodyB at h
  split at h
  · obtain ⟨b1, h⟩ := and2 h
    obtain ⟨b2, h⟩ := and2 h
    obtain ⟨b3, h⟩ := and2 h
    obtain ⟨b4, h⟩ := and2 h
    obtain ⟨b5, h⟩ := and2 h
    obtain ⟨b6, b7⟩ := and2 h
    rw [of_decide_eq_true b1, of_decide_eq_true b2, of_decide_eq_true b3, of_decide_eq_true b4, of_decide_eq_true b5, of_decide_eq_true b6]
    exact ⟨_, _, _, _, _, _, _, _, _, _, rfl, b7⟩
  · cases h
theorem parB_ok {p : Arguments} (h : parB p = true) : ∃ x2 x3 y2 y3 z2 z3 e, p = ⟨[], [⟨"self", x2, x3⟩, ⟨"text", y2, y3⟩, ⟨"line", z2, z3⟩], none, [], [], none, [e]⟩ := by
  unfold parB at h
  split at h
  · rename_i x y z e
    obtain ⟨x1, x2, x3⟩ := x
    obtain ⟨y1, y2, y3⟩ := y
    obtain ⟨z1, z2, z3⟩ := z
    obtain ⟨c1, h⟩ := and2 h
    obtain ⟨c2, c3⟩ := and2 h
    have e1 := of_decide_eq_true c1
    have e2 := of_decide_eq_true c2
    have e3 := of_decide_eq_true c3
    dsimp only at e1 e2 e3
    rw [e1, e2, e3]
    exact ⟨_, _, _, _, _, _, _, rfl⟩
  · cases h
theorem fileB_ok {K : PySem.W.Frag} {cda : Addr} {P : Program} (h : fileB K cda P = true) : ∃ (ccl : Value) (cdd : Option Addr) (vs : Array Value) (ccs : Array (Option Value)) (file : Str) (tf : Tok), K.lookup cda = some ⟨ccl, cdd, .fields vs, ccs⟩ ∧ vs[2]? = some (.str file tf) ∧ ((P.main.file : Str) == file) = true := by
  unfold fileB at h
  split at h
  · rename_i lk
    split at h
    · rename_i hv
      exact ⟨_, _, _, _, _, _, lk, hv, h⟩
    · cases h
  · cases h
theorem cellB_ok {K : PySem.W.Frag} {cc C : Addr} (h : cellB K cc C = true) : ∃ (cl : Value) (cld : Option Addr) (csl : Array (Option Value)), K.lookup cc = some ⟨cl, cld, .cell (some (.ref C)), csl⟩ := by
  unfold cellB at h
  split at h
  · rename_i lk
    rw [beq_iff_eq.mp h] at lk
    exact ⟨_, _, _, lk⟩
  · cases h
theorem fnIB_ok {K : PySem.W.Frag} {P : Program} {C fI : Addr} {fl : Str} (h : fnIB K P C fI fl = true) : ∃ (oc : Value) (od an : Option Addr) (osl : Array (Option Value)) (name qual : Str) (params : Arguments) (body : List Stmt) (scope : Scope) (dV kV doc pm ct : Value) (cda cc : Addr),
    K.lookup fI = some ⟨oc, od, .func (PySem.W.ksFn name qual params body scope dV kV doc pm an (.ref cda) ct cc), osl⟩ ∧ cellB K cc C = true ∧ PySem.W.codeIn K (.ref cda) qual = true ∧ bodyB fl body = true ∧ parB params = true ∧ dflt1 K dV = true ∧ fileB K cda P = true ∧ scB scope = true := by
  unfold fnIB at h
  split at h
  · rename_i lk
    obtain ⟨g1, h⟩ := and2 h
    obtain ⟨g2, h⟩ := and2 h
    obtain ⟨g3, h⟩ := and2 h
    obtain ⟨g4, h⟩ := and2 h
    obtain ⟨g5, h⟩ := and2 h
    obtain ⟨g6, h⟩ := and2 h
    obtain ⟨g7, h⟩ := and2 h
    obtain ⟨gd, h⟩ := and2 h
    obtain ⟨g8, g9⟩ := and2 h
    rw [of_decide_eq_true g1, of_decide_eq_true g2, of_decide_eq_true g3] at lk
    exact ⟨_, _, _, _, _, _, _, _, _, _, _, _, _, _, _, _, lk, g4, g5, g6, g7, gd, g8, g9⟩
  · cases h
theorem iniB_ok {K : PySem.W.Frag} {P : Program} {mg : Str → Option Value} {C : Addr} {fl : Str} (hs : mg "super" = none) (ht : (P.main.scope.names.lookup ("super" : Str)).isSome = false) (h : iniB K P C fl = true) : ∃ fI fd, Ini P K mg C fI fl fd ∧ Binds K fd ["self", "text", "line"] [] := by
  obtain ⟨h0, h⟩ := and2 h
  obtain ⟨h1, h⟩ := and2 h
  obtain ⟨h2, h⟩ := and2 h
  obtain ⟨h3, h⟩ := and2 h
  obtain ⟨h4, h⟩ := and2 h
  obtain ⟨h5, h⟩ := and2 h
  obtain ⟨h6, h⟩ := and2 h
  obtain ⟨h7, h⟩ := and2 h
  obtain ⟨h8, h9⟩ := and2 h
  obtain ⟨oc, od, an, osl, name, qual, params, body, scope, dV, kV, doc, pm, ct, cda, cc, lk, g4, g5, g6, g7, gd, g8, g9⟩ := fnIB_ok h9
  obtain ⟨p0, p1, p2, p3, p4, p5, p6, p7, p8, p9, rfl, b7⟩ := bodyB_ok g6
  obtain ⟨x2, x3, y2, y3, z2, z3, e, rfl⟩ := parB_ok g7
  obtain ⟨T, oc2, od2, dv, n2, sl2, rfl, lT⟩ := dflt1_ok gd
  obtain ⟨s1, g9⟩ := and2 g9
  obtain ⟨s2, g9⟩ := and2 g9
  obtain ⟨s3, g9⟩ := and2 g9
  obtain ⟨s4, g9⟩ := and2 g9
  obtain ⟨s5, g9⟩ := and2 g9
  obtain ⟨s6, g9⟩ := and2 g9
  obtain ⟨s7, g9⟩ := and2 g9
  obtain ⟨s8, s9⟩ := and2 g9
  simp only [Bool.not_eq_true'] at s2 s3
  refine ⟨He.ma K C "__init__", _, ⟨oexB_ok h0, h1, eqB_ok h2, of_decide_eq_true h3, eqB_ok h4, of_decide_eq_true h5, eqB_ok h6, eqB_ok h7, of_decide_eq_true h8, hs,
    ⟨oc, od, an, osl, name, qual, _, _, scope, .ref T, kV, doc, pm, ct, cda, cc, p0, p1, p2, p3, p4, p5, p6, p7, p8, p9, lk, rfl, g5, rfl, init_line b7, ⟨_, rfl, rfl⟩, fileB_ok g8, cellB_ok g4, ht, of_decide_eq_true s1, s2, s3, fun x hx => ?_, of_decide_eq_true s5, of_decide_eq_true s6, of_decide_eq_true s7, of_decide_eq_true s8, of_decide_eq_true s9⟩⟩, ?_⟩
  · have := List.all_eq_true.mp s4 x hx
    simpa using this
  · intro s us X hl
    rw [List.append_nil] at hl ⊢
    match us, hl with
    | [u0, u1, u2], _ =>
      exact BindsTo.of_looks fun M => looks_items X lT rfl (.of_pure rfl)
end QV
set_option maxRecDepth 100000
set_option maxHeartbeats 4000000
/-! E2: the module's facts, and the law called by the claim's caller. -/
namespace QV
open PySem PySem.Spec PyProof.Rows L2
def NM0 : Nms := ⟨CT88.defs, CT88.excs, [], fun _ _ _ => True⟩
def fa88 : List He.Fa := CT88.defs.map He.Fa.glo ++ CT88.defs.map He.Fa.keep ++ CT88.excs.map He.Fa.glo ++ CT88.excs.map He.Fa.keep ++ [.int "MOST_DEEP" 60, .int "MOST_FIGURES" 12, .int "MOST_NUMBER" 1000000000000, .str "SMALL" "abcdefghijklmnopqrstuvwxyz", .str "FIGURES" "0123456789"] ++ CT88.blt.map He.Fa.free ++ [.free "super"]
def tf88 : List He.Defn := [("law", none), ("_law_word", none)]
def exB (K : PySem.W.Frag) : Bool :=
  (CT88.excs.all fun x => excCB K (He.ga K x)) && ((CT88.excs.all fun x => CT88.flds.all fun f => eqB (PySem.W.findIn K (.ref (He.ga K x)) f) (some none)) &&
  (((List.range 16).all fun k => (List.range 16).all fun j => decide (j = 0) || decide (PySem.W.kitOne K (.ref (clA K NM0 k)) (.ref (clA K NM0 j)) = some (decide (k = j)))) &&
  (((List.range 16).all fun e => (List.range 16).all fun j => !excIs TBx e j || decide (PySem.W.exmOne K (.ref (clA K NM0 e)) (.ref (clA K NM0 j)) = some true)) &&
  (iniB K prg (He.ga K "NoText") "line" && !decide ((He.cT K ("law", none)).2 = (He.cT K ("_law_word", none)).2)))))
def kOf (g : Addr → Option Obj) : PySem.W.Frag := He.frT g (cStatics :: He.asD g 5)
def obs88 (g : Addr → Option Obj) : He.AlD × Bool := (He.obsD fa88 fn88 (kOf g), exB (kOf g) && He.tabsB g tf88 (kOf g))
structure Says88 (h : Heap) (K : PySem.W.Frag) : Prop where
  d : He.SaysD fa88 fn88 K
  ex : exB K = true
  hd : ∀ p ∈ tf88, PySem.W.codeHdIn K (He.cT K p).1 (He.cT K p).2 = true
  out : ∀ p ∈ tf88, K.lookup (He.cT K p).2 = none
  none_ : ∀ p ∈ tf88, h.get? (He.cT K p).2 = some { cls := .none, data := .fields #[] }
theorem says88_of {h : Heap} (e : obs88 h.get? = (He.valD fn88, true)) : Says88 h (kOf h.get?) := by
  have e1 : He.obsD fa88 fn88 (kOf h.get?) = He.valD fn88 := congrArg (fun z : He.AlD × Bool => z.1) e
  have e2 : (exB (kOf h.get?) && He.tabsB h.get? tf88 (kOf h.get?)) = true := congrArg (fun z : He.AlD × Bool => z.2) e
  obtain ⟨h1, h2⟩ := and2 e2
  have key : ∀ p ∈ tf88, PySem.W.codeHdIn (kOf h.get?) (He.cT (kOf h.get?) p).1 (He.cT (kOf h.get?) p).2 = true ∧ ∃ o, h.get? (He.cT (kOf h.get?) p).2 = some o ∧ He.emptyTab o = true := fun p hp => by
    obtain ⟨h3, h4⟩ := and2 (List.all_eq_true.mp h2 p hp)
    refine ⟨h3, ?_⟩
    cases q : h.get? (He.cT (kOf h.get?) p).2 with
    | none => rw [q] at h4; cases h4
    | some o => rw [q] at h4; exact ⟨o, rfl, h4⟩
  refine ⟨e1, h1, fun p hp => (key p hp).1, fun p hp => ?_, fun p hp => ?_⟩
  · obtain ⟨_, o, q, z⟩ := key p hp
    exact He.frT_none q z
  · obtain ⟨_, o, q, z⟩ := key p hp
    rw [q, He.emptyTab_eq z]
def hook88 : PySem.W.Hook where
  α := He.AlD × Bool
  obs := fun s => obs88 s.heap.get?
  val := fun _ => (He.valD fn88, true)
  says := fun _ h => ∃ K : PySem.W.Frag, K.In h ∧ Says88 h K
  of := fun _ _ e => ⟨_, He.frT_in, says88_of e⟩
  keeps := fun _ _ _ ⟨K, hK, c⟩ k => ⟨K, hK.keeps k, ⟨c.d, c.ex, c.hd, c.out, fun p hp => k _ _ (c.none_ p hp)⟩⟩
section
variable {K : PySem.W.Frag} {h : Heap} {mg : Str → Option Value}
theorem f88 (c : Says88 h K) {f : He.Fa} (hf : f ∈ fa88) : f.ok K = true := c.d.facts hf
theorem m_def {x : Str} (hx : x ∈ CT88.defs) : He.Fa.glo x ∈ fa88 ∧ He.Fa.keep x ∈ fa88 := by
  simp only [fa88, List.mem_append, List.mem_map]
  exact ⟨.inl (.inl (.inl (.inl (.inl (.inl ⟨x, hx, rfl⟩))))), .inl (.inl (.inl (.inl (.inl (.inr ⟨x, hx, rfl⟩)))))⟩
theorem m_exc {x : Str} (hx : x ∈ CT88.excs) : He.Fa.glo x ∈ fa88 ∧ He.Fa.keep x ∈ fa88 := by
  simp only [fa88, List.mem_append, List.mem_map]
  exact ⟨.inl (.inl (.inl (.inl (.inr ⟨x, hx, rfl⟩)))), .inl (.inl (.inl (.inr ⟨x, hx, rfl⟩)))⟩
theorem m_con {f : He.Fa} (hf : f ∈ ([.int "MOST_DEEP" 60, .int "MOST_FIGURES" 12, .int "MOST_NUMBER" 1000000000000, .str "SMALL" "abcdefghijklmnopqrstuvwxyz", .str "FIGURES" "0123456789"] : List He.Fa)) : f ∈ fa88 := by
  simp only [fa88, List.mem_append]
  exact .inl (.inl (.inr hf))
theorem m_blt {x : Str} (hx : x ∈ CT88.blt) : He.Fa.free x ∈ fa88 := by
  simp only [fa88, List.mem_append, List.mem_map]
  exact .inl (.inr ⟨x, hx, rfl⟩)
theorem m_super : He.Fa.free "super" ∈ fa88 := by
  simp only [fa88, List.mem_append]
  exact .inr (List.mem_singleton.mpr rfl)
/-- the tables of the lambdas' makers -/
def tb88 (K : PySem.W.Frag) : List (Addr × Str) := [((He.cT K ("law", none)).2, (("law" : Str) ++ (".<locals>." : Str) : Str) ++ ("<lambda>" : Str)), ((He.cT K ("_law_word", none)).2, (("_law_word" : Str) ++ (".<locals>." : Str) : Str) ++ ("<lambda>" : Str))]
def nm88 (K : PySem.W.Frag) : Nms := ⟨CT88.defs, CT88.excs, tb88 K, fun P K mg => Rx NM0 TBx P K mg⟩
theorem ex_parts (c : Says88 h K) : (CT88.excs.all fun x => excCB K (He.ga K x)) = true ∧ (CT88.excs.all fun x => CT88.flds.all fun f => eqB (PySem.W.findIn K (.ref (He.ga K x)) f) (some none)) = true ∧
    ((List.range 16).all fun k => (List.range 16).all fun j => decide (j = 0) || decide (PySem.W.kitOne K (.ref (clA K NM0 k)) (.ref (clA K NM0 j)) = some (decide (k = j)))) = true ∧
    ((List.range 16).all fun e => (List.range 16).all fun j => !excIs TBx e j || decide (PySem.W.exmOne K (.ref (clA K NM0 e)) (.ref (clA K NM0 j)) = some true)) = true ∧
    iniB K prg (He.ga K "NoText") "line" = true ∧ (He.cT K ("law", none)).2 ≠ (He.cT K ("_law_word", none)).2 := by
  obtain ⟨h1, z⟩ := and2 c.ex
  obtain ⟨h2, z⟩ := and2 z
  obtain ⟨h3, z⟩ := and2 z
  obtain ⟨h4, z⟩ := and2 z
  obtain ⟨h5, h6⟩ := and2 z
  exact ⟨h1, h2, h3, h4, h5, by simpa using h6⟩
theorem getD_mem {l : List Str} {k : Nat} (h : k < l.length) : l.getD k Str.empty ∈ l := by
  rw [List.getD_eq_getElem?_getD, List.getElem?_eq_getElem h]
  exact List.getElem_mem h
theorem getD_of {l : List Str} {k : Nat} {x : Str} (h : l[k]? = some x) : l.getD k Str.empty = x := by
  rw [List.getD_eq_getElem?_getD, h]
  rfl
theorem fx88 (X : K.In h) (G : h.Ns mainGlobals mg) (c : Says88 h K) : Fx (nm88 K) CT88 K mg := by
  obtain ⟨p1, p2, p3, p4, p5, p6⟩ := ex_parts c
  have l16 : CT88.excs.length = 16 := by decide
  refine ⟨fun x i e => ?_, fun x z e => ?_, fun x hx => He.free_ok X G (f88 c (m_blt hx)), fun x k e => ?_, fun x k e => ?_, rfl, fun k hk => ?_, fun k f hk hf => ?_, fun k j hk hj nj => ?_⟩
  · have hm := PySem.mem_of_lookup e
    simp only [CT88, List.mem_cons, List.not_mem_nil, or_false, Prod.mk.injEq] at hm
    rcases hm with ⟨rfl, rfl⟩ | ⟨rfl, rfl⟩ | ⟨rfl, rfl⟩
    · exact He.int_ok X G (f88 c (m_con (by simp)))
    · exact He.int_ok X G (f88 c (m_con (by simp)))
    · exact He.int_ok X G (f88 c (m_con (by simp)))
  · have hm := PySem.mem_of_lookup e
    simp only [CT88, List.mem_cons, List.not_mem_nil, or_false, Prod.mk.injEq] at hm
    rcases hm with ⟨rfl, rfl⟩ | ⟨rfl, rfl⟩
    · exact He.str_ok X G (f88 c (m_con (by simp)))
    · exact He.str_ok X G (f88 c (m_con (by simp)))
  · have e1 := ix_get e
    have hx : x ∈ CT88.defs := List.mem_of_getElem? e1
    have e2 : fnA K (nm88 K) k = He.ga K x := congrArg (He.ga K) (getD_of e1)
    rw [e2]
    exact ⟨He.glo_ok X G (f88 c (m_def hx).1), He.keep_ok (f88 c (m_def hx).2)⟩
  · have e1 := ix_get e
    have hx : x ∈ CT88.excs := List.mem_of_getElem? e1
    have e2 : clA K (nm88 K) k = He.ga K x := congrArg (He.ga K) (getD_of e1)
    rw [e2]
    exact He.glo_ok X G (f88 c (m_exc hx).1)
  · have hk : k < CT88.excs.length := hk
    exact excCB_ok (List.all_eq_true.mp p1 _ (getD_mem hk))
  · have hk : k < CT88.excs.length := hk
    exact eqB_ok (List.all_eq_true.mp (List.all_eq_true.mp p2 _ (getD_mem hk)) f hf)
  · have hk : k < CT88.excs.length := hk
    have hj : j < CT88.excs.length := hj
    have nj : j ≠ 0 := nj
    have := List.all_eq_true.mp (List.all_eq_true.mp p3 k (List.mem_range.mpr (by omega))) j (List.mem_range.mpr (by omega))
    rw [decide_eq_false nj, Bool.false_or] at this
    exact of_decide_eq_true this
theorem rx88 (X : K.In h) (G : h.Ns mainGlobals mg) (c : Says88 h K) : Rx NM0 TBx prg K mg := by
  obtain ⟨p1, p2, p3, p4, p5, p6⟩ := ex_parts c
  have l16 : CT88.excs.length = 16 := by decide
  refine ⟨fun e j he hj hx => ?_, fun j hj => ?_, fun j f hj hf => ?_⟩
  · have he : e < CT88.excs.length := he
    have hj : j < CT88.excs.length := hj
    have := List.all_eq_true.mp (List.all_eq_true.mp p4 e (List.mem_range.mpr (by omega))) j (List.mem_range.mpr (by omega))
    rw [hx, Bool.not_true, Bool.false_or] at this
    exact of_decide_eq_true this
  · have hj : j < CT88.excs.length := hj
    exact He.keep_ok (f88 c (m_exc (getD_mem hj)).2)
  · have hj : j < CT88.excs.length := hj
    have hj : j < 16 := by omega
    have e13 : j = 13 ∧ f = ⟨#[108, 105, 110, 101]⟩ := by
      match j, hj, hf with
      | 13, _, hf =>
        have hf : some (some (⟨#[108, 105, 110, 101]⟩ : Str)) = some (some f) := hf
        cases hf
        exact ⟨rfl, rfl⟩
      | 0, _, hf => cases (show some (none : Option Str) = some (some f) from hf)
      | 1, _, hf => cases (show some (none : Option Str) = some (some f) from hf)
      | 2, _, hf => cases (show some (none : Option Str) = some (some f) from hf)
      | 3, _, hf => cases (show some (none : Option Str) = some (some f) from hf)
      | 4, _, hf => cases (show some (none : Option Str) = some (some f) from hf)
      | 5, _, hf => cases (show some (none : Option Str) = some (some f) from hf)
      | 6, _, hf => cases (show some (none : Option Str) = some (some f) from hf)
      | 7, _, hf => cases (show some (none : Option Str) = some (some f) from hf)
      | 8, _, hf => cases (show some (none : Option Str) = some (some f) from hf)
      | 9, _, hf => cases (show some (none : Option Str) = some (some f) from hf)
      | 10, _, hf => cases (show some (none : Option Str) = some (some f) from hf)
      | 11, _, hf => cases (show some (none : Option Str) = some (some f) from hf)
      | 12, _, hf => cases (show some (none : Option Str) = some (some f) from hf)
      | 14, _, hf => cases (show some (none : Option Str) = some (some f) from hf)
      | 15, _, hf => cases (show some (none : Option Str) = some (some f) from hf)
    obtain ⟨rfl, rfl⟩ := e13
    exact iniB_ok (He.free_ok X G (f88 c m_super)) (by kernel_rfl) p5
theorem dfn_mk {NM : Nms} {base : Heap} {j q : Nat} {x : Str} {params : Arguments} {body : List Stmt} {scope : Scope} {N ps : List Str} {at_ : Str × Option Str} {fd : FuncData} (F : FunD K x x params body scope [] [] (He.fAd K at_) fd) (ha : He.fAd K at_ = fnA K NM j) (S : FnScope N ps scope) (hq : q ≠ 0) (hp : CT88.pars[j]? = some ps)
    (b1 : ∀ (kV doc pm : Value) (an : Option Addr) (cdv ct : Value) (us : List Value), us.length = ps.length → bindArgs (PySem.W.fnOf x x params body scope .none kV doc pm an cdv ct) ⟨us, []⟩ = pure (ps.zip us))
    (b2 : ∀ (kV doc pm : Value) (an : Option Addr) (cdv ct : Value) (p : Str) (u : Value), ps = [p] → bindArgs (PySem.W.fnOf x x params body scope .none kV doc pm an cdv ct) ⟨[], [(p, u)]⟩ = pure [(p, u)])
    (hl : q = 2 → LamX.TabB base mg (He.cT K at_).1 (He.cT K at_).2 ∧ ((He.cT K at_).2, (x ++ ".<locals>." : Str) ++ "<lambda>") ∈ NM.tabs ∧ ∀ p ∈ NM.tabs, p.1 = (He.cT K at_).2 → p.2 = (x ++ ".<locals>." : Str) ++ "<lambda>") :
    DFn NM CT88 K mg base j (ps.length, N.length, cSs CT88 q N 100 scope body) := by
  obtain ⟨oc, od, dV, kV, doc, pm, an, cdv, ct, osl, rfl, lk, hcd, hD, _⟩ := F.ex
  rcases hD with ⟨_, rfl⟩ | ⟨e, _⟩
  · refine ⟨oc, od, an, osl, x, x, params, body, scope, .none, kV, doc, pm, cdv, ct, N, ps, q, 100, by rw [← ha]; exact lk, hcd, S, hq, rfl, hp, fun us hu => b1 _ _ _ _ _ _ us hu, fun p u hu => b2 _ _ _ _ _ _ p u hu, fun z => ?_⟩
    obtain ⟨h1, h2, h3⟩ := hl z
    obtain ⟨cc, rfl⟩ := He.codeIn_ref hcd
    have e : (He.cT K at_).1 = cc := He.codeOf_eq lk rfl
    rw [e] at h1
    exact ⟨cc, (He.cT K at_).2, rfl, h1, h2, h3⟩
  · exact absurd rfl e
theorem dfns88 (c : Says88 h K) {base : Heap} (TBs : ∀ p ∈ tf88.map (He.cT K), LamX.TabB base mg p.1 p.2) : ∀ j df, TBx.defs[j]? = some df → DFn (nm88 K) CT88 K mg base j df := by
  obtain ⟨p1, p2, p3, p4, p5, p6⟩ := ex_parts c
  intro j df hj
  match j, hj with
  | 0, hj =>
    have e := Option.some.inj (df0.symm.trans hj)
    subst e
    obtain ⟨fd, F⟩ := c.d.def_ 0 (d := dd0) rfl
    exact dfn_mk F rfl sc0 (by decide) rfl (fun _ _ _ _ _ _ us hl => match us, hl with | [_], _ => rfl) (fun _ _ _ _ _ _ p u hu => by cases hu; rfl) (fun z => by cases z)
  | 1, hj =>
    have e := Option.some.inj (df1.symm.trans hj)
    subst e
    obtain ⟨fd, F⟩ := c.d.def_ 1 (d := dd1) rfl
    exact dfn_mk F rfl sc1 (by decide) rfl (fun _ _ _ _ _ _ us hl => match us, hl with | [_], _ => rfl) (fun _ _ _ _ _ _ p u hu => by cases hu; rfl) (fun z => by cases z)
  | 2, hj =>
    have e := Option.some.inj (df2.symm.trans hj)
    subst e
    obtain ⟨fd, F⟩ := c.d.def_ 2 (d := dd2) rfl
    exact dfn_mk F rfl sc2 (by decide) rfl (fun _ _ _ _ _ _ us hl => match us, hl with | [_], _ => rfl) (fun _ _ _ _ _ _ p u hu => by cases hu; rfl) (fun z => by cases z)
  | 3, hj =>
    have e := Option.some.inj (df3.symm.trans hj)
    subst e
    obtain ⟨fd, F⟩ := c.d.def_ 3 (d := dd3) rfl
    exact dfn_mk F rfl sc3 (by decide) rfl (fun _ _ _ _ _ _ us hl => match us, hl with | [_], _ => rfl) (fun _ _ _ _ _ _ p u hu => by cases hu; rfl) (fun z => by cases z)
  | 4, hj =>
    have e := Option.some.inj (df4.symm.trans hj)
    subst e
    obtain ⟨fd, F⟩ := c.d.def_ 4 (d := dd4) rfl
    exact dfn_mk F rfl sc4 (by decide) rfl (fun _ _ _ _ _ _ us hl => match us, hl with | [_], _ => rfl) (fun _ _ _ _ _ _ p u hu => by cases hu; rfl) (fun z => by cases z)
  | 5, hj =>
    have e := Option.some.inj (df5.symm.trans hj)
    subst e
    obtain ⟨fd, F⟩ := c.d.def_ 5 (d := dd5) rfl
    exact dfn_mk F rfl sc5 (by decide) rfl (fun _ _ _ _ _ _ us hl => match us, hl with | [_], _ => rfl) (fun _ _ _ _ _ _ p u hu => by cases hu; rfl) (fun z => by cases z)
  | 6, hj =>
    have e := Option.some.inj (df6.symm.trans hj)
    subst e
    obtain ⟨fd, F⟩ := c.d.def_ 6 (d := dd6) rfl
    exact dfn_mk F rfl sc6 (by decide) rfl (fun _ _ _ _ _ _ us hl => match us, hl with | [_], _ => rfl) (fun _ _ _ _ _ _ p u hu => by cases hu; rfl) (fun z => by cases z)
  | 7, hj =>
    have e := Option.some.inj (df7.symm.trans hj)
    subst e
    obtain ⟨fd, F⟩ := c.d.def_ 7 (d := dd7) rfl
    exact dfn_mk F rfl sc7 (by decide) rfl (fun _ _ _ _ _ _ us hl => match us, hl with | [_], _ => rfl) (fun _ _ _ _ _ _ p u hu => by cases hu; rfl) (fun z => by cases z)
  | 8, hj =>
    have e := Option.some.inj (df8.symm.trans hj)
    subst e
    obtain ⟨fd, F⟩ := c.d.def_ 8 (d := dd8) rfl
    exact dfn_mk F rfl sc8 (by decide) rfl (fun _ _ _ _ _ _ us hl => match us, hl with | [_], _ => rfl) (fun _ _ _ _ _ _ p u hu => by cases hu; rfl) (fun z => by cases z)
  | 9, hj =>
    have e := Option.some.inj (df9.symm.trans hj)
    subst e
    obtain ⟨fd, F⟩ := c.d.def_ 9 (d := dd9) rfl
    exact dfn_mk F rfl sc9 (by decide) rfl (fun _ _ _ _ _ _ us hl => match us, hl with | [_], _ => rfl) (fun _ _ _ _ _ _ p u hu => by cases hu; rfl) (fun z => by cases z)
  | 10, hj =>
    have e := Option.some.inj (df10.symm.trans hj)
    subst e
    obtain ⟨fd, F⟩ := c.d.def_ 10 (d := dd10) rfl
    exact dfn_mk F rfl sc10 (by decide) rfl (fun _ _ _ _ _ _ us hl => match us, hl with | [_, _], _ => rfl) (fun _ _ _ _ _ _ p u hu => by cases hu) (fun z => by cases z)
  | 11, hj =>
    have e := Option.some.inj (df11.symm.trans hj)
    subst e
    obtain ⟨fd, F⟩ := c.d.def_ 11 (d := dd11) rfl
    exact dfn_mk F rfl sc11 (by decide) rfl (fun _ _ _ _ _ _ us hl => match us, hl with | [_, _], _ => rfl) (fun _ _ _ _ _ _ p u hu => by cases hu) (fun z => by cases z)
  | 12, hj =>
    have e := Option.some.inj (df12.symm.trans hj)
    subst e
    obtain ⟨fd, F⟩ := c.d.def_ 12 (d := dd12) rfl
    exact dfn_mk F rfl sc12 (by decide) rfl (fun _ _ _ _ _ _ us hl => match us, hl with | [_], _ => rfl) (fun _ _ _ _ _ _ p u hu => by cases hu; rfl) (fun z => by cases z)
  | 13, hj =>
    have e := Option.some.inj (df13.symm.trans hj)
    subst e
    obtain ⟨fd, F⟩ := c.d.def_ 13 (d := dd13) rfl
    exact dfn_mk F rfl sc13 (by decide) rfl (fun _ _ _ _ _ _ us hl => match us, hl with | [_, _], _ => rfl) (fun _ _ _ _ _ _ p u hu => by cases hu) (fun z => by cases z)
  | 14, hj =>
    have e := Option.some.inj (df14.symm.trans hj)
    subst e
    obtain ⟨fd, F⟩ := c.d.def_ 14 (d := dd14) rfl
    exact dfn_mk F rfl sc14 (by decide) rfl (fun _ _ _ _ _ _ us hl => match us, hl with | [_], _ => rfl) (fun _ _ _ _ _ _ p u hu => by cases hu; rfl) (fun z => by cases z)
  | 15, hj =>
    have e := Option.some.inj (df15.symm.trans hj)
    subst e
    obtain ⟨fd, F⟩ := c.d.def_ 15 (d := dd15) rfl
    exact dfn_mk F rfl sc15 (by decide) rfl (fun _ _ _ _ _ _ us hl => match us, hl with | [_], _ => rfl) (fun _ _ _ _ _ _ p u hu => by cases hu; rfl) (fun z => by cases z)
  | 16, hj =>
    have e := Option.some.inj (df16.symm.trans hj)
    subst e
    obtain ⟨fd, F⟩ := c.d.def_ 16 (d := dd16) rfl
    exact dfn_mk F rfl sc16 (by decide) rfl (fun _ _ _ _ _ _ us hl => match us, hl with | [_], _ => rfl) (fun _ _ _ _ _ _ p u hu => by cases hu; rfl) (fun _ => ⟨TBs _ (List.mem_cons_of_mem _ (List.mem_cons_self ..)), List.mem_cons_of_mem _ (List.mem_cons_self ..), fun p hp e => by
      rcases List.mem_cons.mp hp with rfl | hp
      · exact absurd e p6
      · rcases List.mem_cons.mp hp with rfl | hp
        · rfl
        · cases hp⟩)
  | 17, hj =>
    have e := Option.some.inj (df17.symm.trans hj)
    subst e
    obtain ⟨fd, F⟩ := c.d.def_ 17 (d := dd17) rfl
    exact dfn_mk F rfl sc17 (by decide) rfl (fun _ _ _ _ _ _ us hl => match us, hl with | [_, _], _ => rfl) (fun _ _ _ _ _ _ p u hu => by cases hu) (fun z => by cases z)
  | 18, hj =>
    have e := Option.some.inj (df18.symm.trans hj)
    subst e
    obtain ⟨fd, F⟩ := c.d.def_ 18 (d := dd18) rfl
    exact dfn_mk F rfl sc18 (by decide) rfl (fun _ _ _ _ _ _ us hl => match us, hl with | [_, _], _ => rfl) (fun _ _ _ _ _ _ p u hu => by cases hu) (fun z => by cases z)
  | 19, hj =>
    have e := Option.some.inj (df19.symm.trans hj)
    subst e
    obtain ⟨fd, F⟩ := c.d.def_ 19 (d := dd19) rfl
    exact dfn_mk F rfl sc19 (by decide) rfl (fun _ _ _ _ _ _ us hl => match us, hl with | [_], _ => rfl) (fun _ _ _ _ _ _ p u hu => by cases hu; rfl) (fun _ => ⟨TBs _ (List.mem_cons_self ..), List.mem_cons_self .., fun p hp e => by
      rcases List.mem_cons.mp hp with rfl | hp
      · rfl
      · rcases List.mem_cons.mp hp with rfl | hp
        · exact absurd e.symm p6
        · cases hp⟩)
  | n + 20, hj => exact absurd hj (by simp [TBx])
end
end QV
set_option maxRecDepth 100000
set_option maxHeartbeats 0
/-! E3: the top runs. -/
namespace QV
open PySem PySem.Spec PyProof.Rows L2
def loose88 : List PySem.Str := (["AxleError", "NoName", "NoNumber", "NoLot", "NoTable", "NoKind", "NoBook", "NoState", "NoExpression", "NoLaw", "NoDeed", "NoPast", "Twice", "NoText", "Used"] : List PySem.Str) ++ (["TooMany", "MOST_DEEP", "MOST_FIGURES", "MOST_NUMBER", "SMALL", "FIGURES", "is_word", "is_figure", "is_value", "value_text", "pieces_of", "plain_of", "value_of", "read_value", "_law_begun"] : List PySem.Str) ++ (["_law_mixed", "_law_draw", "_law_pick", "_law_plain", "_law_is", "_law_value_text", "_law_caught", "_law_word", "_law_some_value", "_law_nested"] : List PySem.Str)
abbrev R88 : PySem.W.OpenRow := PySem.W.OpenLaw.row PySem.Challenge.rw_axlebook_k88_values_written
def ob88 (s : PySem.W.SharedT) : He.AlD × Bool := obs88 (HandSHeadRun.getT s)
theorem ob88_eq (s : PySem.W.SharedT) : ob88 s = hook88.obs s.abs := by
  have e : HandSHeadRun.getT s = s.abs.heap.get? := funext fun a => HandSHeadRun.getT_eq s a
  show obs88 (HandSHeadRun.getT s) = obs88 s.abs.heap.get?
  rw [e]
theorem run88 (w : World) : HandSHeadRun.RunEq R88 (PySem.W.view R88.prog [43]) hook88 ob88 30000 loose88 w := by
  intro os
  kernel_rfl
end QV
set_option maxRecDepth 100000
set_option maxHeartbeats 0
/-! E4: the end. -/
namespace QV
open PySem PySem.Spec PyProof.Rows L2
theorem walk88 {q : Program} {loose : List Str} {XP : (Str → Option Value) → Heap → Prop} {d : DefRec} (hdf : d.params.defaults = []) (hn : d.name = "law") :
    PySem.W.WalkO q loose XP hook88.says R88.toRowW d [] (fun f vs => PySem.call f vs) := by
  refine Att.attach_callB (n := 63) rfl hdf fun w s₀ s₁ mg mb fa o pm cd doc a vs ns G Y ho hd hcd hmg hobj hints hlen hbits hg => ?_
  obtain ⟨K, KX, c⟩ := Y
  have gl := G.T.g
  have R := rx88 KX gl c
  have hf : fa = fnA K (nm88 K) 19 := by
    have e1 := He.glo_ok KX gl (f88 c (m_def (x := "law") (by decide)).1)
    rw [hn, e1] at hmg
    exact (Value.ref.inj (Option.some.inj hmg)).symm
  have hl : ns.length ≤ sizeLine := Nat.le_trans hlen (by decide)
  have hr : Room (3 * 71) callerA := ⟨rfl, by decide, by decide⟩
  refine law_go (NM := nm88 K) (T := CT88) (orc := callN TBx 40000 71) (k := 3 * 71) (j := 19) (cs := tf88.map (He.cT K)) KX gl G.T.b G.T.builtins G.T.nolimit hg (fun p hp => ?_) (fun p hp => ?_) (fun p hp => ?_) G.T.bmain hobj hints hl hr (fun base kb nb TBs => ?_) (fun p hp => ?_) hf (law_plain ns hlen)
  · obtain ⟨x, hx, rfl⟩ := List.mem_map.mp hp
    exact c.none_ x hx
  · obtain ⟨x, hx, rfl⟩ := List.mem_map.mp hp
    exact c.out x hx
  · obtain ⟨x, hx, rfl⟩ := List.mem_map.mp hp
    exact PySem.W.codeHd_of_K KX (c.hd x hx)
  · exact calls_ok (fx88 KX gl c) R (dfns88 c TBs) (fun d => sf_of fun P K2 mg2 z => ⟨z.exm, z.keep, z.ini⟩) 71
  · rcases List.mem_cons.mp hp with rfl | hp
    · exact List.mem_map.mpr ⟨_, List.mem_cons_self .., rfl⟩
    · rcases List.mem_cons.mp hp with rfl | hp
      · exact List.mem_map.mpr ⟨_, List.mem_cons_of_mem _ (List.mem_cons_self ..), rfl⟩
      · cases hp
end QV
open PySem PySem.W PySem.Calls PyProof.Rows
set_option maxRecDepth 100000 in
set_option maxHeartbeats 8000000 in
theorem PySem.Challenge.cw_axlebook_k88_values_written_holds : PySem.Challenge.rw_axlebook_k88_values_written.Holds := by
  w_on; o_law
  refine HandSHeadRun.head_any (r := OpenLaw.row PySem.Challenge.rw_axlebook_k88_values_written) (q := view (OpenLaw.row PySem.Challenge.rw_axlebook_k88_values_written).prog [43]) (H := QV.hook88) (ob := QV.ob88) (M := 30000) (loose := QV.loose88) (d := HandSHeadRun.topDef (OpenLaw.row PySem.Challenge.rw_axlebook_k88_values_written).prog 43) (kwd := []) QV.ob88_eq
    (by kernel_rfl) (fun s => by kernel_rfl) QV.run88 (by kernel_rfl) (by kernel_rfl) (by kernel_rfl) (by rfl) (by first | assumption | decide +kernel) (by decide +kernel) ⟨rfl, rfl, rfl, rfl, rfl, by decide +kernel⟩ ?hw ?hc
  case hw => w_witness2
  case hc => exact QV.walk88 (by kernel_rfl) (by kernel_rfl)
