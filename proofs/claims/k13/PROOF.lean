import PyProof.Rows.All
import HandS.ForMost
import HandS.ForExc
import HandS.CallSlots
import HandS.IsInst
import HandS.Defaults
import PyProof.ReprRoads
import KE.DataEq
import HandS.Style
import HandS.HeadEnd
import HandS.HeadHook2
import HandS.HeadHook4
import PySem.Challenge.RW_selfprint_k13_whole_kinds_and_letters_pu
import HandS.Head0
import HandS.Head1
import HandS.Head2
import HandS.HeadWalk
import HandS.SetFor
import HandS.Zip
import HandS.More
import HandS.Flow
import PyProof.Rows.StrDigits
set_option Elab.async false
set_option linter.all false
set_option maxRecDepth 100000
namespace Ev
open PySem PySem.Spec PyProof.Rows L2

/-! ## values, told without a heap but for lists that change -/
inductive W where
  | non | bl (b : Bool) | int (i : Int) | str (s : Str) | ty (n : String)
  | tup (ws : List W) | lst (ws : List W) | emp | scr (ns : List Int) | ref (n : Nat) | dic (kvs : List (Str × W))
deriving Inhabited

/-- what changes, by number -/
inductive Ob where
  | lst (ws : List W) | dic (kvs : List (Str × W))

/-- an exception: the name of its class, its fields -/
structure Ex where
  cls : Str
  fs : List (Str × W)

/-- what a name holds: nothing that is known, a value, a list of its own -/
inductive Sl where
  | non | val (w : W) | own (ws : List W)

abbrev Sls := List Sl
abbrev Obs := List Ob

inductive R (α : Type) where
  | ok (a : α) (h : Obs) | exc (x : Ex) (h : Obs) | bad

/-- what a block comes to -/
inductive Out where
  | nx (σ : Sls) (h : Obs) | rt (w : W) (h : Obs) | bk (σ : Sls) (h : Obs) | ct (σ : Sls) (h : Obs) | exc (x : Ex) (σ : Sls) (h : Obs) | bad

@[inline] def R.bind {α β : Type} (r : R α) (f : α → Obs → R β) : R β := match r with
  | .ok a h => f a h
  | .exc x h => .exc x h
  | .bad => .bad
/-- an answer, or none -/
def R.opt {α : Type} (o : Option α) (h : Obs) : R α := match o with
  | some a => .ok a h
  | none => .bad
/-- the value of an expression handed to what comes behind it in a block -/
def R.out (r : R W) (σ : Sls) (f : W → Obs → Out) : Out := match r with
  | .ok a h => f a h
  | .exc x h => .exc x σ h
  | .bad => .bad

/-! ## the language's core: Python's syntax with the places of names told -/
inductive BOp | add | sub | mul | fdiv | mod | pow
inductive COp | eq | ne | lt | le | gt | ge | isin | notin | isn | notn
/-- built-ins that are called by their names -/
inductive Bt | len | abs | max | min | int | divmod | repr | all | list | tuple
/-- built-in classes, by their names -/
inductive Ty | non | bl | int | str | tup | lst | dct
def Ty.s : Ty → String
  | .non => "NoneType" | .bl => "bool" | .int => "int" | .str => "str" | .tup => "tuple" | .lst => "list" | .dct => "dict"
def Ty.nm : Ty → Str
  | .non => "NoneType" | .bl => "bool" | .int => "int" | .str => "str" | .tup => "tuple" | .lst => "list" | .dct => "dict"
mutual
inductive E where
  | name (x : Str) (i : Nat) (p : Pos)
  | peek (x : Str) (i : Nat) (p : Pos)
  | cst (x : Str) (p : Pos)
  | tr (e : E)
  | int (n : Int) (k : Nat) (p : Pos)
  | str (s : Str) (k : Nat) (p : Pos)
  | bl (b : Bool) (k : Nat) (p : Pos)
  | non (k : Nat) (p : Pos)
  | tup (es : Es) (k : Nat) (p : Pos)
  | lst (es : Es) (p : Pos)
  | lstH (es : Es) (p : Pos)
  | emp (p : Pos)
  | bin (op : BOp) (a b : E) (p : Pos)
  | neg (a : E) (p : Pos)
  | not (a : E) (p : Pos)
  | notV (a : E) (p : Pos)
  | bop (op : BoolOp) (es : Es) (p : Pos)
  | cmp (op : COp) (a b : E) (p : Pos)
  | chain (op op' : COp) (a b c : E) (p : Pos)
  | ife (t a b : E) (p : Pos)
  | call (f : Nat) (x : Str) (xp : Pos) (es : Es) (p : Pos)
  | callK (f : Nat) (x : Str) (xp : Pos) (es : Es) (ks : Ks) (p : Pos)
  | blt (b : Bt) (xp : Pos) (es : Es) (p : Pos)
  | isi (a : E) (t : Ty) (xp tp p : Pos)
  | isiT (a : E) (t1 : Ty) (p1 : Pos) (t2 : Ty) (p2 : Pos) (k : Nat) (xp tp p : Pos)
  | sub (a i : E) (p : Pos)
  | slc (a : E) (lo hi : Eo) (sp p : Pos)
  | lc (e : E) (tg : Tg) (it : It) (c : Eo) (vs : List (Str × Nat)) (sc : Scope) (p : Pos)
  | dget (x : Str) (xp : Pos) (i : E) (p : Pos)
  | din (ng : Bool) (a : E) (x : Str) (xp p : Pos)
  | dicH (ks : List (Str × Nat × Pos)) (es : Es) (p : Pos)
  | srt (a : E) (p1 p2 p3 p4 : Pos)
inductive Es where
  | nil | cons (e : E) (es : Es)
inductive Eo where
  | non | some (e : E)
/-- keyword arguments: name, expression, place among the parameters -/
inductive Ks where
  | nil | cons (x : Str) (e : E) (p : Pos) (ks : Ks)
/-- targets -/
inductive Tg where
  | name (x : Str) (i : Nat) (p : Pos)
  | tup (ts : Tgs) (k : Nat) (p : Pos)
  | sub (a i : E) (p : Pos)
inductive Tgs where
  | nil | cons (t : Tg) (ts : Tgs)
/-- what is walked -/
inductive It where
  | seq (e : E)
  | rng (xp : Pos) (es : Es) (p : Pos)
  | enum (xp : Pos) (e : E) (p : Pos)
  | zip (xp : Pos) (a b : E) (p : Pos)
end
mutual
inductive S where
  | asg (x : Str) (i : Nat) (xp : Pos) (e : E) (p : Pos)
  | asgO (x : Str) (i : Nat) (xp : Pos) (e : E) (p : Pos)
  | par (o1 o2 : Bool) (x : Str) (i : Nat) (xp : Pos) (y : Str) (j : Nat) (yp : Pos) (k1 : Nat) (tp : Pos) (a b : E) (k2 : Nat) (ep p : Pos)
  | par3 (x : Str) (i : Nat) (xp : Pos) (y : Str) (j : Nat) (yp : Pos) (z : Str) (l : Nat) (zp : Pos) (k1 : Nat) (tp : Pos) (a b c : E) (k2 : Nat) (ep p : Pos)
  | asgT (t : Tg) (e : E) (p : Pos)
  | pop (t : Tg) (x : Str) (i : Nat) (xp ap cp p : Pos)
  | app (x : Str) (i : Nat) (xp ap : Pos) (e : E) (cp p : Pos)
  | ext (x : Str) (i : Nat) (xp ap : Pos) (e : E) (cp p : Pos)
  | expr (e : E) (p : Pos)
  | ret (e : E) (p : Pos)
  | retN (p : Pos)
  | ite (c : E) (a b : Ss) (p : Pos)
  | whl (c : E) (b : Ss) (p : Pos)
  | for (t : Tg) (it : It) (b : Ss) (p : Pos)
  | frz (is : List Nat) (s : S)
  | opq (st : Stmt)
  | pass (p : Pos) | brk (p : Pos) | cnt (p : Pos)
inductive Ss where
  | nil | cons (s : S) (ss : Ss)
end

/-- names of built-ins that no module here binds -/
def frees : List Str := ["len", "abs", "max", "min", "int", "divmod", "repr", "all", "list", "tuple", "NoneType", "bool", "str", "dict", "isinstance", "range", "enumerate", "zip", "sorted", "set", "sum", "any", "reversed"]
/-- the statements within a statement -/
def kidsOf : Stmt → List Stmt
  | .If _ a b _ => a ++ b
  | .While _ a b _ => a ++ b
  | .For _ _ a b _ => a ++ b
  | .Try a _ b d _ => a ++ b ++ d
  | _ => []
def bodyOf (body : List Stmt) (x : Str) : List Stmt := match body with
  | [] => []
  | .FunctionDef n _ b _ _ _ _ _ _ _ :: r => if n = x then b else bodyOf r x
  | _ :: r => bodyOf r x
/-- the statement at a place -/
def stAt (body : List Stmt) (i : Nat) : List Nat → Stmt
  | [] => body.getD i (.Pass ⟨0, 0, 0, 0⟩)
  | j :: r => stAt (kidsOf (body.getD i (.Pass ⟨0, 0, 0, 0⟩))) j r

/-! ## back to Python's syntax -/
def BOp.un : BOp → Operator
  | .add => .Add | .sub => .Sub | .mul => .Mult | .fdiv => .FloorDiv | .mod => .Mod | .pow => .Pow
def COp.un : COp → CmpOp
  | .eq => .Eq | .ne => .NotEq | .lt => .Lt | .le => .LtE | .gt => .Gt | .ge => .GtE | .isin => .In | .notin => .NotIn | .isn => .Is | .notn => .IsNot
def Bt.nm : Bt → Str
  | .len => "len" | .abs => "abs" | .max => "max" | .min => "min" | .int => "int" | .divmod => "divmod" | .repr => "repr" | .all => "all" | .list => "list" | .tuple => "tuple"
mutual
def E.un : E → Expr
  | .name x _ p => .Name x p
  | .peek x _ p => .Name x p
  | .cst x p => .Name x p
  | .tr e => e.un
  | .int n k p => .Constant (.int n) k p
  | .str s k p => .Constant (.str s) k p
  | .bl b k p => .Constant (.bool b) k p
  | .non k p => .Constant .none k p
  | .tup es k p => .Tuple es.un k p
  | .lst es p => .List es.un p
  | .lstH es p => .List es.un p
  | .emp p => .Dict [] [] p
  | .bin op a b p => .BinOp a.un op.un b.un p
  | .neg a p => .UnaryOp .USub a.un p
  | .not a p => .UnaryOp .Not a.un p
  | .notV a p => .UnaryOp .Not a.un p
  | .bop op es p => .BoolOp op es.un p
  | .cmp op a b p => .Compare a.un [op.un] [b.un] p
  | .chain op op' a b c p => .Compare a.un [op.un, op'.un] [b.un, c.un] p
  | .ife t a b p => .IfExp t.un a.un b.un p
  | .call _ x xp es p => .Call (.Name x xp) es.un [] p
  | .callK _ x xp es ks p => .Call (.Name x xp) es.un ks.un p
  | .blt b xp es p => .Call (.Name b.nm xp) es.un [] p
  | .isi a t xp tp p => .Call (.Name "isinstance" xp) [a.un, .Name t.nm tp] [] p
  | .isiT a t1 p1 t2 p2 k xp tp p => .Call (.Name "isinstance" xp) [a.un, .Tuple [.Name t1.nm p1, .Name t2.nm p2] k tp] [] p
  | .sub a i p => .Subscript a.un i.un p
  | .slc a lo hi sp p => .Subscript a.un (.Slice lo.un hi.un none sp) p
  | .lc e tg it c _ sc p => .ListComp e.un [⟨tg.un, it.un, c.uns, 0⟩] sc p
  | .dget x xp i p => .Subscript (.Name x xp) i.un p
  | .din ng a x xp p => .Compare a.un [if ng then .NotIn else .In] [.Name x xp] p
  | .dicH ks es p => .Dict (ks.map fun k => some (.Constant (.str k.1) k.2.1 k.2.2)) es.un p
  | .srt a p1 p2 p3 p4 => .Call (.Name "sorted" p1) [.Call (.Name "set" p2) [a.un] [] p3] [] p4
def Es.un : Es → List Expr
  | .nil => []
  | .cons e es => e.un :: es.un
def Eo.un : Eo → Option Expr
  | .non => none
  | .some e => some e.un
def Eo.uns : Eo → List Expr
  | .non => []
  | .some e => [e.un]
def Ks.un : Ks → List Keyword
  | .nil => []
  | .cons x e p ks => ⟨some x, e.un, p⟩ :: ks.un
def Tg.un : Tg → Expr
  | .name x _ p => .Name x p
  | .tup ts k p => .Tuple ts.un k p
  | .sub a i p => .Subscript a.un i.un p
def Tgs.un : Tgs → List Expr
  | .nil => []
  | .cons t ts => t.un :: ts.un
def It.un : It → Expr
  | .seq e => e.un
  | .rng xp es p => .Call (.Name "range" xp) es.un [] p
  | .enum xp e p => .Call (.Name "enumerate" xp) [e.un] [] p
  | .zip xp a b p => .Call (.Name "zip" xp) [a.un, b.un] [] p
end
mutual
def S.un : S → Stmt
  | .asg x _ xp e p => .Assign [.Name x xp] e.un p
  | .asgO x _ xp e p => .Assign [.Name x xp] e.un p
  | .par _ _ x _ xp y _ yp k1 tp a b k2 ep p => .Assign [.Tuple [.Name x xp, .Name y yp] k1 tp] (.Tuple [a.un, b.un] k2 ep) p
  | .par3 x _ xp y _ yp z _ zp k1 tp a b c k2 ep p => .Assign [.Tuple [.Name x xp, .Name y yp, .Name z zp] k1 tp] (.Tuple [a.un, b.un, c.un] k2 ep) p
  | .asgT t e p => .Assign [t.un] e.un p
  | .pop t x _ xp ap cp p => .Assign [t.un] (.Call (.Attribute (.Name x xp) "pop" ap) [] [] cp) p
  | .app x _ xp ap e cp p => .Expr (.Call (.Attribute (.Name x xp) "append" ap) [e.un] [] cp) p
  | .ext x _ xp ap e cp p => .Expr (.Call (.Attribute (.Name x xp) "extend" ap) [e.un] [] cp) p
  | .expr e p => .Expr e.un p
  | .ret e p => .Return (some e.un) p
  | .retN p => .Return none p
  | .ite c a b p => .If c.un a.un b.un p
  | .whl c b p => .While c.un b.un [] p
  | .for t it b p => .For t.un it.un b.un [] p
  | .frz _ s => s.un
  | .opq st => st
  | .pass p => .Pass p
  | .brk p => .Break p
  | .cnt p => .Continue p
def Ss.un : Ss → List Stmt
  | .nil => []
  | .cons s ss => s.un :: ss.un
end
end Ev

namespace Ev
open PySem PySem.Spec PyProof.Rows L2

/-! ## what operations tell, by values -/
/-- a value without parts -/
def W.flat : W → Option V
  | .non => some .non | .bl b => some (.bl b) | .int i => some (.int i) | .str s => some (.str s) | _ => none
mutual
/-- a value as data (no number of what changes, no class) -/
def W.dat : W → Option PyData
  | .non => some .none
  | .bl b => some (.bool b)
  | .int i => some (.int i)
  | .str s => some (.str s)
  | .tup ws => (W.dats ws).map PyData.tuple
  | .lst ws => (W.dats ws).map PyData.list
  | _ => none
def W.dats : List W → Option (List PyData)
  | [] => some []
  | w :: ws => match W.dat w, W.dats ws with
    | some d, some ds => some (d :: ds)
    | _, _ => none
end
/-- a number of a list, read as the list that stands there now -/
def W.now (h : Obs) : W → W
  | .ref n => match h[n]? with
    | some (.lst ws) => .lst ws
    | some (.dic kvs) => .dic kvs
    | none => .ref n
  | w => w
/-- a text put in a dict -/
def dicPut (kvs : List (Str × W)) (s : Str) (w : W) : List (Str × W) := match kvs.any fun kv => decide (kv.1 = s) with
  | true => kvs.map fun kv => match decide (kv.1 = s) with
    | true => (kv.1, w)
    | false => kv
  | false => kvs ++ [(s, w)]
def dicGet (kvs : List (Str × W)) (s : Str) : Option W := match kvs with
  | [] => none
  | (k, v) :: r => match decide (k = s) with
    | true => some v
    | false => dicGet r s
/-- a constant as a value -/
def cstV : Option W → Option W
  | some (.dic _) => none
  | o => o
def eqW (a b : W) : Option Bool := match a.dat, b.dat with
  | some d, some e => match decide (min d.depth e.depth ≤ 64) with
    | true => some (PyData.eqv d e)
    | false => none
  | _, _ => none
/-- the items of what can be walked -/
def W.items : W → Option (List W)
  | .lst ws => some ws | .tup ws => some ws | .scr ns => some (ns.map W.int) | _ => none
def inD (a : W) (ws : List W) : Option Bool := match a.dat, W.dats ws with
  | some d, some ds => match decide (min (PyData.depthAll ds) d.depth ≤ 62) with
    | true => some (ds.any fun y => PyData.eqv y d)
    | false => none
  | _, _ => none
def inW (a : W) (b : W) : Option Bool := match b with
  | .dic kvs => match a with
    | .str s => some (dicGet kvs s).isSome
    | _ => none
  | .lst ws => inD a ws
  | .tup ws => inD a ws
  | _ => none
/-- whole numbers -/
def intsOf : List W → Option (List Int)
  | [] => some []
  | .int i :: ws => (intsOf ws).map (i :: ·)
  | _ :: _ => none
def ins1 (z : Int) : List Int → List Int
  | [] => [z]
  | x :: r => if z < x then z :: x :: r else if z = x then x :: r else x :: ins1 z r
/-- sorted, each once -/
def srtI : List Int → List Int
  | [] => []
  | z :: r => ins1 z (srtI r)
def srtW : W → Option W
  | .lst ws => match intsOf ws with
    | some ns => match decide (ns.length < 64) with
      | true => some (.lst ((srtI ns).map W.int))
      | false => none
    | none => none
  | _ => none
def lineN (n : Nat) : Bool := decide (n ≤ sizeLine)
def small (i : Int) : Bool := decide (-(2 ^ 64) < i) && decide (i < 2 ^ 64)
/-- of two whole numbers -/
def intsW {α : Type} (f : Int → Int → Option α) : W → W → Option α
  | .int i, .int j => f i j
  | _, _ => none
def addW : W → W → Option W
  | .int i, .int j => some (.int (i + j))
  | .str s, .str t => match lineN (s.length + t.length) with
    | true => some (.str (s ++ t))
    | false => none
  | .lst x, .lst y => match lineN (x.length + y.length) with
    | true => some (.lst (x ++ y))
    | false => none
  | _, _ => none
def ifB {α : Type} (b : Bool) (a : α) : Option α := match b with
  | true => some a
  | false => none
def mulW : W → W → Option W
  | .int i, .int j => ifB (small i || small j) (.int (i * j))
  | .lst ws, .int k => ifB (decide (-(2 ^ 63) ≤ k) && (decide (k < 2 ^ 63) && lineN (ws.length * k.toNat))) (.lst (List.replicate k.toNat ws).flatten)
  | _, _ => none
def binW (op : BOp) (a b : W) : Option W := match op with
  | .add => addW a b
  | .sub => intsW (fun i j => some (.int (i - j))) a b
  | .mul => mulW a b
  | .fdiv => intsW (fun i j => ifB (decide (0 < j) && decide (j < 1073741824)) (.int (i / j))) a b
  | .mod => intsW (fun i j => ifB (decide (0 < j)) (.int (i % j))) a b
  | .pow => intsW (fun i j => ifB (decide (0 ≤ j) && (decide (j ≤ 1000000) && decide (i.natAbs < 2 ^ 64))) (.int (i ^ j.toNat))) a b
def W.isNon : W → Bool
  | .non => true
  | _ => false
/-- x is None, x is True, x is False -/
def isW (a b : W) : Option Bool := match b with
  | .non => some a.isNon
  | .bl v => match a with
    | .bl u => some (decide (u = v))
    | _ => none
  | _ => none
def cmpW (op : COp) (a b : W) : Option Bool := match op with
  | .eq => eqW a b
  | .ne => (eqW a b).map (!·)
  | .isin => inW a b
  | .notin => (inW a b).map (!·)
  | .isn => isW a b
  | .notn => (isW a b).map (!·)
  | .lt => intsW (fun i j => some (decide (i < j))) a b
  | .le => intsW (fun i j => some (decide (i ≤ j))) a b
  | .gt => intsW (fun i j => some (decide (j < i))) a b
  | .ge => intsW (fun i j => some (decide (j ≤ i))) a b
/-- the length of what has one -/
def lenW : W → Option Nat
  | .lst ws => some ws.length
  | .tup ws => some ws.length
  | .scr ns => some ns.length
  | .str s => match lineN s.length with
    | true => some s.length
    | false => none
  | _ => none
def truW : W → Option Bool
  | .non => some false
  | .bl b => some b
  | .int i => some (i != 0)
  | .str s => match lineN s.length with
    | true => some ((s.length : Int) != 0)
    | false => none
  | .lst ws => some (!ws.isEmpty)
  | .tup ws => some (!ws.isEmpty)
  | _ => none
def idxW (a : W) (i : W) : Option W := match i with
  | .str s => match a with
    | .dic kvs => dicGet kvs s
    | _ => none
  | .int i => match a with
    | .lst ws => atI ws i
    | .tup ws => atI ws i
    | .scr ns => (atI ns i).map W.int
    | .str s => match lineN s.length with
      | true => (atI s.cps.toList i).map fun c => .str ⟨#[c]⟩
      | false => none
    | _ => none
  | _ => none
def cut {α : Type} (xs : List α) (lo hi : Option Int) : List α := (xs.drop (HT.sIx xs.length 0 lo)).take (HT.sIx xs.length xs.length hi - HT.sIx xs.length 0 lo)
def slcW (a : W) (lo hi : Option Int) : Option W := match a with
  | .lst ws => some (.lst (cut ws lo hi))
  | .tup ws => match decide (HT.sIx ws.length 0 lo = 0) && decide (HT.sIx ws.length ws.length hi = ws.length) with
    | true => none
    | false => some (.tup (cut ws lo hi))
  | _ => none
/-- a value's own class -/
def tyW (h : Obs) : W → Option Ty
  | .non => some .non | .bl _ => some .bl | .int _ => some .int | .str _ => some .str
  | .tup _ => some .tup | .lst _ => some .lst | .scr _ => some .lst | .emp => some .dct
  | .ref n => match h[n]? with
    | some (.lst _) => some .lst
    | some (.dic _) => some .dct
    | none => none
  | .ty _ => none
  | .dic _ => none
/-- whether values of a class are of a class -/
def isTy : Ty → Ty → Bool
  | .non, .non => true | .bl, .bl => true | .int, .int => true | .str, .str => true | .tup, .tup => true | .lst, .lst => true | .dct, .dct => true
  | .bl, .int => true
  | _, _ => false
def bools : List W → Option (List Bool)
  | [] => some []
  | .bl b :: ws => (bools ws).map (b :: ·)
  | _ :: _ => none
/-- repr of data -/
def reprW (w : W) : Option Str := match w.dat with
  | some d => match d.showable && (decide (d.depth ≤ 64) && lineN d.shown.length) with
    | true => some d.shown
    | false => none
  | none => none
def on1 (f : W → Option W) : List W → Option W
  | [w] => f w
  | _ => none
def on2 (f : W → W → Option W) : List W → Option W
  | [w, u] => f w u
  | _ => none
def intW : W → Option W
  | .int i => some (.int i)
  | .bl k => some (.int (if k then 1 else 0))
  | _ => none
def absW : W → Option W
  | .int i => some (.int (if i < 0 then -i else i))
  | _ => none
def allW : W → Option W
  | .lst ws => (bools ws).map fun bs => .bl (bs.all id)
  | _ => none
def listW : W → Option W
  | .lst ws => some (.lst ws)
  | .tup ws => some (.lst ws)
  | _ => none
def tupleW : W → Option W
  | .lst ws => some (.tup ws)
  | .tup ws => some (.tup ws)
  | _ => none
def bltW (b : Bt) (ws : List W) : Option W := match b with
  | .len => on1 (fun w => (lenW w).map fun (n : Nat) => W.int (n : Int)) ws
  | .abs => on1 absW ws
  | .max => on2 (intsW fun i j => some (.int (if j > i then j else i))) ws
  | .min => on2 (intsW fun i j => some (.int (if j < i then j else i))) ws
  | .int => on1 intW ws
  | .divmod => on2 (intsW fun i j => ifB (decide (0 < j) && decide (j < 1073741824)) (.tup [.int (i / j), .int (i % j)])) ws
  | .repr => on1 (fun w => (reprW w).map W.str) ws
  | .all => on1 allW ws
  | .list => on1 listW ws
  | .tuple => on1 tupleW ws

/-! ## what expressions tell -/
structure Dn where
  call : Nat → List W → Obs → R W
  cst : Str → Option W
  /-- the parameters of each def -/
  par : Nat → List Str

def slotV (σ : Sls) (i : Nat) : Option W := match σ[i]? with
  | some (.val w) => some w
  | _ => none
def slotP (σ : Sls) (i : Nat) : Option W := match σ[i]? with
  | some (.val w) => some w
  | some (.own ws) => some (.lst ws)
  | _ => none
/-- keyword arguments put in the parameters' sequence -/
def kwAll {α : Type} (ks : List (Str × α)) : List Str → Option (List α)
  | [] => some []
  | x :: xs => match ks.lookup x, kwAll ks xs with
    | some a, some as => some (a :: as)
    | _, _ => none
def kwPut {α : Type} (ps : List Str) (us : List α) (ks : List (Str × α)) : Option (List α) := match decide (us.length + ks.length = ps.length) with
  | true => match kwAll ks (ps.drop us.length) with
    | some as => some (us ++ as)
    | none => none
  | false => none
/-- names of a block forgotten -/
def wipeS (σ : Sls) : List Nat → Sls
  | [] => σ
  | v :: vs => (wipeS σ vs).set v .non
mutual
/-- targets of a comprehension -/
def Tg.put : Tg → W → Sls → Option Sls
  | .name _ i _, w, σ => some (σ.set i (.val w))
  | .tup ts _ _, .tup ws, σ => ts.put ws σ
  | _, _, _ => none
def Tgs.put : Tgs → List W → Sls → Option Sls
  | .nil, [], σ => some σ
  | .cons t ts, w :: ws, σ => match t.put w σ with
    | some σ' => ts.put ws σ'
    | none => none
  | _, _, _ => none
end
/-- a comprehension's turns; no exception may leave -/
def lcGo (put : W → Option Sls) (c : Sls → Obs → R Bool) (e : Sls → Obs → R W) : List W → List W → Obs → R (List W)
  | [], acc, h => .ok acc h
  | x :: xs, acc, h => match put x with
    | some σ => match c σ h with
      | .ok true h1 => match e σ h1 with
        | .ok y h2 => match decide (acc.length < sizeLine) with
          | true => lcGo put c e xs (acc ++ [y]) h2
          | false => .bad
        | _ => .bad
      | .ok false h1 => lcGo put c e xs acc h1
      | _ => .bad
    | none => .bad

/-- the places of a block's names -/
def ixs (vs : List (Str × Nat)) : List Nat := vs.map (·.2)
/-- no list of one's own at these places -/
def noOwn (σ : Sls) : List Nat → Bool
  | [] => true
  | v :: vs => match σ[v]? with
    | some (.own _) => false
    | _ => noOwn σ vs
def boolW : W → Option Bool
  | .bl b => some b
  | _ => none
def enumW (k : Nat) : List W → List W
  | [] => []
  | w :: ws => .tup [.int k, w] :: enumW (k + 1) ws
def zipW : List W → List W → List W
  | a :: as, b :: bs => .tup [a, b] :: zipW as bs
  | _, _ => []
def rngW (lo : Int) : Nat → List W
  | 0 => []
  | n + 1 => .int lo :: rngW (lo + 1) n
def in62 (i : Int) : Bool := decide (-(2 ^ 62) ≤ i) && decide (i < 2 ^ 62)
def rng1 (x : W) (h : Obs) : R (List W) := match x with
  | .int j => match in62 j with
    | true => .ok (rngW 0 j.toNat) h
    | false => .bad
  | _ => .bad
def rng2 (x y : W) (h : Obs) : R (List W) := match x, y with
  | .int i, .int j => match in62 i && in62 j with
    | true => .ok (rngW i (j - i).toNat) h
    | false => .bad
  | _, _ => .bad
/-- places by a negative one, written out: a range from a place downward -/
def dnW (lo : Int) : Nat → List W
  | 0 => []
  | n + 1 => .int lo :: dnW (lo - 1) n

mutual
/-- k: as an operand, where a list of the def's own may be looked at -/
def E.den (D : Dn) (k : Bool) : E → Sls → Obs → R W
  | .name _ i _, σ, h => .opt (slotV σ i) h
  | .peek _ i _, σ, h => match k with
    | true => .opt (slotP σ i) h
    | false => .bad
  | .cst x _, σ, h => .opt (cstV (D.cst x)) h
  | .int n _ _, σ, h => .ok (.int n) h
  | .str s _ _, σ, h => .ok (.str s) h
  | .bl b _ _, σ, h => .ok (.bl b) h
  | .non _ _, σ, h => .ok .non h
  | .tr _, σ, h => .bad
  | .tup es _ _, σ, h => (es.den D false σ h).bind fun ws h => match lineN ws.length with
    | true => .ok (.tup ws) h
    | false => .bad
  | .lst es _, σ, h => (es.den D false σ h).bind fun ws h => match lineN ws.length with
    | true => .ok (.lst ws) h
    | false => .bad
  | .lstH es _, σ, h => (es.den D false σ h).bind fun ws h => match lineN ws.length with
    | true => .ok (.ref h.length) (h ++ [.lst ws])
    | false => .bad
  | .emp _, σ, h => .ok .emp h
  | .bin op a b _, σ, h => (a.den D true σ h).bind fun x h => (b.den D true σ h).bind fun y h => .opt (binW op (x.now h) (y.now h)) h
  | .neg a _, σ, h => (a.den D false σ h).bind fun x h => match x with
    | .int i => .ok (.int (-i)) h
    | _ => .bad
  | .not _ _, σ, h => .bad
  | .notV a _, σ, h => (a.den D true σ h).bind fun w h => .opt ((truW (w.now h)).map fun k => .bl (!k)) h
  | .bop op es _, σ, h => es.bo D op σ h
  | .cmp op a b _, σ, h => (a.den D true σ h).bind fun x h => (b.den D true σ h).bind fun y h => .opt ((cmpW op (x.now h) (y.now h)).map W.bl) h
  | .chain op op' a b c _, σ, h => (a.den D false σ h).bind fun x h => (b.den D false σ h).bind fun y h => match cmpW op x y with
    | some true => (c.den D false σ h).bind fun z h => .opt ((cmpW op' y z).map W.bl) h
    | some false => .ok (.bl false) h
    | none => .bad
  | .ife t a b _, σ, h => (t.tst D σ h).bind fun c h => match c with
    | true => a.den D false σ h
    | false => b.den D false σ h
  | .call f _ _ es _, σ, h => (es.den D false σ h).bind fun ws h => D.call f ws h
  | .callK f _ _ es ks _, σ, h => (es.den D false σ h).bind fun ws h => (ks.den D σ h).bind fun zs h => match kwPut (D.par f) ws zs with
    | some us => D.call f us h
    | none => .bad
  | .blt b _ es _, σ, h => (es.den D true σ h).bind fun ws h => .opt (bltW b (ws.map (W.now h))) h
  | .isi a t _ _ _, σ, h => (a.den D false σ h).bind fun x h => .opt ((tyW h x).map fun y => .bl (isTy y t)) h
  | .isiT a t1 _ t2 _ _ _ _ _, σ, h => (a.den D false σ h).bind fun x h => .opt ((tyW h x).map fun y => .bl (isTy y t1 || isTy y t2)) h
  | .sub a i _, σ, h => (a.den D true σ h).bind fun x h => (i.den D false σ h).bind fun y h => .opt (idxW (x.now h) y) h
  | .slc a lo hi _ _, σ, h => (a.den D true σ h).bind fun x h => (lo.den D σ h).bind fun l h => (hi.den D σ h).bind fun u h => .opt (slcW (x.now h) l u) h
  | .lc e tg it c vs _ _, σ, h => (match noOwn σ (ixs vs) with
      | true => (it.den D σ h).bind fun xs h => lcGo (fun x => tg.put x (wipeS σ (ixs vs))) (fun σ h => c.tst D σ h) (fun σ h => e.den D false σ h) xs [] h
      | false => (R.bad : R (List W))).bind fun ys h => .ok (.lst ys) h
  | .dget x _ i _, σ, h => match D.cst x with
    | some (.dic kvs) => (i.den D false σ h).bind fun k h => match k with
      | .str s => .opt (dicGet kvs s) h
      | _ => .bad
    | _ => .bad
  | .din ng a x _ _, σ, h => match D.cst x with
    | some (.dic kvs) => (a.den D false σ h).bind fun k h => match k with
      | .str s => .ok (.bl ((dicGet kvs s).isSome != ng)) h
      | _ => .bad
    | _ => .bad
  | .srt a _ _ _ _, σ, h => (a.den D true σ h).bind fun x h => .opt (srtW (x.now h)) h
  | .dicH ks es _, σ, h => (es.den D false σ h).bind fun ws h => .ok (.ref h.length) (h ++ [.dic (((ks.map fun k => k.1).zip ws).foldl (fun d p => dicPut d p.1 p.2) [])])
def Es.den (D : Dn) (k : Bool) : Es → Sls → Obs → R (List W)
  | .nil, σ, h => .ok [] h
  | .cons e es, σ, h => (e.den D k σ h).bind fun w h => (es.den D k σ h).bind fun ws h => .ok (w :: ws) h
def Ks.den (D : Dn) : Ks → Sls → Obs → R (List (Str × W))
  | .nil, σ, h => .ok [] h
  | .cons x e _ ks, σ, h => (e.den D false σ h).bind fun w h => (ks.den D σ h).bind fun ws h => .ok ((x, w) :: ws) h
def Eo.den (D : Dn) : Eo → Sls → Obs → R (Option Int)
  | .non, σ, h => .ok none h
  | .some e, σ, h => (e.den D false σ h).bind fun w h => match w with
    | .int i => .ok (some i) h
    | _ => .bad
def Eo.tst (D : Dn) : Eo → Sls → Obs → R Bool
  | .non, σ, h => .ok true h
  | .some e, σ, h => e.tst D σ h
/-- and, or, as values -/
def Es.bo (D : Dn) (op : BoolOp) : Es → Sls → Obs → R W
  | .nil, σ, h => .bad
  | .cons e es, σ, h => (e.den D false σ h).bind fun w h => match es, op, w with
    | .nil, _, w => .ok w h
    | _, .And, .bl true => es.bo D op σ h
    | _, .And, .bl false => .ok (.bl false) h
    | _, .Or, .bl true => .ok (.bl true) h
    | _, .Or, .bl false => es.bo D op σ h
    | _, _, _ => .bad
/-- .. as tests -/
def Es.bt (D : Dn) (op : BoolOp) : Es → Sls → Obs → R Bool
  | .nil, σ, h => .bad
  | .cons e es, σ, h => (e.tst D σ h).bind fun k h => match es, op, k with
    | .nil, _, k => .ok k h
    | _, .And, true => es.bt D op σ h
    | _, .And, false => .ok false h
    | _, .Or, true => .ok true h
    | _, .Or, false => es.bt D op σ h
/-- as a test -/
def E.tst (D : Dn) : E → Sls → Obs → R Bool
  | .tr e, σ, h => (e.den D true σ h).bind fun w h => .opt (truW (w.now h)) h
  | .not a _, σ, h => (a.tst D σ h).bind fun k h => .ok (!k) h
  | .bop op es _, σ, h => es.bt D op σ h
  | .cmp op a b _, σ, h => (a.den D true σ h).bind fun x h => (b.den D true σ h).bind fun y h => .opt (cmpW op (x.now h) (y.now h)) h
  | .chain op op' a b c _, σ, h => (a.den D false σ h).bind fun x h => (b.den D false σ h).bind fun y h => match cmpW op x y with
    | some true => (c.den D false σ h).bind fun z h => .opt (cmpW op' y z) h
    | some false => .ok false h
    | none => .bad
  | .din ng a x _ _, σ, h => match D.cst x with
    | some (.dic kvs) => (a.den D false σ h).bind fun k h => match k with
      | .str s => .ok ((dicGet kvs s).isSome != ng) h
      | _ => .bad
    | _ => .bad
  | _, _, _ => .bad
def It.den (D : Dn) : It → Sls → Obs → R (List W)
  | .seq e, σ, h => (e.den D false σ h).bind fun w h => .opt w.items h
  | .rng _ es _, σ, h => match es with
    | .cons a .nil => (a.den D false σ h).bind rng1
    | .cons a (.cons b .nil) => (a.den D false σ h).bind fun x h => (b.den D false σ h).bind fun y h => rng2 x y h
    | _ => .bad
  | .enum _ e _, σ, h => (e.den D false σ h).bind fun w h => match w with
    | .lst ws => .ok (enumW 0 ws) h
    | _ => .bad
  | .zip _ a b _, σ, h => (a.den D false σ h).bind fun x h => (b.den D false σ h).bind fun y h => match x, y with
    | .lst xs, .lst ys => .ok (zipW xs ys) h
    | _, _ => .bad
end

/-! ## what statements do -/
/-- a list that is new: for a name that keeps it as its own -/
def E.fresh (D : Dn) : E → Sls → Obs → R (List W)
  | .lst es _, σ, h => (es.den D false σ h).bind fun ws h => match lineN ws.length with
    | true => .ok ws h
    | false => .bad
  | .bin .add a b _, σ, h => (a.den D true σ h).bind fun x h => (b.den D true σ h).bind fun y h => match binW .add (x.now h) (y.now h) with
    | some (.lst ws) => .ok ws h
    | _ => .bad
  | .blt .list _ es _, σ, h => (es.den D true σ h).bind fun ws h => match bltW .list (ws.map (W.now h)) with
    | some (.lst ws) => .ok ws h
    | _ => .bad
  | .slc a lo hi p q, σ, h => (E.den D false (.slc a lo hi p q) σ h).bind fun w h => match w with
    | .lst ws => .ok ws h
    | _ => .bad
  | .lc e tg it c vs sc p, σ, h => match noOwn σ (ixs vs) with
      | true => (it.den D σ h).bind fun xs h => lcGo (fun x => tg.put x (wipeS σ (ixs vs))) (fun σ h => c.tst D σ h) (fun σ h => e.den D false σ h) xs [] h
      | false => .bad
  | _, _, _ => .bad
/-- what a name is given: a value, or (o) a list of its own -/
def E.give (D : Dn) (o : Bool) (e : E) (σ : Sls) (h : Obs) : R Sl := match o with
  | true => (e.fresh D σ h).bind fun ws h => .ok (.own ws) h
  | false => (e.den D false σ h).bind fun w h => .ok (.val w) h
mutual
def Tg.den (D : Dn) : Tg → W → Sls → Obs → R Sls
  | .name _ i _, w, σ, h => .ok (σ.set i (.val w)) h
  | .tup ts _ _, w, σ, h => match w with
    | .tup ws => ts.den D ws σ h
    | _ => .bad
  | .sub a i _, w, σ, h => match a.den D false σ h with
    | .ok (.ref n) h => match i.den D false σ h with
      | .ok y h => match h[n]?, y with
        | some (.lst ws), .int k => match ixN ws.length k with
          | some j => .ok σ (h.set n (.lst (ws.set j w)))
          | none => .bad
        | some (.dic kvs), .str s => match decide (kvs.length < sizeLine) with
          | true => .ok σ (h.set n (.dic (dicPut kvs s w)))
          | false => .bad
        | _, _ => .bad
      | _ => .bad
    | _ => .bad
def Tgs.den (D : Dn) : Tgs → List W → Sls → Obs → R Sls
  | .nil, ws, σ, h => match ws with
    | [] => .ok σ h
    | _ => .bad
  | .cons t ts, ws, σ, h => match ws with
    | w :: ws => match t.den D w σ h with
      | .ok σ h => ts.den D ws σ h
      | _ => .bad
    | [] => .bad
end
/-- behind a target -/
def tgo : R Sls → Out
  | .ok σ h => .nx σ h
  | _ => .bad
def frzS : List Nat → Sls → Sls
  | [], σ => σ
  | i :: is, σ => frzS is (match σ[i]? with
    | some (.own ws) => σ.set i (.val (.lst ws))
    | _ => σ)
def forGo (put : W → Sls → Obs → R Sls) (body : Sls → Obs → Out) : List W → Sls → Obs → Out
  | [], σ, h => .nx σ h
  | x :: xs, σ, h => match put x σ h with
    | .ok σ h => match body σ h with
      | .nx σ h => forGo put body xs σ h
      | .ct σ h => forGo put body xs σ h
      | .bk σ h => .nx σ h
      | .rt w h => .rt w h
      | .exc x σ h => .exc x σ h
      | .bad => .bad
    | _ => .bad
/-- m: turns at most -/
def whlGo (tst : Sls → Obs → R Bool) (body : Sls → Obs → Out) : Nat → Sls → Obs → Out
  | 0, _, _ => .bad
  | m + 1, σ, h => match tst σ h with
    | .ok true h => match body σ h with
      | .nx σ h => whlGo tst body m σ h
      | .ct σ h => whlGo tst body m σ h
      | .bk σ h => .nx σ h
      | .rt w h => .rt w h
      | .exc x σ h => .exc x σ h
      | .bad => .bad
    | .ok false h => .nx σ h
    | .exc x h => .exc x σ h
    | .bad => .bad
def whlMost : Nat := 1000000
mutual
def S.den (D : Dn) : S → Sls → Obs → Out
  | .asg _ i _ e _, σ, h => (e.den D false σ h).out σ fun w h => .nx (σ.set i (.val w)) h
  | .asgO _ i _ e _, σ, h => match e.fresh D σ h with
    | .ok ws h => .nx (σ.set i (.own ws)) h
    | .exc x h => .exc x σ h
    | .bad => .bad
  | .par o1 o2 _ i _ _ j _ _ _ a b _ _ _, σ, h => match a.give D o1 σ h with
    | .ok s1 h => match b.give D o2 σ h with
      | .ok s2 h => .nx ((σ.set i s1).set j s2) h
      | .exc x h => .exc x σ h
      | .bad => .bad
    | .exc x h => .exc x σ h
    | .bad => .bad
  | .par3 _ i _ _ j _ _ l _ _ _ a b c _ _ _, σ, h => (a.den D false σ h).out σ fun u h => (b.den D false σ h).out σ fun v h => (c.den D false σ h).out σ fun w h => .nx (((σ.set i (.val u)).set j (.val v)).set l (.val w)) h
  | .asgT t e _, σ, h => (e.den D false σ h).out σ fun w h => tgo (t.den D w σ h)
  | .pop t _ i _ _ _ _, σ, h => match σ[i]? with
    | some (.own ws) => match ws[ws.length - 1]? with
      | some w => tgo (t.den D w (σ.set i (.own ws.dropLast)) h)
      | none => .bad
    | _ => .bad
  | .app _ i _ _ e _ _, σ, h => match σ[i]? with
    | some (.own ws) => (e.den D false σ h).out σ fun w h => match decide (ws.length < sizeLine) with
      | true => .nx (σ.set i (.own (ws ++ [w]))) h
      | false => .bad
    | _ => .bad
  | .ext _ i _ _ e _ _, σ, h => match σ[i]? with
    | some (.own ws) => (e.den D false σ h).out σ fun w h => match w with
      | .lst us => match lineN (ws.length + us.length) with
        | true => .nx (σ.set i (.own (ws ++ us))) h
        | false => .bad
      | _ => .bad
    | _ => .bad
  | .expr e _, σ, h => (e.den D false σ h).out σ fun _ h => .nx σ h
  | .ret e _, σ, h => (e.den D false σ h).out σ fun w h => .rt w h
  | .retN _, σ, h => .rt .non h
  | .ite c a b _, σ, h => match c.tst D σ h with
    | .ok true h => a.den D σ h
    | .ok false h => b.den D σ h
    | .exc x h => .exc x σ h
    | .bad => .bad
  | .whl c b _, σ, h => whlGo (fun σ h => c.tst D σ h) (fun σ h => b.den D σ h) whlMost σ h
  | .for t it b _, σ, h => match it.den D σ h with
    | .ok xs h => forGo (fun w σ h => t.den D w σ h) (fun σ h => b.den D σ h) xs σ h
    | .exc x h => .exc x σ h
    | .bad => .bad
  | .frz is s, σ, h => s.den D (frzS is σ) h
  | .opq _, σ, h => .bad
  | .pass _, σ, h => .nx σ h
  | .brk _, σ, h => .bk σ h
  | .cnt _, σ, h => .ct σ h
def Ss.den (D : Dn) : Ss → Sls → Obs → Out
  | .nil, σ, h => .nx σ h
  | .cons s ss, σ, h => match s.den D σ h with
    | .nx σ h => ss.den D σ h
    | o => o
end

/-! ## defs, by levels -/
structure Df where
  nm : Str
  /-- all names by slot, parameters first -/
  N : List Str
  np : Nat
  body : Ss
def startS (n : Nat) (ws : List W) : Sls := ws.map Sl.val ++ List.replicate (n - ws.length) .non
def Df.run (d : Df) (D : Dn) (ws : List W) (h : Obs) : R W := match decide (ws.length = d.np) with
  | true => match d.body.den D (startS d.N.length ws) h with
    | .nx _ h => .ok .non h
    | .rt w h => .ok w h
    | .exc x _ h => .exc x h
    | _ => .bad
  | false => .bad
structure Pg where
  defs : List Df
  cst : Str → Option W
def Pg.par (P : Pg) (f : Nat) : List Str := match P.defs[f]? with
  | some d => d.N.take d.np
  | none => []
/-- what the def f tells, calls going at most k deep -/
def Pg.T (P : Pg) : Nat → Nat → List W → Obs → R W
  | 0, _, _, _ => .bad
  | k + 1, f, ws, h => match P.defs[f]? with
    | some d => d.run ⟨P.T k, P.cst, P.par⟩ ws h
    | none => .bad
end Ev

set_option maxHeartbeats 1000000
namespace Ev
open PySem PySem.Spec PyProof.Rows L2
/-! ## from the head's facts -/
/-- a value of the module's text -/
def cstB (K : PySem.W.Frag) : Nat → Value → W → Bool
  | 0, _, _ => false
  | n + 1, u, w => match w, u with
    | .non, .none => true
    | .bl b, .bool c => decide (b = c)
    | .int i, .int j _ => decide (i = j)
    | .str x, .str y _ => decide (x = y)
    | .tup ws, .ref a => match K.lookup a with
      | some ⟨.type c, _, .seq its _, _⟩ => decide (c = "tuple") && (decide (its.size ≤ sizeLine) && all2 (cstB K n) its.toList ws)
      | _ => false
    | _, _ => false
where all2 (f : Value → W → Bool) : List Value → List W → Bool
  | [], [] => true
  | u :: us, w :: ws => f u w && all2 f us ws
  | _, _ => false
def entB (K : PySem.W.Frag) : List DictEntry → List (Str × W) → Bool
  | [], [] => true
  | e :: es, (k, w) :: r => (match e.key with
    | .str x _ => decide (x = k)
    | _ => false) && (cstB K 6 e.val w && entB K es r)
  | _, _ => false
def dicB (K : PySem.W.Frag) (a : Addr) (kvs : List (Str × W)) : Bool := match K.lookup a with
  | some ⟨_, _, .dict es _, _⟩ => entB K es.toList kvs
  | _ => false
def cstAt (K : PySem.W.Frag) (p : Str × W) : Bool := match PySem.W.nsIn K mainGlobals p.1 with
  | some (some u) => match p.2 with
    | .dic kvs => match u with
      | .ref a => decide (a = He.ga K p.1) && dicB K a kvs
      | _ => false
    | w => cstB K 6 u w
  | _ => false
def cstsB (cs : List (Str × W)) (K : PySem.W.Frag) : Bool := cs.all (cstAt K)
/-- the dicts' keys -/
def tabsOf (cs : List (Str × W)) : List He.Tab := cs.filterMap fun p => match p.2 with
  | .dic kvs => some (fun K => He.ga K p.1, kvs.map fun q => q.1)
  | _ => none
def dtD (d : Df) (st : Stmt) : He.DefD := ⟨(d.nm, none), d.nm, d.nm, defArgs st, defBody st, defScope st, [], []⟩
/-- all that the head is asked about -/
def faOf (ds : List Df) : List He.Fa := ds.map (fun d => He.Fa.glo d.nm) ++ frees.map He.Fa.free
def fnOf2 (l : List (Df × Stmt)) : List He.DefD := l.map fun p => dtD p.1 p.2
end Ev

namespace K13
open PySem Ev
/-- is_integer -/
def b0 : Ss :=
 (.cons (.ret (.bop .And (.cons (.isi (.name "value" 0 ⟨25, 22, 25, 27⟩) .int ⟨25, 11, 25, 21⟩ ⟨25, 29, 25, 32⟩ ⟨25, 11, 25, 33⟩) (.cons (.notV (.isi (.name "value" 0 ⟨25, 54, 25, 59⟩) .bl ⟨25, 43, 25, 53⟩ ⟨25, 61, 25, 65⟩ ⟨25, 43, 25, 66⟩) ⟨25, 39, 25, 66⟩) .nil)) ⟨25, 11, 25, 67⟩) ⟨25, 4, 25, 67⟩)
 .nil)
/-- is_count -/
def b1 : Ss :=
 (.cons (.ret (.bop .And (.cons (.call 0 "is_integer" ⟨27, 11, 27, 21⟩ (.cons (.name "value" 0 ⟨27, 22, 27, 27⟩) .nil) ⟨27, 11, 27, 28⟩) (.cons (.cmp .ge (.name "value" 0 ⟨27, 33, 27, 38⟩) (.int 0 0 ⟨27, 42, 27, 43⟩) ⟨27, 33, 27, 43⟩) .nil)) ⟨27, 11, 27, 43⟩) ⟨27, 4, 27, 43⟩)
 .nil)
/-- is_list -/
def b2 : Ss :=
 (.cons (.ret (.isiT (.name "value" 0 ⟨29, 22, 29, 27⟩) .lst ⟨29, 30, 29, 34⟩ .tup ⟨29, 36, 29, 41⟩ 0 ⟨29, 11, 29, 21⟩ ⟨29, 29, 29, 42⟩ ⟨29, 11, 29, 43⟩) ⟨29, 4, 29, 43⟩)
 .nil)
/-- want_at_most -/
def b3 : Ss :=
 (.cons (.ite (.cmp .gt (.name "number" 2 ⟨31, 7, 31, 13⟩) (.name "limit" 1 ⟨31, 16, 31, 21⟩) ⟨31, 7, 31, 21⟩) (.cons (.opq (stAt (bodyOf PySem.Challenge.pw_selfprint_k13_whole_kinds_and_letters_pu.main.body "want_at_most") 0 [0]))
 .nil) .nil ⟨31, 4, 32, 34⟩)
 .nil)
/-- is_leaf -/
def b4 : Ss :=
 (.cons (.ite (.bop .Or (.cons (.not (.tr (.isi (.name "value" 0 ⟨43, 22, 43, 27⟩) .tup ⟨43, 11, 43, 21⟩ ⟨43, 29, 43, 34⟩ ⟨43, 11, 43, 35⟩)) ⟨43, 7, 43, 35⟩) (.cons (.cmp .eq (.blt .len ⟨43, 39, 43, 42⟩ (.cons (.name "value" 0 ⟨43, 43, 43, 48⟩) .nil) ⟨43, 39, 43, 49⟩) (.int 0 0 ⟨43, 53, 43, 54⟩) ⟨43, 39, 43, 54⟩) .nil)) ⟨43, 7, 43, 54⟩) (.cons (.ret (.bl false 0 ⟨44, 15, 44, 20⟩) ⟨44, 8, 44, 20⟩)
 .nil) .nil ⟨43, 4, 44, 20⟩)
 (.cons (.ite (.cmp .eq (.blt .len ⟨45, 7, 45, 10⟩ (.cons (.name "value" 0 ⟨45, 11, 45, 16⟩) .nil) ⟨45, 7, 45, 17⟩) (.int 1 0 ⟨45, 21, 45, 22⟩) ⟨45, 7, 45, 22⟩) (.cons (.ret (.bop .And (.cons (.isi (.sub (.name "value" 0 ⟨46, 26, 46, 31⟩) (.int 0 0 ⟨46, 32, 46, 33⟩) ⟨46, 26, 46, 34⟩) .str ⟨46, 15, 46, 25⟩ ⟨46, 36, 46, 39⟩ ⟨46, 15, 46, 40⟩) (.cons (.cmp .eq (.sub (.name "value" 0 ⟨46, 45, 46, 50⟩) (.int 0 0 ⟨46, 51, 46, 52⟩) ⟨46, 45, 46, 53⟩) (.cst "TELLING" ⟨46, 57, 46, 64⟩) ⟨46, 45, 46, 64⟩) .nil)) ⟨46, 15, 46, 64⟩) ⟨46, 8, 46, 64⟩)
 .nil) .nil ⟨45, 4, 46, 64⟩)
 (.cons (.ret (.bop .And (.cons (.cmp .eq (.blt .len ⟨47, 11, 47, 14⟩ (.cons (.name "value" 0 ⟨47, 15, 47, 20⟩) .nil) ⟨47, 11, 47, 21⟩) (.int 2 0 ⟨47, 25, 47, 26⟩) ⟨47, 11, 47, 26⟩) (.cons (.call 5 "is_letter_word" ⟨47, 31, 47, 45⟩ (.cons (.sub (.name "value" 0 ⟨47, 46, 47, 51⟩) (.int 0 0 ⟨47, 52, 47, 53⟩) ⟨47, 46, 47, 54⟩) .nil) ⟨47, 31, 47, 55⟩) (.cons (.call 6 "is_letter" ⟨47, 60, 47, 69⟩ (.cons (.sub (.name "value" 0 ⟨47, 70, 47, 75⟩) (.int 1 0 ⟨47, 76, 47, 77⟩) ⟨47, 70, 47, 78⟩) .nil) ⟨47, 60, 47, 79⟩) .nil))) ⟨47, 11, 47, 79⟩) ⟨47, 4, 47, 79⟩)
 .nil)))
/-- is_letter_word -/
def b5 : Ss :=
 (.cons (.ret (.bop .And (.cons (.isi (.name "value" 0 ⟨49, 22, 49, 27⟩) .str ⟨49, 11, 49, 21⟩ ⟨49, 29, 49, 32⟩ ⟨49, 11, 49, 33⟩) (.cons (.cmp .eq (.name "value" 0 ⟨49, 38, 49, 43⟩) (.cst "LETTER" ⟨49, 47, 49, 53⟩) ⟨49, 38, 49, 53⟩) .nil)) ⟨49, 11, 49, 53⟩) ⟨49, 4, 49, 53⟩)
 .nil)
/-- is_letter -/
def b6 : Ss :=
 (.cons (.ret (.bop .And (.cons (.call 1 "is_count" ⟨51, 11, 51, 19⟩ (.cons (.name "value" 0 ⟨51, 20, 51, 25⟩) .nil) ⟨51, 11, 51, 26⟩) (.cons (.cmp .le (.name "value" 0 ⟨51, 31, 51, 36⟩) (.cst "MOST_LETTER" ⟨51, 40, 51, 51⟩) ⟨51, 31, 51, 51⟩) .nil)) ⟨51, 11, 51, 51⟩) ⟨51, 4, 51, 51⟩)
 .nil)
/-- is_branch -/
def b7 : Ss :=
 (.cons (.ite (.bop .Or (.cons (.not (.tr (.isi (.name "value" 0 ⟨53, 22, 53, 27⟩) .tup ⟨53, 11, 53, 21⟩ ⟨53, 29, 53, 34⟩ ⟨53, 11, 53, 35⟩)) ⟨53, 7, 53, 35⟩) (.cons (.cmp .ne (.blt .len ⟨53, 39, 53, 42⟩ (.cons (.name "value" 0 ⟨53, 43, 53, 48⟩) .nil) ⟨53, 39, 53, 49⟩) (.int 3 0 ⟨53, 53, 53, 54⟩) ⟨53, 39, 53, 54⟩) .nil)) ⟨53, 7, 53, 54⟩) (.cons (.ret (.bl false 0 ⟨54, 15, 54, 20⟩) ⟨54, 8, 54, 20⟩)
 .nil) .nil ⟨53, 4, 54, 20⟩)
 (.cons (.ret (.bop .And (.cons (.isi (.sub (.name "value" 0 ⟨55, 22, 55, 27⟩) (.int 0 0 ⟨55, 28, 55, 29⟩) ⟨55, 22, 55, 30⟩) .str ⟨55, 11, 55, 21⟩ ⟨55, 32, 55, 35⟩ ⟨55, 11, 55, 36⟩) (.cons (.cmp .isin (.sub (.name "value" 0 ⟨55, 41, 55, 46⟩) (.int 0 0 ⟨55, 47, 55, 48⟩) ⟨55, 41, 55, 49⟩) (.tup (.cons (.cst "PAIR" ⟨55, 54, 55, 58⟩) (.cons (.cst "SUM" ⟨55, 60, 55, 63⟩) (.cons (.cst "FUN" ⟨55, 65, 55, 68⟩) .nil))) 0 ⟨55, 53, 55, 69⟩) ⟨55, 41, 55, 69⟩) .nil)) ⟨55, 11, 55, 69⟩) ⟨55, 4, 55, 69⟩)
 .nil))
/-- is_kind -/
def b8 : Ss :=
 (.cons (.par true false "left" 1 ⟨57, 4, 57, 8⟩ "signs" 2 ⟨57, 10, 57, 15⟩ 0 ⟨57, 4, 57, 15⟩ (.lst (.cons (.tup (.cons (.name "value" 0 ⟨57, 21, 57, 26⟩) (.cons (.int 1 0 ⟨57, 28, 57, 29⟩) .nil)) 0 ⟨57, 20, 57, 30⟩) .nil) ⟨57, 19, 57, 31⟩) (.int 0 0 ⟨57, 33, 57, 34⟩) 0 ⟨57, 18, 57, 35⟩ ⟨57, 4, 57, 35⟩)
 (.cons (.whl (.cmp .gt (.blt .len ⟨58, 10, 58, 13⟩ (.cons (.peek "left" 1 ⟨58, 14, 58, 18⟩) .nil) ⟨58, 10, 58, 19⟩) (.int 0 0 ⟨58, 22, 58, 23⟩) ⟨58, 10, 58, 23⟩) (.cons (.pop (.tup (.cons (.name "one" 3 ⟨59, 8, 59, 11⟩) (.cons (.name "deep" 4 ⟨59, 13, 59, 17⟩) .nil)) 0 ⟨59, 8, 59, 17⟩) "left" 1 ⟨59, 20, 59, 24⟩ ⟨59, 20, 59, 28⟩ ⟨59, 20, 59, 30⟩ ⟨59, 8, 59, 30⟩)
 (.cons (.asg "signs" 2 ⟨60, 8, 60, 13⟩ (.bin .add (.name "signs" 2 ⟨60, 16, 60, 21⟩) (.int 1 0 ⟨60, 24, 60, 25⟩) ⟨60, 16, 60, 25⟩) ⟨60, 8, 60, 25⟩)
 (.cons (.ite (.bop .Or (.cons (.cmp .gt (.name "signs" 2 ⟨61, 11, 61, 16⟩) (.cst "MOST_SIGNS" ⟨61, 19, 61, 29⟩) ⟨61, 11, 61, 29⟩) (.cons (.cmp .gt (.name "deep" 4 ⟨61, 33, 61, 37⟩) (.cst "MOST_DEEP" ⟨61, 40, 61, 49⟩) ⟨61, 33, 61, 49⟩) .nil)) ⟨61, 11, 61, 49⟩) (.cons (.ret (.bl false 0 ⟨62, 19, 62, 24⟩) ⟨62, 12, 62, 24⟩)
 .nil) .nil ⟨61, 8, 62, 24⟩)
 (.cons (.ite (.tr (.call 7 "is_branch" ⟨63, 11, 63, 20⟩ (.cons (.name "one" 3 ⟨63, 21, 63, 24⟩) .nil) ⟨63, 11, 63, 25⟩)) (.cons (.ext "left" 1 ⟨64, 12, 64, 16⟩ ⟨64, 12, 64, 23⟩ (.lst (.cons (.tup (.cons (.sub (.name "one" 3 ⟨64, 26, 64, 29⟩) (.int 1 0 ⟨64, 30, 64, 31⟩) ⟨64, 26, 64, 32⟩) (.cons (.bin .add (.name "deep" 4 ⟨64, 34, 64, 38⟩) (.int 1 0 ⟨64, 41, 64, 42⟩) ⟨64, 34, 64, 42⟩) .nil)) 0 ⟨64, 25, 64, 43⟩) (.cons (.tup (.cons (.sub (.name "one" 3 ⟨64, 46, 64, 49⟩) (.int 2 0 ⟨64, 50, 64, 51⟩) ⟨64, 46, 64, 52⟩) (.cons (.bin .add (.name "deep" 4 ⟨64, 54, 64, 58⟩) (.int 1 0 ⟨64, 61, 64, 62⟩) ⟨64, 54, 64, 62⟩) .nil)) 0 ⟨64, 45, 64, 63⟩) .nil)) ⟨64, 24, 64, 64⟩) ⟨64, 12, 64, 65⟩ ⟨64, 12, 64, 65⟩)
 .nil) (.cons (.ite (.not (.tr (.call 4 "is_leaf" ⟨65, 17, 65, 24⟩ (.cons (.name "one" 3 ⟨65, 25, 65, 28⟩) .nil) ⟨65, 17, 65, 29⟩)) ⟨65, 13, 65, 29⟩) (.cons (.ret (.bl false 0 ⟨66, 19, 66, 24⟩) ⟨66, 12, 66, 24⟩)
 .nil) .nil ⟨65, 8, 66, 24⟩)
 .nil) ⟨63, 8, 66, 24⟩)
 .nil)))) ⟨58, 4, 66, 24⟩)
 (.cons (.ret (.bl true 0 ⟨67, 11, 67, 15⟩) ⟨67, 4, 67, 15⟩)
 .nil)))
/-- want_kind -/
def b9 : Ss :=
 (.cons (.ite (.not (.tr (.call 8 "is_kind" ⟨69, 11, 69, 18⟩ (.cons (.name "value" 0 ⟨69, 19, 69, 24⟩) .nil) ⟨69, 11, 69, 25⟩)) ⟨69, 7, 69, 25⟩) (.cons (.opq (stAt (bodyOf PySem.Challenge.pw_selfprint_k13_whole_kinds_and_letters_pu.main.body "want_kind") 0 [0]))
 .nil) .nil ⟨69, 4, 70, 32⟩)
 .nil)
/-- want_letter -/
def b10 : Ss :=
 (.cons (.ite (.not (.tr (.call 6 "is_letter" ⟨72, 11, 72, 20⟩ (.cons (.name "value" 0 ⟨72, 21, 72, 26⟩) .nil) ⟨72, 11, 72, 27⟩)) ⟨72, 7, 72, 27⟩) (.cons (.opq (stAt (bodyOf PySem.Challenge.pw_selfprint_k13_whole_kinds_and_letters_pu.main.body "want_letter") 0 [0]))
 .nil) .nil ⟨72, 4, 73, 34⟩)
 .nil)
/-- shown_kind -/
def b11 : Ss :=
 (.cons (.ite (.cmp .eq (.sub (.name "kind" 0 ⟨75, 7, 75, 11⟩) (.int 0 0 ⟨75, 12, 75, 13⟩) ⟨75, 7, 75, 14⟩) (.cst "FUN" ⟨75, 18, 75, 21⟩) ⟨75, 7, 75, 21⟩) (.cons (.ret (.bop .And (.cons (.call 12 "met_kind" ⟨76, 15, 76, 23⟩ (.cons (.sub (.name "kind" 0 ⟨76, 24, 76, 28⟩) (.int 1 0 ⟨76, 29, 76, 30⟩) ⟨76, 24, 76, 31⟩) .nil) ⟨76, 15, 76, 32⟩) (.cons (.call 11 "shown_kind" ⟨76, 37, 76, 47⟩ (.cons (.sub (.name "kind" 0 ⟨76, 48, 76, 52⟩) (.int 2 0 ⟨76, 53, 76, 54⟩) ⟨76, 48, 76, 55⟩) .nil) ⟨76, 37, 76, 56⟩) .nil)) ⟨76, 15, 76, 56⟩) ⟨76, 8, 76, 56⟩)
 .nil) .nil ⟨75, 4, 76, 56⟩)
 (.cons (.ret (.bop .Or (.cons (.cmp .isin (.sub (.name "kind" 0 ⟨77, 11, 77, 15⟩) (.int 0 0 ⟨77, 16, 77, 17⟩) ⟨77, 11, 77, 18⟩) (.tup (.cons (.cst "LETTER" ⟨77, 23, 77, 29⟩) (.cons (.cst "TELLING" ⟨77, 31, 77, 38⟩) .nil)) 0 ⟨77, 22, 77, 39⟩) ⟨77, 11, 77, 39⟩) (.cons (.bop .And (.cons (.call 11 "shown_kind" ⟨77, 44, 77, 54⟩ (.cons (.sub (.name "kind" 0 ⟨77, 55, 77, 59⟩) (.int 1 0 ⟨77, 60, 77, 61⟩) ⟨77, 55, 77, 62⟩) .nil) ⟨77, 44, 77, 63⟩) (.cons (.call 11 "shown_kind" ⟨77, 68, 77, 78⟩ (.cons (.sub (.name "kind" 0 ⟨77, 79, 77, 83⟩) (.int 2 0 ⟨77, 84, 77, 85⟩) ⟨77, 79, 77, 86⟩) .nil) ⟨77, 68, 77, 87⟩) .nil)) ⟨77, 44, 77, 87⟩) .nil)) ⟨77, 11, 77, 88⟩) ⟨77, 4, 77, 88⟩)
 .nil))
/-- met_kind -/
def b12 : Ss :=
 (.cons (.ite (.cmp .eq (.sub (.name "kind" 0 ⟨79, 7, 79, 11⟩) (.int 0 0 ⟨79, 12, 79, 13⟩) ⟨79, 7, 79, 14⟩) (.cst "FUN" ⟨79, 18, 79, 21⟩) ⟨79, 7, 79, 21⟩) (.cons (.ret (.bop .And (.cons (.call 11 "shown_kind" ⟨80, 15, 80, 25⟩ (.cons (.sub (.name "kind" 0 ⟨80, 26, 80, 30⟩) (.int 1 0 ⟨80, 31, 80, 32⟩) ⟨80, 26, 80, 33⟩) .nil) ⟨80, 15, 80, 34⟩) (.cons (.call 12 "met_kind" ⟨80, 39, 80, 47⟩ (.cons (.sub (.name "kind" 0 ⟨80, 48, 80, 52⟩) (.int 2 0 ⟨80, 53, 80, 54⟩) ⟨80, 48, 80, 55⟩) .nil) ⟨80, 39, 80, 56⟩) .nil)) ⟨80, 15, 80, 56⟩) ⟨80, 8, 80, 56⟩)
 .nil) .nil ⟨79, 4, 80, 56⟩)
 (.cons (.ite (.cmp .eq (.sub (.name "kind" 0 ⟨81, 7, 81, 11⟩) (.int 0 0 ⟨81, 12, 81, 13⟩) ⟨81, 7, 81, 14⟩) (.cst "PAIR" ⟨81, 18, 81, 22⟩) ⟨81, 7, 81, 22⟩) (.cons (.ret (.bop .And (.cons (.call 12 "met_kind" ⟨82, 15, 82, 23⟩ (.cons (.sub (.name "kind" 0 ⟨82, 24, 82, 28⟩) (.int 1 0 ⟨82, 29, 82, 30⟩) ⟨82, 24, 82, 31⟩) .nil) ⟨82, 15, 82, 32⟩) (.cons (.call 12 "met_kind" ⟨82, 37, 82, 45⟩ (.cons (.sub (.name "kind" 0 ⟨82, 46, 82, 50⟩) (.int 2 0 ⟨82, 51, 82, 52⟩) ⟨82, 46, 82, 53⟩) .nil) ⟨82, 37, 82, 54⟩) .nil)) ⟨82, 15, 82, 54⟩) ⟨82, 8, 82, 54⟩)
 .nil) .nil ⟨81, 4, 82, 54⟩)
 (.cons (.ret (.cmp .eq (.sub (.name "kind" 0 ⟨83, 11, 83, 15⟩) (.int 0 0 ⟨83, 16, 83, 17⟩) ⟨83, 11, 83, 18⟩) (.cst "LETTER" ⟨83, 22, 83, 28⟩) ⟨83, 11, 83, 28⟩) ⟨83, 4, 83, 28⟩)
 .nil)))
/-- data_kind -/
def b13 : Ss :=
 (.cons (.ite (.cmp .isin (.sub (.name "kind" 0 ⟨85, 7, 85, 11⟩) (.int 0 0 ⟨85, 12, 85, 13⟩) ⟨85, 7, 85, 14⟩) (.tup (.cons (.cst "PAIR" ⟨85, 19, 85, 23⟩) (.cons (.cst "SUM" ⟨85, 25, 85, 28⟩) .nil)) 0 ⟨85, 18, 85, 29⟩) ⟨85, 7, 85, 29⟩) (.cons (.ret (.bop .And (.cons (.call 13 "data_kind" ⟨86, 15, 86, 24⟩ (.cons (.sub (.name "kind" 0 ⟨86, 25, 86, 29⟩) (.int 1 0 ⟨86, 30, 86, 31⟩) ⟨86, 25, 86, 32⟩) .nil) ⟨86, 15, 86, 33⟩) (.cons (.call 13 "data_kind" ⟨86, 38, 86, 47⟩ (.cons (.sub (.name "kind" 0 ⟨86, 48, 86, 52⟩) (.int 2 0 ⟨86, 53, 86, 54⟩) ⟨86, 48, 86, 55⟩) .nil) ⟨86, 38, 86, 56⟩) .nil)) ⟨86, 15, 86, 56⟩) ⟨86, 8, 86, 56⟩)
 .nil) .nil ⟨85, 4, 86, 56⟩)
 (.cons (.ret (.cmp .eq (.sub (.name "kind" 0 ⟨87, 11, 87, 15⟩) (.int 0 0 ⟨87, 16, 87, 17⟩) ⟨87, 11, 87, 18⟩) (.cst "TELLING" ⟨87, 22, 87, 29⟩) ⟨87, 11, 87, 29⟩) ⟨87, 4, 87, 29⟩)
 .nil))
/-- signs_of -/
def b14 : Ss :=
 (.cons (.ret (.ife (.cmp .eq (.blt .len ⟨89, 56, 89, 59⟩ (.cons (.name "kind" 0 ⟨89, 60, 89, 64⟩) .nil) ⟨89, 56, 89, 65⟩) (.int 3 0 ⟨89, 69, 89, 70⟩) ⟨89, 56, 89, 70⟩) (.bin .add (.bin .add (.int 1 0 ⟨89, 11, 89, 12⟩) (.call 14 "signs_of" ⟨89, 15, 89, 23⟩ (.cons (.sub (.name "kind" 0 ⟨89, 24, 89, 28⟩) (.int 1 0 ⟨89, 29, 89, 30⟩) ⟨89, 24, 89, 31⟩) .nil) ⟨89, 15, 89, 32⟩) ⟨89, 11, 89, 32⟩) (.call 14 "signs_of" ⟨89, 35, 89, 43⟩ (.cons (.sub (.name "kind" 0 ⟨89, 44, 89, 48⟩) (.int 2 0 ⟨89, 49, 89, 50⟩) ⟨89, 44, 89, 51⟩) .nil) ⟨89, 35, 89, 52⟩) ⟨89, 11, 89, 52⟩) (.int 1 0 ⟨89, 76, 89, 77⟩) ⟨89, 11, 89, 77⟩) ⟨89, 4, 89, 77⟩)
 .nil)
/-- depth_of -/
def b15 : Ss :=
 (.cons (.ret (.ife (.cmp .eq (.blt .len ⟨91, 60, 91, 63⟩ (.cons (.name "kind" 0 ⟨91, 64, 91, 68⟩) .nil) ⟨91, 60, 91, 69⟩) (.int 3 0 ⟨91, 73, 91, 74⟩) ⟨91, 60, 91, 74⟩) (.bin .add (.int 1 0 ⟨91, 11, 91, 12⟩) (.blt .max ⟨91, 15, 91, 18⟩ (.cons (.call 15 "depth_of" ⟨91, 19, 91, 27⟩ (.cons (.sub (.name "kind" 0 ⟨91, 28, 91, 32⟩) (.int 1 0 ⟨91, 33, 91, 34⟩) ⟨91, 28, 91, 35⟩) .nil) ⟨91, 19, 91, 36⟩) (.cons (.call 15 "depth_of" ⟨91, 38, 91, 46⟩ (.cons (.sub (.name "kind" 0 ⟨91, 47, 91, 51⟩) (.int 2 0 ⟨91, 52, 91, 53⟩) ⟨91, 47, 91, 54⟩) .nil) ⟨91, 38, 91, 55⟩) .nil)) ⟨91, 15, 91, 56⟩) ⟨91, 11, 91, 56⟩) (.int 1 0 ⟨91, 80, 91, 81⟩) ⟨91, 11, 91, 81⟩) ⟨91, 4, 91, 81⟩)
 .nil)
/-- letters_in -/
def b16 : Ss :=
 (.cons (.ite (.cmp .eq (.blt .len ⟨93, 7, 93, 10⟩ (.cons (.name "kind" 0 ⟨93, 11, 93, 15⟩) .nil) ⟨93, 7, 93, 16⟩) (.int 3 0 ⟨93, 20, 93, 21⟩) ⟨93, 7, 93, 21⟩) (.cons (.ret (.bin .add (.call 16 "letters_in" ⟨94, 15, 94, 25⟩ (.cons (.sub (.name "kind" 0 ⟨94, 26, 94, 30⟩) (.int 1 0 ⟨94, 31, 94, 32⟩) ⟨94, 26, 94, 33⟩) .nil) ⟨94, 15, 94, 34⟩) (.call 16 "letters_in" ⟨94, 37, 94, 47⟩ (.cons (.sub (.name "kind" 0 ⟨94, 48, 94, 52⟩) (.int 2 0 ⟨94, 53, 94, 54⟩) ⟨94, 48, 94, 55⟩) .nil) ⟨94, 37, 94, 56⟩) ⟨94, 15, 94, 56⟩) ⟨94, 8, 94, 56⟩)
 .nil) .nil ⟨93, 4, 94, 56⟩)
 (.cons (.ret (.ife (.cmp .eq (.sub (.name "kind" 0 ⟨95, 24, 95, 28⟩) (.int 0 0 ⟨95, 29, 95, 30⟩) ⟨95, 24, 95, 31⟩) (.cst "LETTER" ⟨95, 35, 95, 41⟩) ⟨95, 24, 95, 41⟩) (.lst (.cons (.sub (.name "kind" 0 ⟨95, 12, 95, 16⟩) (.int 1 0 ⟨95, 17, 95, 18⟩) ⟨95, 12, 95, 19⟩) .nil) ⟨95, 11, 95, 20⟩) (.lst .nil ⟨95, 47, 95, 49⟩) ⟨95, 11, 95, 49⟩) ⟨95, 4, 95, 49⟩)
 .nil))
/-- put_letter -/
def b17 : Ss :=
 (.cons (.ite (.cmp .eq (.blt .len ⟨97, 7, 97, 10⟩ (.cons (.name "kind" 0 ⟨97, 11, 97, 15⟩) .nil) ⟨97, 7, 97, 16⟩) (.int 3 0 ⟨97, 20, 97, 21⟩) ⟨97, 7, 97, 21⟩) (.cons (.ret (.tup (.cons (.sub (.name "kind" 0 ⟨98, 16, 98, 20⟩) (.int 0 0 ⟨98, 21, 98, 22⟩) ⟨98, 16, 98, 23⟩) (.cons (.call 17 "put_letter" ⟨98, 25, 98, 35⟩ (.cons (.sub (.name "kind" 0 ⟨98, 36, 98, 40⟩) (.int 1 0 ⟨98, 41, 98, 42⟩) ⟨98, 36, 98, 43⟩) (.cons (.name "letter" 1 ⟨98, 45, 98, 51⟩) (.cons (.name "other" 2 ⟨98, 53, 98, 58⟩) .nil))) ⟨98, 25, 98, 59⟩) (.cons (.call 17 "put_letter" ⟨98, 61, 98, 71⟩ (.cons (.sub (.name "kind" 0 ⟨98, 72, 98, 76⟩) (.int 2 0 ⟨98, 77, 98, 78⟩) ⟨98, 72, 98, 79⟩) (.cons (.name "letter" 1 ⟨98, 81, 98, 87⟩) (.cons (.name "other" 2 ⟨98, 89, 98, 94⟩) .nil))) ⟨98, 61, 98, 95⟩) .nil))) 0 ⟨98, 15, 98, 96⟩) ⟨98, 8, 98, 96⟩)
 .nil) .nil ⟨97, 4, 98, 96⟩)
 (.cons (.ret (.ife (.cmp .eq (.name "kind" 0 ⟨99, 20, 99, 24⟩) (.tup (.cons (.cst "LETTER" ⟨99, 29, 99, 35⟩) (.cons (.name "letter" 1 ⟨99, 37, 99, 43⟩) .nil)) 0 ⟨99, 28, 99, 44⟩) ⟨99, 20, 99, 44⟩) (.name "other" 2 ⟨99, 11, 99, 16⟩) (.name "kind" 0 ⟨99, 50, 99, 54⟩) ⟨99, 11, 99, 54⟩) ⟨99, 4, 99, 54⟩)
 .nil))
/-- put_letter_told -/
def b18 : Ss :=
 (.cons (.asg "times" 3 ⟨101, 4, 101, 9⟩ (.blt .len ⟨101, 12, 101, 15⟩ (.cons (.lc (.name "one" 5 ⟨101, 17, 101, 20⟩) (.name "one" 5 ⟨101, 25, 101, 28⟩) (.seq (.call 16 "letters_in" ⟨101, 32, 101, 42⟩ (.cons (.name "kind" 0 ⟨101, 43, 101, 47⟩) .nil) ⟨101, 32, 101, 48⟩)) (.some (.cmp .eq (.name "one" 5 ⟨101, 52, 101, 55⟩) (.name "letter" 1 ⟨101, 59, 101, 65⟩) ⟨101, 52, 101, 65⟩)) [("one", 5)] ⟨.function, [(".0", .local), ("one", .local), ("letter", .free)], false, false, []⟩ ⟨101, 16, 101, 66⟩) .nil) ⟨101, 12, 101, 67⟩) ⟨101, 4, 101, 67⟩)
 (.cons (.expr (.call 3 "want_at_most" ⟨102, 4, 102, 16⟩ (.cons (.str "signs" 0 ⟨102, 17, 102, 24⟩) (.cons (.cst "MOST_SIGNS" ⟨102, 26, 102, 36⟩) (.cons (.bin .add (.call 14 "signs_of" ⟨102, 38, 102, 46⟩ (.cons (.name "kind" 0 ⟨102, 47, 102, 51⟩) .nil) ⟨102, 38, 102, 52⟩) (.bin .mul (.name "times" 3 ⟨102, 55, 102, 60⟩) (.bin .sub (.call 14 "signs_of" ⟨102, 64, 102, 72⟩ (.cons (.name "other" 2 ⟨102, 73, 102, 78⟩) .nil) ⟨102, 64, 102, 79⟩) (.int 1 0 ⟨102, 82, 102, 83⟩) ⟨102, 64, 102, 83⟩) ⟨102, 55, 102, 84⟩) ⟨102, 38, 102, 84⟩) .nil))) ⟨102, 4, 102, 85⟩) ⟨102, 4, 102, 85⟩)
 (.cons (.asg "found" 4 ⟨103, 4, 103, 9⟩ (.call 17 "put_letter" ⟨103, 12, 103, 22⟩ (.cons (.name "kind" 0 ⟨103, 23, 103, 27⟩) (.cons (.name "letter" 1 ⟨103, 29, 103, 35⟩) (.cons (.name "other" 2 ⟨103, 37, 103, 42⟩) .nil))) ⟨103, 12, 103, 43⟩) ⟨103, 4, 103, 43⟩)
 (.cons (.expr (.call 3 "want_at_most" ⟨104, 4, 104, 16⟩ (.cons (.str "depth" 0 ⟨104, 17, 104, 24⟩) (.cons (.cst "MOST_DEEP" ⟨104, 26, 104, 35⟩) (.cons (.call 15 "depth_of" ⟨104, 37, 104, 45⟩ (.cons (.name "found" 4 ⟨104, 46, 104, 51⟩) .nil) ⟨104, 37, 104, 52⟩) .nil))) ⟨104, 4, 104, 53⟩) ⟨104, 4, 104, 53⟩)
 (.cons (.ret (.name "found" 4 ⟨105, 11, 105, 16⟩) ⟨105, 4, 105, 16⟩)
 .nil)))))
/-- is_shown -/
def b19 : Ss :=
 (.cons (.expr (.call 9 "want_kind" ⟨107, 4, 107, 13⟩ (.cons (.name "kind" 0 ⟨107, 14, 107, 18⟩) .nil) ⟨107, 4, 107, 19⟩) ⟨107, 4, 107, 19⟩)
 (.cons (.ret (.call 11 "shown_kind" ⟨108, 11, 108, 21⟩ (.cons (.name "kind" 0 ⟨108, 22, 108, 26⟩) .nil) ⟨108, 11, 108, 27⟩) ⟨108, 4, 108, 27⟩)
 .nil))
/-- is_met -/
def b20 : Ss :=
 (.cons (.expr (.call 9 "want_kind" ⟨110, 4, 110, 13⟩ (.cons (.name "kind" 0 ⟨110, 14, 110, 18⟩) .nil) ⟨110, 4, 110, 19⟩) ⟨110, 4, 110, 19⟩)
 (.cons (.ret (.call 12 "met_kind" ⟨111, 11, 111, 19⟩ (.cons (.name "kind" 0 ⟨111, 20, 111, 24⟩) .nil) ⟨111, 11, 111, 25⟩) ⟨111, 4, 111, 25⟩)
 .nil))
/-- is_data -/
def b21 : Ss :=
 (.cons (.expr (.call 9 "want_kind" ⟨113, 4, 113, 13⟩ (.cons (.name "kind" 0 ⟨113, 14, 113, 18⟩) .nil) ⟨113, 4, 113, 19⟩) ⟨113, 4, 113, 19⟩)
 (.cons (.ret (.call 13 "data_kind" ⟨114, 11, 114, 20⟩ (.cons (.name "kind" 0 ⟨114, 21, 114, 25⟩) .nil) ⟨114, 11, 114, 26⟩) ⟨114, 4, 114, 26⟩)
 .nil))
/-- kind_size -/
def b22 : Ss :=
 (.cons (.expr (.call 9 "want_kind" ⟨116, 4, 116, 13⟩ (.cons (.name "kind" 0 ⟨116, 14, 116, 18⟩) .nil) ⟨116, 4, 116, 19⟩) ⟨116, 4, 116, 19⟩)
 (.cons (.ret (.call 14 "signs_of" ⟨117, 11, 117, 19⟩ (.cons (.name "kind" 0 ⟨117, 20, 117, 24⟩) .nil) ⟨117, 11, 117, 25⟩) ⟨117, 4, 117, 25⟩)
 .nil))
/-- letters -/
def b23 : Ss :=
 (.cons (.expr (.call 9 "want_kind" ⟨119, 4, 119, 13⟩ (.cons (.name "kind" 0 ⟨119, 14, 119, 18⟩) .nil) ⟨119, 4, 119, 19⟩) ⟨119, 4, 119, 19⟩)
 (.cons (.ret (.srt (.call 16 "letters_in" ⟨120, 22, 120, 32⟩ (.cons (.name "kind" 0 ⟨120, 33, 120, 37⟩) .nil) ⟨120, 22, 120, 38⟩) ⟨120, 11, 120, 17⟩ ⟨120, 18, 120, 21⟩ ⟨120, 18, 120, 39⟩ ⟨120, 11, 120, 40⟩) ⟨120, 4, 120, 40⟩)
 .nil))
/-- put_kind -/
def b24 : Ss :=
 (.cons (.expr (.call 9 "want_kind" ⟨122, 4, 122, 13⟩ (.cons (.name "kind" 0 ⟨122, 14, 122, 18⟩) .nil) ⟨122, 4, 122, 19⟩) ⟨122, 4, 122, 19⟩)
 (.cons (.expr (.call 10 "want_letter" ⟨123, 4, 123, 15⟩ (.cons (.name "letter" 1 ⟨123, 16, 123, 22⟩) .nil) ⟨123, 4, 123, 23⟩) ⟨123, 4, 123, 23⟩)
 (.cons (.expr (.call 9 "want_kind" ⟨124, 4, 124, 13⟩ (.cons (.name "other" 2 ⟨124, 14, 124, 19⟩) .nil) ⟨124, 4, 124, 20⟩) ⟨124, 4, 124, 20⟩)
 (.cons (.ret (.call 18 "put_letter_told" ⟨125, 11, 125, 26⟩ (.cons (.name "kind" 0 ⟨125, 27, 125, 31⟩) (.cons (.name "letter" 1 ⟨125, 33, 125, 39⟩) (.cons (.name "other" 2 ⟨125, 41, 125, 46⟩) .nil))) ⟨125, 11, 125, 47⟩) ⟨125, 4, 125, 47⟩)
 .nil))))
/-- is_node -/
def b25 : Ss :=
 (.cons (.ite (.bop .Or (.cons (.not (.tr (.isi (.name "value" 0 ⟨135, 22, 135, 27⟩) .tup ⟨135, 11, 135, 21⟩ ⟨135, 29, 135, 34⟩ ⟨135, 11, 135, 35⟩)) ⟨135, 7, 135, 35⟩) (.cons (.cmp .eq (.blt .len ⟨135, 39, 135, 42⟩ (.cons (.name "value" 0 ⟨135, 43, 135, 48⟩) .nil) ⟨135, 39, 135, 49⟩) (.int 0 0 ⟨135, 53, 135, 54⟩) ⟨135, 39, 135, 54⟩) (.cons (.not (.tr (.isi (.sub (.name "value" 0 ⟨135, 74, 135, 79⟩) (.int 0 0 ⟨135, 80, 135, 81⟩) ⟨135, 74, 135, 82⟩) .str ⟨135, 63, 135, 73⟩ ⟨135, 84, 135, 87⟩ ⟨135, 63, 135, 88⟩)) ⟨135, 59, 135, 88⟩) (.cons (.din true (.sub (.name "value" 0 ⟨135, 94, 135, 99⟩) (.int 0 0 ⟨135, 100, 135, 101⟩) ⟨135, 94, 135, 102⟩) "BINDS" ⟨135, 110, 135, 115⟩ ⟨135, 94, 135, 115⟩) .nil)))) ⟨135, 7, 135, 116⟩) (.cons (.ret (.bl false 0 ⟨136, 15, 136, 20⟩) ⟨136, 8, 136, 20⟩)
 .nil) .nil ⟨135, 4, 136, 20⟩)
 (.cons (.ite (.cmp .isin (.sub (.name "value" 0 ⟨137, 7, 137, 12⟩) (.int 0 0 ⟨137, 13, 137, 14⟩) ⟨137, 7, 137, 15⟩) (.cst "WITH_KIND" ⟨137, 19, 137, 28⟩) ⟨137, 7, 137, 28⟩) (.cons (.ret (.bop .And (.cons (.cmp .eq (.blt .len ⟨138, 15, 138, 18⟩ (.cons (.name "value" 0 ⟨138, 19, 138, 24⟩) .nil) ⟨138, 15, 138, 25⟩) (.int 2 0 ⟨138, 29, 138, 30⟩) ⟨138, 15, 138, 30⟩) (.cons (.call 8 "is_kind" ⟨138, 35, 138, 42⟩ (.cons (.sub (.name "value" 0 ⟨138, 43, 138, 48⟩) (.int 1 0 ⟨138, 49, 138, 50⟩) ⟨138, 43, 138, 51⟩) .nil) ⟨138, 35, 138, 52⟩) .nil)) ⟨138, 15, 138, 52⟩) ⟨138, 8, 138, 52⟩)
 .nil) .nil ⟨137, 4, 138, 52⟩)
 (.cons (.ite (.cmp .eq (.sub (.name "value" 0 ⟨139, 7, 139, 12⟩) (.int 0 0 ⟨139, 13, 139, 14⟩) ⟨139, 7, 139, 15⟩) (.cst "NAME" ⟨139, 19, 139, 23⟩) ⟨139, 7, 139, 23⟩) (.cons (.ret (.bop .And (.cons (.cmp .eq (.blt .len ⟨140, 15, 140, 18⟩ (.cons (.name "value" 0 ⟨140, 19, 140, 24⟩) .nil) ⟨140, 15, 140, 25⟩) (.int 2 0 ⟨140, 29, 140, 30⟩) ⟨140, 15, 140, 30⟩) (.cons (.call 1 "is_count" ⟨140, 35, 140, 43⟩ (.cons (.sub (.name "value" 0 ⟨140, 44, 140, 49⟩) (.int 1 0 ⟨140, 50, 140, 51⟩) ⟨140, 44, 140, 52⟩) .nil) ⟨140, 35, 140, 53⟩) (.cons (.cmp .le (.sub (.name "value" 0 ⟨140, 59, 140, 64⟩) (.int 1 0 ⟨140, 65, 140, 66⟩) ⟨140, 59, 140, 67⟩) (.cst "MOST_OUT" ⟨140, 71, 140, 79⟩) ⟨140, 59, 140, 79⟩) .nil))) ⟨140, 15, 140, 80⟩) ⟨140, 8, 140, 80⟩)
 .nil) .nil ⟨139, 4, 140, 80⟩)
 (.cons (.ite (.cmp .eq (.sub (.name "value" 0 ⟨141, 7, 141, 12⟩) (.int 0 0 ⟨141, 13, 141, 14⟩) ⟨141, 7, 141, 15⟩) (.cst "TOLD" ⟨141, 19, 141, 23⟩) ⟨141, 7, 141, 23⟩) (.cons (.ret (.bop .And (.cons (.cmp .eq (.blt .len ⟨142, 15, 142, 18⟩ (.cons (.name "value" 0 ⟨142, 19, 142, 24⟩) .nil) ⟨142, 15, 142, 25⟩) (.int 2 0 ⟨142, 29, 142, 30⟩) ⟨142, 15, 142, 30⟩) (.cons (.call 1 "is_count" ⟨142, 35, 142, 43⟩ (.cons (.sub (.name "value" 0 ⟨142, 44, 142, 49⟩) (.int 1 0 ⟨142, 50, 142, 51⟩) ⟨142, 44, 142, 52⟩) .nil) ⟨142, 35, 142, 53⟩) (.cons (.cmp .le (.sub (.name "value" 0 ⟨142, 59, 142, 64⟩) (.int 1 0 ⟨142, 65, 142, 66⟩) ⟨142, 59, 142, 67⟩) (.cst "MOST_TOLD" ⟨142, 71, 142, 80⟩) ⟨142, 59, 142, 80⟩) .nil))) ⟨142, 15, 142, 81⟩) ⟨142, 8, 142, 81⟩)
 .nil) .nil ⟨141, 4, 142, 81⟩)
 (.cons (.ret (.cmp .eq (.blt .len ⟨143, 11, 143, 14⟩ (.cons (.name "value" 0 ⟨143, 15, 143, 20⟩) .nil) ⟨143, 11, 143, 21⟩) (.int 1 0 ⟨143, 25, 143, 26⟩) ⟨143, 11, 143, 26⟩) ⟨143, 4, 143, 26⟩)
 .nil)))))
/-- are_tree -/
def b26 : Ss :=
 (.cons (.asg "wanted" 1 ⟨145, 4, 145, 10⟩ (.int 1 0 ⟨145, 13, 145, 14⟩) ⟨145, 4, 145, 14⟩)
 (.cons (.for (.name "node" 2 ⟨146, 8, 146, 12⟩) (.seq (.name "nodes" 0 ⟨146, 16, 146, 21⟩)) (.cons (.ite (.cmp .eq (.name "wanted" 1 ⟨147, 11, 147, 17⟩) (.int 0 0 ⟨147, 21, 147, 22⟩) ⟨147, 11, 147, 22⟩) (.cons (.ret (.bl false 0 ⟨148, 19, 148, 24⟩) ⟨148, 12, 148, 24⟩)
 .nil) .nil ⟨147, 8, 148, 24⟩)
 (.cons (.asg "wanted" 1 ⟨149, 8, 149, 14⟩ (.bin .add (.bin .sub (.name "wanted" 1 ⟨149, 17, 149, 23⟩) (.int 1 0 ⟨149, 26, 149, 27⟩) ⟨149, 17, 149, 27⟩) (.blt .len ⟨149, 30, 149, 33⟩ (.cons (.dget "BINDS" ⟨149, 34, 149, 39⟩ (.sub (.name "node" 2 ⟨149, 40, 149, 44⟩) (.int 0 0 ⟨149, 45, 149, 46⟩) ⟨149, 40, 149, 47⟩) ⟨149, 34, 149, 48⟩) .nil) ⟨149, 30, 149, 49⟩) ⟨149, 17, 149, 49⟩) ⟨149, 8, 149, 49⟩)
 .nil)) ⟨146, 4, 149, 49⟩)
 (.cons (.ret (.cmp .eq (.name "wanted" 1 ⟨150, 11, 150, 17⟩) (.int 0 0 ⟨150, 21, 150, 22⟩) ⟨150, 11, 150, 22⟩) ⟨150, 4, 150, 22⟩)
 .nil)))
/-- is_term -/
def b27 : Ss :=
 (.cons (.ite (.bop .Or (.cons (.not (.tr (.call 2 "is_list" ⟨152, 11, 152, 18⟩ (.cons (.name "value" 0 ⟨152, 19, 152, 24⟩) .nil) ⟨152, 11, 152, 25⟩)) ⟨152, 7, 152, 25⟩) (.cons (.not (.chain .le .le (.int 1 0 ⟨152, 33, 152, 34⟩) (.blt .len ⟨152, 38, 152, 41⟩ (.cons (.name "value" 0 ⟨152, 42, 152, 47⟩) .nil) ⟨152, 38, 152, 48⟩) (.cst "MOST_NODES" ⟨152, 52, 152, 62⟩) ⟨152, 33, 152, 62⟩) ⟨152, 29, 152, 62⟩) (.cons (.not (.tr (.blt .all ⟨152, 71, 152, 74⟩ (.cons (.lc (.call 25 "is_node" ⟨152, 76, 152, 83⟩ (.cons (.name "node" 1 ⟨152, 84, 152, 88⟩) .nil) ⟨152, 76, 152, 89⟩) (.name "node" 1 ⟨152, 94, 152, 98⟩) (.seq (.name "value" 0 ⟨152, 102, 152, 107⟩)) .non [("node", 1)] ⟨.function, [(".0", .local), ("node", .local), ("is_node", .globalImplicit)], false, false, []⟩ ⟨152, 75, 152, 108⟩) .nil) ⟨152, 71, 152, 109⟩)) ⟨152, 67, 152, 109⟩) .nil))) ⟨152, 7, 152, 110⟩) (.cons (.ret (.bl false 0 ⟨153, 15, 153, 20⟩) ⟨153, 8, 153, 20⟩)
 .nil) .nil ⟨152, 4, 153, 20⟩)
 (.cons (.ret (.call 26 "are_tree" ⟨154, 11, 154, 19⟩ (.cons (.name "value" 0 ⟨154, 20, 154, 25⟩) .nil) ⟨154, 11, 154, 26⟩) ⟨154, 4, 154, 26⟩)
 .nil))
/-- want_term -/
def b28 : Ss :=
 (.cons (.ite (.not (.tr (.call 27 "is_term" ⟨156, 11, 156, 18⟩ (.cons (.name "value" 0 ⟨156, 19, 156, 24⟩) .nil) ⟨156, 11, 156, 25⟩)) ⟨156, 7, 156, 25⟩) (.cons (.opq (stAt (bodyOf PySem.Challenge.pw_selfprint_k13_whole_kinds_and_letters_pu.main.body "want_term") 0 [0]))
 .nil) .nil ⟨156, 4, 157, 32⟩)
 (.cons (.ret (.blt .list ⟨158, 11, 158, 15⟩ (.cons (.name "value" 0 ⟨158, 16, 158, 21⟩) .nil) ⟨158, 11, 158, 22⟩) ⟨158, 4, 158, 22⟩)
 .nil))
/-- letters_put -/
def b29 : Ss :=
 (.cons (.asg "nodes" 3 ⟨160, 4, 160, 9⟩ (.call 28 "want_term" ⟨160, 12, 160, 21⟩ (.cons (.name "term" 0 ⟨160, 22, 160, 26⟩) .nil) ⟨160, 12, 160, 27⟩) ⟨160, 4, 160, 27⟩)
 (.cons (.expr (.call 10 "want_letter" ⟨161, 4, 161, 15⟩ (.cons (.name "letter" 1 ⟨161, 16, 161, 22⟩) .nil) ⟨161, 4, 161, 23⟩) ⟨161, 4, 161, 23⟩)
 (.cons (.expr (.call 9 "want_kind" ⟨162, 4, 162, 13⟩ (.cons (.name "kind" 2 ⟨162, 14, 162, 18⟩) .nil) ⟨162, 4, 162, 19⟩) ⟨162, 4, 162, 19⟩)
 (.cons (.asgO "found" 4 ⟨163, 4, 163, 9⟩ (.lst .nil ⟨163, 12, 163, 14⟩) ⟨163, 4, 163, 14⟩)
 (.cons (.for (.name "node" 5 ⟨164, 8, 164, 12⟩) (.seq (.name "nodes" 3 ⟨164, 16, 164, 21⟩)) (.cons (.app "found" 4 ⟨165, 8, 165, 13⟩ ⟨165, 8, 165, 20⟩ (.ife (.cmp .isin (.sub (.name "node" 5 ⟨165, 74, 165, 78⟩) (.int 0 0 ⟨165, 79, 165, 80⟩) ⟨165, 74, 165, 81⟩) (.cst "WITH_KIND" ⟨165, 85, 165, 94⟩) ⟨165, 74, 165, 94⟩) (.tup (.cons (.sub (.name "node" 5 ⟨165, 22, 165, 26⟩) (.int 0 0 ⟨165, 27, 165, 28⟩) ⟨165, 22, 165, 29⟩) (.cons (.call 18 "put_letter_told" ⟨165, 31, 165, 46⟩ (.cons (.sub (.name "node" 5 ⟨165, 47, 165, 51⟩) (.int 1 0 ⟨165, 52, 165, 53⟩) ⟨165, 47, 165, 54⟩) (.cons (.name "letter" 1 ⟨165, 56, 165, 62⟩) (.cons (.name "kind" 2 ⟨165, 64, 165, 68⟩) .nil))) ⟨165, 31, 165, 69⟩) .nil)) 0 ⟨165, 21, 165, 70⟩) (.name "node" 5 ⟨165, 100, 165, 104⟩) ⟨165, 21, 165, 104⟩) ⟨165, 8, 165, 105⟩ ⟨165, 8, 165, 105⟩)
 .nil) ⟨164, 4, 165, 105⟩)
 (.cons (.frz [4] (.ret (.name "found" 4 ⟨166, 11, 166, 16⟩) ⟨166, 4, 166, 16⟩))
 .nil))))))
/-- _law_pot -/
def b30 : Ss :=
 (.cons (.asg "_law_cell" 2 ⟨169, 4, 169, 13⟩ (.bin .add (.bin .mul (.int 491 0 ⟨169, 16, 169, 19⟩) (.name "_law_k" 1 ⟨169, 22, 169, 28⟩) ⟨169, 16, 169, 28⟩) (.int 331 0 ⟨169, 31, 169, 34⟩) ⟨169, 16, 169, 34⟩) ⟨169, 4, 169, 34⟩)
 (.cons (.ite (.cmp .lt (.name "_law_k" 1 ⟨170, 7, 170, 13⟩) (.blt .len ⟨170, 16, 170, 19⟩ (.cons (.name "_law_script" 0 ⟨170, 20, 170, 31⟩) .nil) ⟨170, 16, 170, 32⟩) ⟨170, 7, 170, 32⟩) (.cons (.asg "_law_cell" 2 ⟨171, 8, 171, 17⟩ (.blt .abs ⟨171, 20, 171, 23⟩ (.cons (.sub (.name "_law_script" 0 ⟨171, 24, 171, 35⟩) (.name "_law_k" 1 ⟨171, 36, 171, 42⟩) ⟨171, 24, 171, 43⟩) .nil) ⟨171, 20, 171, 44⟩) ⟨171, 8, 171, 44⟩)
 .nil) .nil ⟨170, 4, 171, 44⟩)
 (.cons (.ret (.lstH (.cons (.blt .max ⟨172, 12, 172, 15⟩ (.cons (.int 0 0 ⟨172, 16, 172, 17⟩) (.cons (.bin .sub (.name "_law_cell" 2 ⟨172, 19, 172, 28⟩) (.bin .pow (.int 10 0 ⟨172, 31, 172, 33⟩) (.int 18 0 ⟨172, 37, 172, 39⟩) ⟨172, 31, 172, 39⟩) ⟨172, 19, 172, 39⟩) .nil)) ⟨172, 12, 172, 40⟩) (.cons (.bin .add (.bin .mod (.blt .int ⟨172, 42, 172, 45⟩ (.cons (.bin .add (.bin .add (.bin .mul (.bin .mod (.blt .int ⟨172, 46, 172, 49⟩ (.cons (.name "_law_cell" 2 ⟨172, 50, 172, 59⟩) .nil) ⟨172, 46, 172, 60⟩) (.int 2147483549 0 ⟨172, 63, 172, 73⟩) ⟨172, 46, 172, 73⟩) (.int 48271 0 ⟨172, 76, 172, 81⟩) ⟨172, 46, 172, 81⟩) (.bin .mul (.int 3583 0 ⟨172, 84, 172, 88⟩) (.name "_law_k" 1 ⟨172, 91, 172, 97⟩) ⟨172, 84, 172, 97⟩) ⟨172, 46, 172, 97⟩) (.int 17 0 ⟨172, 100, 172, 102⟩) ⟨172, 46, 172, 102⟩) .nil) ⟨172, 42, 172, 103⟩) (.int 2147483563 0 ⟨172, 106, 172, 116⟩) ⟨172, 42, 172, 116⟩) (.int 1 0 ⟨172, 119, 172, 120⟩) ⟨172, 42, 172, 120⟩) .nil)) ⟨172, 11, 172, 121⟩) ⟨172, 4, 172, 121⟩)
 .nil)))
/-- _law_draw -/
def b31 : Ss :=
 (.cons (.ite (.cmp .gt (.sub (.name "_law_pot_here" 0 ⟨174, 7, 174, 20⟩) (.int 0 0 ⟨174, 21, 174, 22⟩) ⟨174, 7, 174, 23⟩) (.int 0 0 ⟨174, 26, 174, 27⟩) ⟨174, 7, 174, 27⟩) (.cons (.asgT (.tup (.cons (.sub (.name "_law_pot_here" 0 ⟨175, 8, 175, 21⟩) (.int 0 0 ⟨175, 22, 175, 23⟩) ⟨175, 8, 175, 24⟩) (.cons (.name "_law_digit" 2 ⟨175, 26, 175, 36⟩) .nil)) 0 ⟨175, 8, 175, 36⟩) (.blt .divmod ⟨175, 39, 175, 45⟩ (.cons (.sub (.name "_law_pot_here" 0 ⟨175, 46, 175, 59⟩) (.int 0 0 ⟨175, 60, 175, 61⟩) ⟨175, 46, 175, 62⟩) (.cons (.name "_law_size" 1 ⟨175, 64, 175, 73⟩) .nil)) ⟨175, 39, 175, 74⟩) ⟨175, 8, 175, 74⟩)
 (.cons (.ret (.name "_law_digit" 2 ⟨176, 15, 176, 25⟩) ⟨176, 8, 176, 25⟩)
 .nil)) .nil ⟨174, 4, 176, 25⟩)
 (.cons (.asgT (.sub (.name "_law_pot_here" 0 ⟨177, 4, 177, 17⟩) (.int 1 0 ⟨177, 18, 177, 19⟩) ⟨177, 4, 177, 20⟩) (.bin .mod (.blt .int ⟨177, 23, 177, 26⟩ (.cons (.bin .add (.bin .mul (.sub (.name "_law_pot_here" 0 ⟨177, 27, 177, 40⟩) (.int 1 0 ⟨177, 41, 177, 42⟩) ⟨177, 27, 177, 43⟩) (.int 39373 0 ⟨177, 46, 177, 51⟩) ⟨177, 27, 177, 51⟩) (.int 3583 0 ⟨177, 54, 177, 58⟩) ⟨177, 27, 177, 58⟩) .nil) ⟨177, 23, 177, 59⟩) (.int 2147483587 0 ⟨177, 62, 177, 72⟩) ⟨177, 23, 177, 72⟩) ⟨177, 4, 177, 72⟩)
 (.cons (.ret (.bin .mod (.blt .int ⟨178, 11, 178, 14⟩ (.cons (.bin .fdiv (.bin .mod (.blt .int ⟨178, 15, 178, 18⟩ (.cons (.bin .mul (.sub (.name "_law_pot_here" 0 ⟨178, 19, 178, 32⟩) (.int 1 0 ⟨178, 33, 178, 34⟩) ⟨178, 19, 178, 35⟩) (.sub (.name "_law_pot_here" 0 ⟨178, 38, 178, 51⟩) (.int 1 0 ⟨178, 52, 178, 53⟩) ⟨178, 38, 178, 54⟩) ⟨178, 19, 178, 54⟩) .nil) ⟨178, 15, 178, 55⟩) (.int 2147483563 0 ⟨178, 58, 178, 68⟩) ⟨178, 15, 178, 68⟩) (.int 17 0 ⟨178, 72, 178, 74⟩) ⟨178, 15, 178, 74⟩) .nil) ⟨178, 11, 178, 75⟩) (.name "_law_size" 1 ⟨178, 78, 178, 87⟩) ⟨178, 11, 178, 87⟩) ⟨178, 4, 178, 87⟩)
 .nil)))
/-- _law_pick -/
def b32 : Ss :=
 (.cons (.ret (.sub (.name "_law_some" 1 ⟨180, 11, 180, 20⟩) (.call 31 "_law_draw" ⟨180, 21, 180, 30⟩ (.cons (.name "_law_pot_here" 0 ⟨180, 31, 180, 44⟩) (.cons (.blt .len ⟨180, 46, 180, 49⟩ (.cons (.name "_law_some" 1 ⟨180, 50, 180, 59⟩) .nil) ⟨180, 46, 180, 60⟩) .nil)) ⟨180, 21, 180, 61⟩) ⟨180, 11, 180, 62⟩) ⟨180, 4, 180, 62⟩)
 .nil)
/-- _law_is_shown -/
def b33 : Ss :=
 (.cons (.ite (.cmp .eq (.sub (.name "_law_kind_here" 0 ⟨182, 7, 182, 21⟩) (.int 0 0 ⟨182, 22, 182, 23⟩) ⟨182, 7, 182, 24⟩) (.str "fun" 0 ⟨182, 28, 182, 33⟩) ⟨182, 7, 182, 33⟩) (.cons (.ret (.bop .And (.cons (.call 34 "_law_is_met" ⟨183, 15, 183, 26⟩ (.cons (.sub (.name "_law_kind_here" 0 ⟨183, 27, 183, 41⟩) (.int 1 0 ⟨183, 42, 183, 43⟩) ⟨183, 27, 183, 44⟩) .nil) ⟨183, 15, 183, 45⟩) (.cons (.call 33 "_law_is_shown" ⟨183, 50, 183, 63⟩ (.cons (.sub (.name "_law_kind_here" 0 ⟨183, 64, 183, 78⟩) (.int 2 0 ⟨183, 79, 183, 80⟩) ⟨183, 64, 183, 81⟩) .nil) ⟨183, 50, 183, 82⟩) .nil)) ⟨183, 15, 183, 82⟩) ⟨183, 8, 183, 82⟩)
 .nil) .nil ⟨182, 4, 183, 82⟩)
 (.cons (.ret (.bop .Or (.cons (.cmp .isin (.sub (.name "_law_kind_here" 0 ⟨184, 11, 184, 25⟩) (.int 0 0 ⟨184, 26, 184, 27⟩) ⟨184, 11, 184, 28⟩) (.lst (.cons (.str "letter" 0 ⟨184, 33, 184, 41⟩) (.cons (.str "count" 0 ⟨184, 43, 184, 50⟩) .nil)) ⟨184, 32, 184, 51⟩) ⟨184, 11, 184, 51⟩) (.cons (.bop .And (.cons (.call 33 "_law_is_shown" ⟨184, 56, 184, 69⟩ (.cons (.sub (.name "_law_kind_here" 0 ⟨184, 70, 184, 84⟩) (.int 1 0 ⟨184, 85, 184, 86⟩) ⟨184, 70, 184, 87⟩) .nil) ⟨184, 56, 184, 88⟩) (.cons (.call 33 "_law_is_shown" ⟨184, 93, 184, 106⟩ (.cons (.sub (.name "_law_kind_here" 0 ⟨184, 107, 184, 121⟩) (.int 2 0 ⟨184, 122, 184, 123⟩) ⟨184, 107, 184, 124⟩) .nil) ⟨184, 93, 184, 125⟩) .nil)) ⟨184, 56, 184, 125⟩) .nil)) ⟨184, 11, 184, 126⟩) ⟨184, 4, 184, 126⟩)
 .nil))
/-- _law_is_met -/
def b34 : Ss :=
 (.cons (.ite (.cmp .eq (.sub (.name "_law_kind_here" 0 ⟨186, 7, 186, 21⟩) (.int 0 0 ⟨186, 22, 186, 23⟩) ⟨186, 7, 186, 24⟩) (.str "fun" 0 ⟨186, 28, 186, 33⟩) ⟨186, 7, 186, 33⟩) (.cons (.ret (.bop .And (.cons (.call 33 "_law_is_shown" ⟨187, 15, 187, 28⟩ (.cons (.sub (.name "_law_kind_here" 0 ⟨187, 29, 187, 43⟩) (.int 1 0 ⟨187, 44, 187, 45⟩) ⟨187, 29, 187, 46⟩) .nil) ⟨187, 15, 187, 47⟩) (.cons (.call 34 "_law_is_met" ⟨187, 52, 187, 63⟩ (.cons (.sub (.name "_law_kind_here" 0 ⟨187, 64, 187, 78⟩) (.int 2 0 ⟨187, 79, 187, 80⟩) ⟨187, 64, 187, 81⟩) .nil) ⟨187, 52, 187, 82⟩) .nil)) ⟨187, 15, 187, 82⟩) ⟨187, 8, 187, 82⟩)
 .nil) .nil ⟨186, 4, 187, 82⟩)
 (.cons (.ret (.bop .Or (.cons (.cmp .eq (.sub (.name "_law_kind_here" 0 ⟨188, 11, 188, 25⟩) (.int 0 0 ⟨188, 26, 188, 27⟩) ⟨188, 11, 188, 28⟩) (.str "letter" 0 ⟨188, 32, 188, 40⟩) ⟨188, 11, 188, 40⟩) (.cons (.bop .And (.cons (.cmp .eq (.sub (.name "_law_kind_here" 0 ⟨188, 45, 188, 59⟩) (.int 0 0 ⟨188, 60, 188, 61⟩) ⟨188, 45, 188, 62⟩) (.str "pair" 0 ⟨188, 66, 188, 72⟩) ⟨188, 45, 188, 72⟩) (.cons (.call 34 "_law_is_met" ⟨188, 77, 188, 88⟩ (.cons (.sub (.name "_law_kind_here" 0 ⟨188, 89, 188, 103⟩) (.int 1 0 ⟨188, 104, 188, 105⟩) ⟨188, 89, 188, 106⟩) .nil) ⟨188, 77, 188, 107⟩) (.cons (.call 34 "_law_is_met" ⟨188, 112, 188, 123⟩ (.cons (.sub (.name "_law_kind_here" 0 ⟨188, 124, 188, 138⟩) (.int 2 0 ⟨188, 139, 188, 140⟩) ⟨188, 124, 188, 141⟩) .nil) ⟨188, 112, 188, 142⟩) .nil))) ⟨188, 45, 188, 142⟩) .nil)) ⟨188, 11, 188, 143⟩) ⟨188, 4, 188, 143⟩)
 .nil))
/-- _law_is_data -/
def b35 : Ss :=
 (.cons (.ret (.bop .Or (.cons (.cmp .eq (.sub (.name "_law_kind_here" 0 ⟨190, 11, 190, 25⟩) (.int 0 0 ⟨190, 26, 190, 27⟩) ⟨190, 11, 190, 28⟩) (.str "count" 0 ⟨190, 32, 190, 39⟩) ⟨190, 11, 190, 39⟩) (.cons (.bop .And (.cons (.cmp .isin (.sub (.name "_law_kind_here" 0 ⟨190, 44, 190, 58⟩) (.int 0 0 ⟨190, 59, 190, 60⟩) ⟨190, 44, 190, 61⟩) (.lst (.cons (.str "pair" 0 ⟨190, 66, 190, 72⟩) (.cons (.str "sum" 0 ⟨190, 74, 190, 79⟩) .nil)) ⟨190, 65, 190, 80⟩) ⟨190, 44, 190, 80⟩) (.cons (.call 35 "_law_is_data" ⟨190, 85, 190, 97⟩ (.cons (.sub (.name "_law_kind_here" 0 ⟨190, 98, 190, 112⟩) (.int 1 0 ⟨190, 113, 190, 114⟩) ⟨190, 98, 190, 115⟩) .nil) ⟨190, 85, 190, 116⟩) (.cons (.call 35 "_law_is_data" ⟨190, 121, 190, 133⟩ (.cons (.sub (.name "_law_kind_here" 0 ⟨190, 134, 190, 148⟩) (.int 2 0 ⟨190, 149, 190, 150⟩) ⟨190, 134, 190, 151⟩) .nil) ⟨190, 121, 190, 152⟩) .nil))) ⟨190, 44, 190, 152⟩) .nil)) ⟨190, 11, 190, 153⟩) ⟨190, 4, 190, 153⟩)
 .nil)
/-- _law_signs -/
def b36 : Ss :=
 (.cons (.ret (.ife (.cmp .isin (.sub (.name "_law_kind_here" 0 ⟨192, 80, 192, 94⟩) (.int 0 0 ⟨192, 95, 192, 96⟩) ⟨192, 80, 192, 97⟩) (.lst (.cons (.str "pair" 0 ⟨192, 102, 192, 108⟩) (.cons (.str "sum" 0 ⟨192, 110, 192, 115⟩) (.cons (.str "fun" 0 ⟨192, 117, 192, 122⟩) .nil))) ⟨192, 101, 192, 123⟩) ⟨192, 80, 192, 123⟩) (.bin .add (.bin .add (.int 1 0 ⟨192, 11, 192, 12⟩) (.call 36 "_law_signs" ⟨192, 15, 192, 25⟩ (.cons (.sub (.name "_law_kind_here" 0 ⟨192, 26, 192, 40⟩) (.int 1 0 ⟨192, 41, 192, 42⟩) ⟨192, 26, 192, 43⟩) .nil) ⟨192, 15, 192, 44⟩) ⟨192, 11, 192, 44⟩) (.call 36 "_law_signs" ⟨192, 47, 192, 57⟩ (.cons (.sub (.name "_law_kind_here" 0 ⟨192, 58, 192, 72⟩) (.int 2 0 ⟨192, 73, 192, 74⟩) ⟨192, 58, 192, 75⟩) .nil) ⟨192, 47, 192, 76⟩) ⟨192, 11, 192, 76⟩) (.int 1 0 ⟨192, 129, 192, 130⟩) ⟨192, 11, 192, 130⟩) ⟨192, 4, 192, 130⟩)
 .nil)
/-- _law_letters -/
def b37 : Ss :=
 (.cons (.ite (.cmp .isin (.sub (.name "_law_kind_here" 0 ⟨194, 7, 194, 21⟩) (.int 0 0 ⟨194, 22, 194, 23⟩) ⟨194, 7, 194, 24⟩) (.lst (.cons (.str "pair" 0 ⟨194, 29, 194, 35⟩) (.cons (.str "sum" 0 ⟨194, 37, 194, 42⟩) (.cons (.str "fun" 0 ⟨194, 44, 194, 49⟩) .nil))) ⟨194, 28, 194, 50⟩) ⟨194, 7, 194, 50⟩) (.cons (.ret (.bin .add (.call 37 "_law_letters" ⟨195, 15, 195, 27⟩ (.cons (.sub (.name "_law_kind_here" 0 ⟨195, 28, 195, 42⟩) (.int 1 0 ⟨195, 43, 195, 44⟩) ⟨195, 28, 195, 45⟩) .nil) ⟨195, 15, 195, 46⟩) (.call 37 "_law_letters" ⟨195, 49, 195, 61⟩ (.cons (.sub (.name "_law_kind_here" 0 ⟨195, 62, 195, 76⟩) (.int 2 0 ⟨195, 77, 195, 78⟩) ⟨195, 62, 195, 79⟩) .nil) ⟨195, 49, 195, 80⟩) ⟨195, 15, 195, 80⟩) ⟨195, 8, 195, 80⟩)
 .nil) .nil ⟨194, 4, 195, 80⟩)
 (.cons (.ret (.ife (.cmp .eq (.sub (.name "_law_kind_here" 0 ⟨196, 34, 196, 48⟩) (.int 0 0 ⟨196, 49, 196, 50⟩) ⟨196, 34, 196, 51⟩) (.str "letter" 0 ⟨196, 55, 196, 63⟩) ⟨196, 34, 196, 63⟩) (.lst (.cons (.sub (.name "_law_kind_here" 0 ⟨196, 12, 196, 26⟩) (.int 1 0 ⟨196, 27, 196, 28⟩) ⟨196, 12, 196, 29⟩) .nil) ⟨196, 11, 196, 30⟩) (.lst .nil ⟨196, 69, 196, 71⟩) ⟨196, 11, 196, 71⟩) ⟨196, 4, 196, 71⟩)
 .nil))
/-- _law_put -/
def b38 : Ss :=
 (.cons (.ite (.cmp .isin (.sub (.name "_law_kind_here" 0 ⟨198, 7, 198, 21⟩) (.int 0 0 ⟨198, 22, 198, 23⟩) ⟨198, 7, 198, 24⟩) (.lst (.cons (.str "pair" 0 ⟨198, 29, 198, 35⟩) (.cons (.str "sum" 0 ⟨198, 37, 198, 42⟩) (.cons (.str "fun" 0 ⟨198, 44, 198, 49⟩) .nil))) ⟨198, 28, 198, 50⟩) ⟨198, 7, 198, 50⟩) (.cons (.ret (.tup (.cons (.sub (.name "_law_kind_here" 0 ⟨199, 16, 199, 30⟩) (.int 0 0 ⟨199, 31, 199, 32⟩) ⟨199, 16, 199, 33⟩) (.cons (.call 38 "_law_put" ⟨199, 35, 199, 43⟩ (.cons (.sub (.name "_law_kind_here" 0 ⟨199, 44, 199, 58⟩) (.int 1 0 ⟨199, 59, 199, 60⟩) ⟨199, 44, 199, 61⟩) (.cons (.name "_law_letter" 1 ⟨199, 63, 199, 74⟩) (.cons (.name "_law_other" 2 ⟨199, 76, 199, 86⟩) .nil))) ⟨199, 35, 199, 87⟩) (.cons (.call 38 "_law_put" ⟨199, 89, 199, 97⟩ (.cons (.sub (.name "_law_kind_here" 0 ⟨199, 98, 199, 112⟩) (.int 2 0 ⟨199, 113, 199, 114⟩) ⟨199, 98, 199, 115⟩) (.cons (.name "_law_letter" 1 ⟨199, 117, 199, 128⟩) (.cons (.name "_law_other" 2 ⟨199, 130, 199, 140⟩) .nil))) ⟨199, 89, 199, 141⟩) .nil))) 0 ⟨199, 15, 199, 142⟩) ⟨199, 8, 199, 142⟩)
 .nil) .nil ⟨198, 4, 199, 142⟩)
 (.cons (.ret (.ife (.cmp .eq (.name "_law_kind_here" 0 ⟨200, 25, 200, 39⟩) (.tup (.cons (.str "letter" 0 ⟨200, 44, 200, 52⟩) (.cons (.name "_law_letter" 1 ⟨200, 54, 200, 65⟩) .nil)) 0 ⟨200, 43, 200, 66⟩) ⟨200, 25, 200, 66⟩) (.name "_law_other" 2 ⟨200, 11, 200, 21⟩) (.name "_law_kind_here" 0 ⟨200, 72, 200, 86⟩) ⟨200, 11, 200, 86⟩) ⟨200, 4, 200, 86⟩)
 .nil))
/-- _law_kind -/
def b39 : Ss :=
 (.cons (.asg "_law_way" 2 ⟨202, 4, 202, 12⟩ (.call 31 "_law_draw" ⟨202, 15, 202, 24⟩ (.cons (.name "_law_pot_here" 0 ⟨202, 25, 202, 38⟩) (.cons (.ife (.cmp .gt (.name "_law_deep" 1 ⟨202, 45, 202, 54⟩) (.int 0 0 ⟨202, 57, 202, 58⟩) ⟨202, 45, 202, 58⟩) (.int 6 0 ⟨202, 40, 202, 41⟩) (.int 3 0 ⟨202, 64, 202, 65⟩) ⟨202, 40, 202, 65⟩) .nil)) ⟨202, 15, 202, 66⟩) ⟨202, 4, 202, 66⟩)
 (.cons (.ite (.cmp .lt (.name "_law_way" 2 ⟨203, 7, 203, 15⟩) (.int 3 0 ⟨203, 18, 203, 19⟩) ⟨203, 7, 203, 19⟩) (.cons (.ret (.ife (.cmp .lt (.name "_law_way" 2 ⟨204, 39, 204, 47⟩) (.int 2 0 ⟨204, 50, 204, 51⟩) ⟨204, 39, 204, 51⟩) (.tup (.cons (.str "letter" 0 ⟨204, 16, 204, 24⟩) (.cons (.name "_law_way" 2 ⟨204, 26, 204, 34⟩) .nil)) 0 ⟨204, 15, 204, 35⟩) (.tup (.cons (.str "count" 0 ⟨204, 58, 204, 65⟩) .nil) 0 ⟨204, 57, 204, 67⟩) ⟨204, 15, 204, 67⟩) ⟨204, 8, 204, 67⟩)
 .nil) .nil ⟨203, 4, 204, 67⟩)
 (.cons (.asg "_law_near" 3 ⟨205, 4, 205, 13⟩ (.call 39 "_law_kind" ⟨205, 16, 205, 25⟩ (.cons (.name "_law_pot_here" 0 ⟨205, 26, 205, 39⟩) (.cons (.bin .sub (.name "_law_deep" 1 ⟨205, 41, 205, 50⟩) (.int 1 0 ⟨205, 53, 205, 54⟩) ⟨205, 41, 205, 54⟩) .nil)) ⟨205, 16, 205, 55⟩) ⟨205, 4, 205, 55⟩)
 (.cons (.ret (.tup (.cons (.sub (.lst (.cons (.str "pair" 0 ⟨206, 13, 206, 19⟩) (.cons (.str "sum" 0 ⟨206, 21, 206, 26⟩) (.cons (.str "fun" 0 ⟨206, 28, 206, 33⟩) .nil))) ⟨206, 12, 206, 34⟩) (.bin .sub (.name "_law_way" 2 ⟨206, 35, 206, 43⟩) (.int 3 0 ⟨206, 46, 206, 47⟩) ⟨206, 35, 206, 47⟩) ⟨206, 12, 206, 48⟩) (.cons (.name "_law_near" 3 ⟨206, 50, 206, 59⟩) (.cons (.call 39 "_law_kind" ⟨206, 61, 206, 70⟩ (.cons (.name "_law_pot_here" 0 ⟨206, 71, 206, 84⟩) (.cons (.bin .sub (.name "_law_deep" 1 ⟨206, 86, 206, 95⟩) (.int 1 0 ⟨206, 98, 206, 99⟩) ⟨206, 86, 206, 99⟩) .nil)) ⟨206, 61, 206, 100⟩) .nil))) 0 ⟨206, 11, 206, 101⟩) ⟨206, 4, 206, 101⟩)
 .nil))))
/-- _law_cut -/
def b40 : Ss :=
 (.cons (.par false false "_law_way" 4 ⟨208, 4, 208, 12⟩ "_law_other" 5 ⟨208, 14, 208, 24⟩ 0 ⟨208, 4, 208, 24⟩ (.call 31 "_law_draw" ⟨208, 28, 208, 37⟩ (.cons (.name "_law_pot_here" 0 ⟨208, 38, 208, 51⟩) (.cons (.int 5 0 ⟨208, 53, 208, 54⟩) .nil)) ⟨208, 28, 208, 55⟩) (.call 39 "_law_kind" ⟨208, 57, 208, 66⟩ (.cons (.name "_law_pot_here" 0 ⟨208, 67, 208, 80⟩) (.cons (.int 1 0 ⟨208, 82, 208, 83⟩) .nil)) ⟨208, 57, 208, 84⟩) 0 ⟨208, 27, 208, 85⟩ ⟨208, 4, 208, 85⟩)
 (.cons (.ite (.cmp .eq (.name "_law_way" 4 ⟨209, 7, 209, 15⟩) (.int 0 0 ⟨209, 19, 209, 20⟩) ⟨209, 7, 209, 20⟩) (.cons (.asg "_law_body" 6 ⟨210, 8, 210, 17⟩ (.call 41 "_law_made" ⟨210, 20, 210, 29⟩ (.cons (.name "_law_pot_here" 0 ⟨210, 30, 210, 43⟩) (.cons (.name "_law_kind_here" 1 ⟨210, 45, 210, 59⟩) (.cons (.bin .add (.lst (.cons (.name "_law_other" 5 ⟨210, 62, 210, 72⟩) .nil) ⟨210, 61, 210, 73⟩) (.name "_law_names" 2 ⟨210, 76, 210, 86⟩) ⟨210, 61, 210, 86⟩) (.cons (.bin .sub (.name "_law_deep" 3 ⟨210, 88, 210, 97⟩) (.int 1 0 ⟨210, 100, 210, 101⟩) ⟨210, 88, 210, 101⟩) .nil)))) ⟨210, 20, 210, 102⟩) ⟨210, 8, 210, 102⟩)
 (.cons (.ret (.bin .add (.bin .add (.lst (.cons (.tup (.cons (.str "call" 0 ⟨211, 17, 211, 23⟩) .nil) 0 ⟨211, 16, 211, 25⟩) (.cons (.tup (.cons (.str "fun" 0 ⟨211, 28, 211, 33⟩) (.cons (.name "_law_other" 5 ⟨211, 35, 211, 45⟩) .nil)) 0 ⟨211, 27, 211, 46⟩) .nil)) ⟨211, 15, 211, 47⟩) (.name "_law_body" 6 ⟨211, 50, 211, 59⟩) ⟨211, 15, 211, 59⟩) (.call 41 "_law_made" ⟨211, 62, 211, 71⟩ (.cons (.name "_law_pot_here" 0 ⟨211, 72, 211, 85⟩) (.cons (.name "_law_other" 5 ⟨211, 87, 211, 97⟩) (.cons (.name "_law_names" 2 ⟨211, 99, 211, 109⟩) (.cons (.bin .sub (.name "_law_deep" 3 ⟨211, 111, 211, 120⟩) (.int 1 0 ⟨211, 123, 211, 124⟩) ⟨211, 111, 211, 124⟩) .nil)))) ⟨211, 62, 211, 125⟩) ⟨211, 15, 211, 125⟩) ⟨211, 8, 211, 125⟩)
 .nil)) .nil ⟨209, 4, 211, 125⟩)
 (.cons (.ite (.cmp .eq (.name "_law_way" 4 ⟨212, 7, 212, 15⟩) (.int 1 0 ⟨212, 19, 212, 20⟩) ⟨212, 7, 212, 20⟩) (.cons (.asg "_law_what" 7 ⟨213, 8, 213, 17⟩ (.call 41 "_law_made" ⟨213, 20, 213, 29⟩ (.cons (.name "_law_pot_here" 0 ⟨213, 30, 213, 43⟩) (.cons (.name "_law_other" 5 ⟨213, 45, 213, 55⟩) (.cons (.name "_law_names" 2 ⟨213, 57, 213, 67⟩) (.cons (.bin .sub (.name "_law_deep" 3 ⟨213, 69, 213, 78⟩) (.int 1 0 ⟨213, 81, 213, 82⟩) ⟨213, 69, 213, 82⟩) .nil)))) ⟨213, 20, 213, 83⟩) ⟨213, 8, 213, 83⟩)
 (.cons (.ret (.bin .add (.bin .add (.lst (.cons (.tup (.cons (.str "let" 0 ⟨214, 17, 214, 22⟩) .nil) 0 ⟨214, 16, 214, 24⟩) .nil) ⟨214, 15, 214, 25⟩) (.name "_law_what" 7 ⟨214, 28, 214, 37⟩) ⟨214, 15, 214, 37⟩) (.call 41 "_law_made" ⟨214, 40, 214, 49⟩ (.cons (.name "_law_pot_here" 0 ⟨214, 50, 214, 63⟩) (.cons (.name "_law_kind_here" 1 ⟨214, 65, 214, 79⟩) (.cons (.bin .add (.lst (.cons (.name "_law_other" 5 ⟨214, 82, 214, 92⟩) .nil) ⟨214, 81, 214, 93⟩) (.name "_law_names" 2 ⟨214, 96, 214, 106⟩) ⟨214, 81, 214, 106⟩) (.cons (.bin .sub (.name "_law_deep" 3 ⟨214, 108, 214, 117⟩) (.int 1 0 ⟨214, 120, 214, 121⟩) ⟨214, 108, 214, 121⟩) .nil)))) ⟨214, 40, 214, 122⟩) ⟨214, 15, 214, 122⟩) ⟨214, 8, 214, 122⟩)
 .nil)) .nil ⟨212, 4, 214, 122⟩)
 (.cons (.ite (.cmp .eq (.name "_law_way" 4 ⟨215, 7, 215, 15⟩) (.int 2 0 ⟨215, 19, 215, 20⟩) ⟨215, 7, 215, 20⟩) (.cons (.asg "_law_near" 8 ⟨216, 8, 216, 17⟩ (.call 41 "_law_made" ⟨216, 20, 216, 29⟩ (.cons (.name "_law_pot_here" 0 ⟨216, 30, 216, 43⟩) (.cons (.name "_law_kind_here" 1 ⟨216, 45, 216, 59⟩) (.cons (.name "_law_names" 2 ⟨216, 61, 216, 71⟩) (.cons (.bin .sub (.name "_law_deep" 3 ⟨216, 73, 216, 82⟩) (.int 1 0 ⟨216, 85, 216, 86⟩) ⟨216, 73, 216, 86⟩) .nil)))) ⟨216, 20, 216, 87⟩) ⟨216, 8, 216, 87⟩)
 (.cons (.asg "_law_far" 9 ⟨217, 8, 217, 16⟩ (.call 41 "_law_made" ⟨217, 19, 217, 28⟩ (.cons (.name "_law_pot_here" 0 ⟨217, 29, 217, 42⟩) (.cons (.name "_law_other" 5 ⟨217, 44, 217, 54⟩) (.cons (.name "_law_names" 2 ⟨217, 56, 217, 66⟩) (.cons (.bin .sub (.name "_law_deep" 3 ⟨217, 68, 217, 77⟩) (.int 1 0 ⟨217, 80, 217, 81⟩) ⟨217, 68, 217, 81⟩) .nil)))) ⟨217, 19, 217, 82⟩) ⟨217, 8, 217, 82⟩)
 (.cons (.ret (.ife (.cmp .eq (.call 31 "_law_draw" ⟨218, 65, 218, 74⟩ (.cons (.name "_law_pot_here" 0 ⟨218, 75, 218, 88⟩) (.cons (.int 2 0 ⟨218, 90, 218, 91⟩) .nil)) ⟨218, 65, 218, 92⟩) (.int 0 0 ⟨218, 96, 218, 97⟩) ⟨218, 65, 218, 97⟩) (.bin .add (.bin .add (.lst (.cons (.tup (.cons (.str "first" 0 ⟨218, 17, 218, 24⟩) .nil) 0 ⟨218, 16, 218, 26⟩) (.cons (.tup (.cons (.str "both" 0 ⟨218, 29, 218, 35⟩) .nil) 0 ⟨218, 28, 218, 37⟩) .nil)) ⟨218, 15, 218, 38⟩) (.name "_law_near" 8 ⟨218, 41, 218, 50⟩) ⟨218, 15, 218, 50⟩) (.name "_law_far" 9 ⟨218, 53, 218, 61⟩) ⟨218, 15, 218, 61⟩) (.bin .add (.bin .add (.lst (.cons (.tup (.cons (.str "second" 0 ⟨218, 105, 218, 113⟩) .nil) 0 ⟨218, 104, 218, 115⟩) (.cons (.tup (.cons (.str "both" 0 ⟨218, 118, 218, 124⟩) .nil) 0 ⟨218, 117, 218, 126⟩) .nil)) ⟨218, 103, 218, 127⟩) (.name "_law_far" 9 ⟨218, 130, 218, 138⟩) ⟨218, 103, 218, 138⟩) (.name "_law_near" 8 ⟨218, 141, 218, 150⟩) ⟨218, 103, 218, 150⟩) ⟨218, 15, 218, 150⟩) ⟨218, 8, 218, 150⟩)
 .nil))) .nil ⟨215, 4, 218, 150⟩)
 (.cons (.ite (.cmp .eq (.name "_law_way" 4 ⟨219, 7, 219, 15⟩) (.int 3 0 ⟨219, 19, 219, 20⟩) ⟨219, 7, 219, 20⟩) (.cons (.asg "_law_more" 10 ⟨220, 8, 220, 17⟩ (.call 39 "_law_kind" ⟨220, 20, 220, 29⟩ (.cons (.name "_law_pot_here" 0 ⟨220, 30, 220, 43⟩) (.cons (.int 0 0 ⟨220, 45, 220, 46⟩) .nil)) ⟨220, 20, 220, 47⟩) ⟨220, 8, 220, 47⟩)
 (.cons (.asg "_law_what" 7 ⟨221, 8, 221, 17⟩ (.bin .add (.lst (.cons (.tup (.cons (.str "left" 0 ⟨221, 22, 221, 28⟩) (.cons (.name "_law_more" 10 ⟨221, 30, 221, 39⟩) .nil)) 0 ⟨221, 21, 221, 40⟩) .nil) ⟨221, 20, 221, 41⟩) (.call 41 "_law_made" ⟨221, 44, 221, 53⟩ (.cons (.name "_law_pot_here" 0 ⟨221, 54, 221, 67⟩) (.cons (.name "_law_other" 5 ⟨221, 69, 221, 79⟩) (.cons (.name "_law_names" 2 ⟨221, 81, 221, 91⟩) (.cons (.bin .sub (.name "_law_deep" 3 ⟨221, 93, 221, 102⟩) (.int 1 0 ⟨221, 105, 221, 106⟩) ⟨221, 93, 221, 106⟩) .nil)))) ⟨221, 44, 221, 107⟩) ⟨221, 20, 221, 107⟩) ⟨221, 8, 221, 107⟩)
 (.cons (.ite (.cmp .eq (.call 31 "_law_draw" ⟨222, 11, 222, 20⟩ (.cons (.name "_law_pot_here" 0 ⟨222, 21, 222, 34⟩) (.cons (.int 2 0 ⟨222, 36, 222, 37⟩) .nil)) ⟨222, 11, 222, 38⟩) (.int 0 0 ⟨222, 42, 222, 43⟩) ⟨222, 11, 222, 43⟩) (.cons (.asg "_law_what" 7 ⟨223, 12, 223, 21⟩ (.bin .add (.lst (.cons (.tup (.cons (.str "right" 0 ⟨223, 26, 223, 33⟩) (.cons (.name "_law_other" 5 ⟨223, 35, 223, 45⟩) .nil)) 0 ⟨223, 25, 223, 46⟩) .nil) ⟨223, 24, 223, 47⟩) (.call 41 "_law_made" ⟨223, 50, 223, 59⟩ (.cons (.name "_law_pot_here" 0 ⟨223, 60, 223, 73⟩) (.cons (.name "_law_more" 10 ⟨223, 75, 223, 84⟩) (.cons (.name "_law_names" 2 ⟨223, 86, 223, 96⟩) (.cons (.bin .sub (.name "_law_deep" 3 ⟨223, 98, 223, 107⟩) (.int 1 0 ⟨223, 110, 223, 111⟩) ⟨223, 98, 223, 111⟩) .nil)))) ⟨223, 50, 223, 112⟩) ⟨223, 24, 223, 112⟩) ⟨223, 12, 223, 112⟩)
 .nil) .nil ⟨222, 8, 223, 112⟩)
 (.cons (.asg "_law_arm" 11 ⟨224, 8, 224, 16⟩ (.call 41 "_law_made" ⟨224, 19, 224, 28⟩ (.cons (.name "_law_pot_here" 0 ⟨224, 29, 224, 42⟩) (.cons (.name "_law_kind_here" 1 ⟨224, 44, 224, 58⟩) (.cons (.bin .add (.lst (.cons (.name "_law_other" 5 ⟨224, 61, 224, 71⟩) .nil) ⟨224, 60, 224, 72⟩) (.name "_law_names" 2 ⟨224, 75, 224, 85⟩) ⟨224, 60, 224, 85⟩) (.cons (.bin .sub (.name "_law_deep" 3 ⟨224, 87, 224, 96⟩) (.int 1 0 ⟨224, 99, 224, 100⟩) ⟨224, 87, 224, 100⟩) .nil)))) ⟨224, 19, 224, 101⟩) ⟨224, 8, 224, 101⟩)
 (.cons (.ret (.bin .add (.bin .add (.bin .add (.lst (.cons (.tup (.cons (.str "which" 0 ⟨225, 17, 225, 24⟩) .nil) 0 ⟨225, 16, 225, 26⟩) .nil) ⟨225, 15, 225, 27⟩) (.name "_law_what" 7 ⟨225, 30, 225, 39⟩) ⟨225, 15, 225, 39⟩) (.name "_law_arm" 11 ⟨225, 42, 225, 50⟩) ⟨225, 15, 225, 50⟩) (.call 41 "_law_made" ⟨225, 53, 225, 62⟩ (.cons (.name "_law_pot_here" 0 ⟨225, 63, 225, 76⟩) (.cons (.name "_law_kind_here" 1 ⟨225, 78, 225, 92⟩) (.cons (.bin .add (.lst (.cons (.name "_law_more" 10 ⟨225, 95, 225, 104⟩) .nil) ⟨225, 94, 225, 105⟩) (.name "_law_names" 2 ⟨225, 108, 225, 118⟩) ⟨225, 94, 225, 118⟩) (.cons (.bin .sub (.name "_law_deep" 3 ⟨225, 120, 225, 129⟩) (.int 1 0 ⟨225, 132, 225, 133⟩) ⟨225, 120, 225, 133⟩) .nil)))) ⟨225, 53, 225, 134⟩) ⟨225, 15, 225, 134⟩) ⟨225, 8, 225, 134⟩)
 .nil))))) .nil ⟨219, 4, 225, 134⟩)
 (.cons (.asg "_law_step" 12 ⟨226, 4, 226, 13⟩ (.call 41 "_law_made" ⟨226, 16, 226, 25⟩ (.cons (.name "_law_pot_here" 0 ⟨226, 26, 226, 39⟩) (.cons (.name "_law_kind_here" 1 ⟨226, 41, 226, 55⟩) (.cons (.bin .add (.lst (.cons (.name "_law_kind_here" 1 ⟨226, 58, 226, 72⟩) .nil) ⟨226, 57, 226, 73⟩) (.name "_law_names" 2 ⟨226, 76, 226, 86⟩) ⟨226, 57, 226, 86⟩) (.cons (.bin .sub (.name "_law_deep" 3 ⟨226, 88, 226, 97⟩) (.int 1 0 ⟨226, 100, 226, 101⟩) ⟨226, 88, 226, 101⟩) .nil)))) ⟨226, 16, 226, 102⟩) ⟨226, 4, 226, 102⟩)
 (.cons (.ret (.bin .add (.bin .add (.lst (.cons (.tup (.cons (.str "turns" 0 ⟨227, 13, 227, 20⟩) (.cons (.name "_law_kind_here" 1 ⟨227, 22, 227, 36⟩) .nil)) 0 ⟨227, 12, 227, 37⟩) (.cons (.tup (.cons (.str "told" 0 ⟨227, 40, 227, 46⟩) (.cons (.call 31 "_law_draw" ⟨227, 48, 227, 57⟩ (.cons (.name "_law_pot_here" 0 ⟨227, 58, 227, 71⟩) (.cons (.int 3 0 ⟨227, 73, 227, 74⟩) .nil)) ⟨227, 48, 227, 75⟩) .nil)) 0 ⟨227, 39, 227, 76⟩) .nil)) ⟨227, 11, 227, 77⟩) (.name "_law_step" 12 ⟨227, 80, 227, 89⟩) ⟨227, 11, 227, 89⟩) (.call 41 "_law_made" ⟨227, 92, 227, 101⟩ (.cons (.name "_law_pot_here" 0 ⟨227, 102, 227, 115⟩) (.cons (.name "_law_kind_here" 1 ⟨227, 117, 227, 131⟩) (.cons (.name "_law_names" 2 ⟨227, 133, 227, 143⟩) (.cons (.bin .sub (.name "_law_deep" 3 ⟨227, 145, 227, 154⟩) (.int 1 0 ⟨227, 157, 227, 158⟩) ⟨227, 145, 227, 158⟩) .nil)))) ⟨227, 92, 227, 159⟩) ⟨227, 11, 227, 159⟩) ⟨227, 4, 227, 159⟩)
 .nil)))))))
/-- _law_made -/
def b41 : Ss :=
 (.cons (.asg "_law_here" 4 ⟨229, 4, 229, 13⟩ (.lc (.name "_law_at" 6 ⟨229, 17, 229, 24⟩) (.tup (.cons (.name "_law_at" 6 ⟨229, 29, 229, 36⟩) (.cons (.name "_law_one" 7 ⟨229, 38, 229, 46⟩) .nil)) 0 ⟨229, 29, 229, 46⟩) (.enum ⟨229, 50, 229, 59⟩ (.name "_law_names" 2 ⟨229, 60, 229, 70⟩) ⟨229, 50, 229, 71⟩) (.some (.cmp .eq (.name "_law_one" 7 ⟨229, 75, 229, 83⟩) (.name "_law_kind_here" 1 ⟨229, 87, 229, 101⟩) ⟨229, 75, 229, 101⟩)) [("_law_at", 6), ("_law_one", 7)] ⟨.function, [(".0", .local), ("_law_at", .local), ("_law_one", .local), ("_law_kind_here", .free)], false, false, []⟩ ⟨229, 16, 229, 102⟩) ⟨229, 4, 229, 102⟩)
 (.cons (.ite (.bop .And (.cons (.cmp .ne (.name "_law_here" 4 ⟨230, 7, 230, 16⟩) (.lst .nil ⟨230, 20, 230, 22⟩) ⟨230, 7, 230, 22⟩) (.cons (.bop .Or (.cons (.bop .And (.cons (.cmp .eq (.sub (.name "_law_kind_here" 1 ⟨230, 28, 230, 42⟩) (.int 0 0 ⟨230, 43, 230, 44⟩) ⟨230, 28, 230, 45⟩) (.str "letter" 0 ⟨230, 49, 230, 57⟩) ⟨230, 28, 230, 57⟩) (.cons (.cmp .lt (.name "_law_deep" 3 ⟨230, 62, 230, 71⟩) (.int 1 0 ⟨230, 74, 230, 75⟩) ⟨230, 62, 230, 75⟩) .nil)) ⟨230, 28, 230, 75⟩) (.cons (.cmp .eq (.call 31 "_law_draw" ⟨230, 79, 230, 88⟩ (.cons (.name "_law_pot_here" 0 ⟨230, 89, 230, 102⟩) (.cons (.int 4 0 ⟨230, 104, 230, 105⟩) .nil)) ⟨230, 79, 230, 106⟩) (.int 0 0 ⟨230, 110, 230, 111⟩) ⟨230, 79, 230, 111⟩) .nil)) ⟨230, 28, 230, 111⟩) .nil)) ⟨230, 7, 230, 112⟩) (.cons (.ret (.lst (.cons (.tup (.cons (.str "name" 0 ⟨231, 17, 231, 23⟩) (.cons (.call 32 "_law_pick" ⟨231, 25, 231, 34⟩ (.cons (.name "_law_pot_here" 0 ⟨231, 35, 231, 48⟩) (.cons (.name "_law_here" 4 ⟨231, 50, 231, 59⟩) .nil)) ⟨231, 25, 231, 60⟩) .nil)) 0 ⟨231, 16, 231, 61⟩) .nil) ⟨231, 15, 231, 62⟩) ⟨231, 8, 231, 62⟩)
 .nil) .nil ⟨230, 4, 231, 62⟩)
 (.cons (.ite (.bop .And (.cons (.cmp .gt (.name "_law_deep" 3 ⟨232, 7, 232, 16⟩) (.int 0 0 ⟨232, 19, 232, 20⟩) ⟨232, 7, 232, 20⟩) (.cons (.cmp .eq (.call 31 "_law_draw" ⟨232, 25, 232, 34⟩ (.cons (.name "_law_pot_here" 0 ⟨232, 35, 232, 48⟩) (.cons (.int 2 0 ⟨232, 50, 232, 51⟩) .nil)) ⟨232, 25, 232, 52⟩) (.int 0 0 ⟨232, 56, 232, 57⟩) ⟨232, 25, 232, 57⟩) .nil)) ⟨232, 7, 232, 57⟩) (.cons (.ret (.call 40 "_law_cut" ⟨233, 15, 233, 23⟩ (.cons (.name "_law_pot_here" 0 ⟨233, 24, 233, 37⟩) (.cons (.name "_law_kind_here" 1 ⟨233, 39, 233, 53⟩) (.cons (.name "_law_names" 2 ⟨233, 55, 233, 65⟩) (.cons (.name "_law_deep" 3 ⟨233, 67, 233, 76⟩) .nil)))) ⟨233, 15, 233, 77⟩) ⟨233, 8, 233, 77⟩)
 .nil) .nil ⟨232, 4, 233, 77⟩)
 (.cons (.ite (.cmp .eq (.sub (.name "_law_kind_here" 1 ⟨234, 7, 234, 21⟩) (.int 0 0 ⟨234, 22, 234, 23⟩) ⟨234, 7, 234, 24⟩) (.str "letter" 0 ⟨234, 28, 234, 36⟩) ⟨234, 7, 234, 36⟩) (.cons (.ret (.lst (.cons (.tup (.cons (.str "name" 0 ⟨235, 17, 235, 23⟩) (.cons (.call 32 "_law_pick" ⟨235, 25, 235, 34⟩ (.cons (.name "_law_pot_here" 0 ⟨235, 35, 235, 48⟩) (.cons (.name "_law_here" 4 ⟨235, 50, 235, 59⟩) .nil)) ⟨235, 25, 235, 60⟩) .nil)) 0 ⟨235, 16, 235, 61⟩) .nil) ⟨235, 15, 235, 62⟩) ⟨235, 8, 235, 62⟩)
 .nil) .nil ⟨234, 4, 235, 62⟩)
 (.cons (.ite (.cmp .eq (.sub (.name "_law_kind_here" 1 ⟨236, 7, 236, 21⟩) (.int 0 0 ⟨236, 22, 236, 23⟩) ⟨236, 7, 236, 24⟩) (.str "count" 0 ⟨236, 28, 236, 35⟩) ⟨236, 7, 236, 35⟩) (.cons (.ret (.ife (.cmp .gt (.call 31 "_law_draw" ⟨237, 58, 237, 67⟩ (.cons (.name "_law_pot_here" 0 ⟨237, 68, 237, 81⟩) (.cons (.int 3 0 ⟨237, 83, 237, 84⟩) .nil)) ⟨237, 58, 237, 85⟩) (.int 0 0 ⟨237, 88, 237, 89⟩) ⟨237, 58, 237, 89⟩) (.lst (.cons (.tup (.cons (.str "told" 0 ⟨237, 17, 237, 23⟩) (.cons (.call 31 "_law_draw" ⟨237, 25, 237, 34⟩ (.cons (.name "_law_pot_here" 0 ⟨237, 35, 237, 48⟩) (.cons (.int 9 0 ⟨237, 50, 237, 51⟩) .nil)) ⟨237, 25, 237, 52⟩) .nil)) 0 ⟨237, 16, 237, 53⟩) .nil) ⟨237, 15, 237, 54⟩) (.lst (.cons (.tup (.cons (.str "next" 0 ⟨237, 97, 237, 103⟩) .nil) 0 ⟨237, 96, 237, 105⟩) (.cons (.tup (.cons (.str "told" 0 ⟨237, 108, 237, 114⟩) (.cons (.call 31 "_law_draw" ⟨237, 116, 237, 125⟩ (.cons (.name "_law_pot_here" 0 ⟨237, 126, 237, 139⟩) (.cons (.int 9 0 ⟨237, 141, 237, 142⟩) .nil)) ⟨237, 116, 237, 143⟩) .nil)) 0 ⟨237, 107, 237, 144⟩) .nil)) ⟨237, 95, 237, 145⟩) ⟨237, 15, 237, 145⟩) ⟨237, 8, 237, 145⟩)
 .nil) .nil ⟨236, 4, 237, 145⟩)
 (.cons (.ite (.cmp .eq (.sub (.name "_law_kind_here" 1 ⟨238, 7, 238, 21⟩) (.int 0 0 ⟨238, 22, 238, 23⟩) ⟨238, 7, 238, 24⟩) (.str "pair" 0 ⟨238, 28, 238, 34⟩) ⟨238, 7, 238, 34⟩) (.cons (.asg "_law_near" 5 ⟨239, 8, 239, 17⟩ (.call 41 "_law_made" ⟨239, 20, 239, 29⟩ (.cons (.name "_law_pot_here" 0 ⟨239, 30, 239, 43⟩) (.cons (.sub (.name "_law_kind_here" 1 ⟨239, 45, 239, 59⟩) (.int 1 0 ⟨239, 60, 239, 61⟩) ⟨239, 45, 239, 62⟩) (.cons (.name "_law_names" 2 ⟨239, 64, 239, 74⟩) (.cons (.bin .sub (.name "_law_deep" 3 ⟨239, 76, 239, 85⟩) (.int 1 0 ⟨239, 88, 239, 89⟩) ⟨239, 76, 239, 89⟩) .nil)))) ⟨239, 20, 239, 90⟩) ⟨239, 8, 239, 90⟩)
 (.cons (.ret (.bin .add (.bin .add (.lst (.cons (.tup (.cons (.str "both" 0 ⟨240, 17, 240, 23⟩) .nil) 0 ⟨240, 16, 240, 25⟩) .nil) ⟨240, 15, 240, 26⟩) (.name "_law_near" 5 ⟨240, 29, 240, 38⟩) ⟨240, 15, 240, 38⟩) (.call 41 "_law_made" ⟨240, 41, 240, 50⟩ (.cons (.name "_law_pot_here" 0 ⟨240, 51, 240, 64⟩) (.cons (.sub (.name "_law_kind_here" 1 ⟨240, 66, 240, 80⟩) (.int 2 0 ⟨240, 81, 240, 82⟩) ⟨240, 66, 240, 83⟩) (.cons (.name "_law_names" 2 ⟨240, 85, 240, 95⟩) (.cons (.bin .sub (.name "_law_deep" 3 ⟨240, 97, 240, 106⟩) (.int 1 0 ⟨240, 109, 240, 110⟩) ⟨240, 97, 240, 110⟩) .nil)))) ⟨240, 41, 240, 111⟩) ⟨240, 15, 240, 111⟩) ⟨240, 8, 240, 111⟩)
 .nil)) .nil ⟨238, 4, 240, 111⟩)
 (.cons (.ite (.cmp .eq (.sub (.name "_law_kind_here" 1 ⟨241, 7, 241, 21⟩) (.int 0 0 ⟨241, 22, 241, 23⟩) ⟨241, 7, 241, 24⟩) (.str "sum" 0 ⟨241, 28, 241, 33⟩) ⟨241, 7, 241, 33⟩) (.cons (.ite (.cmp .eq (.call 31 "_law_draw" ⟨242, 11, 242, 20⟩ (.cons (.name "_law_pot_here" 0 ⟨242, 21, 242, 34⟩) (.cons (.int 2 0 ⟨242, 36, 242, 37⟩) .nil)) ⟨242, 11, 242, 38⟩) (.int 0 0 ⟨242, 42, 242, 43⟩) ⟨242, 11, 242, 43⟩) (.cons (.ret (.bin .add (.lst (.cons (.tup (.cons (.str "left" 0 ⟨243, 21, 243, 27⟩) (.cons (.sub (.name "_law_kind_here" 1 ⟨243, 29, 243, 43⟩) (.int 2 0 ⟨243, 44, 243, 45⟩) ⟨243, 29, 243, 46⟩) .nil)) 0 ⟨243, 20, 243, 47⟩) .nil) ⟨243, 19, 243, 48⟩) (.call 41 "_law_made" ⟨243, 51, 243, 60⟩ (.cons (.name "_law_pot_here" 0 ⟨243, 61, 243, 74⟩) (.cons (.sub (.name "_law_kind_here" 1 ⟨243, 76, 243, 90⟩) (.int 1 0 ⟨243, 91, 243, 92⟩) ⟨243, 76, 243, 93⟩) (.cons (.name "_law_names" 2 ⟨243, 95, 243, 105⟩) (.cons (.bin .sub (.name "_law_deep" 3 ⟨243, 107, 243, 116⟩) (.int 1 0 ⟨243, 119, 243, 120⟩) ⟨243, 107, 243, 120⟩) .nil)))) ⟨243, 51, 243, 121⟩) ⟨243, 19, 243, 121⟩) ⟨243, 12, 243, 121⟩)
 .nil) .nil ⟨242, 8, 243, 121⟩)
 (.cons (.ret (.bin .add (.lst (.cons (.tup (.cons (.str "right" 0 ⟨244, 17, 244, 24⟩) (.cons (.sub (.name "_law_kind_here" 1 ⟨244, 26, 244, 40⟩) (.int 1 0 ⟨244, 41, 244, 42⟩) ⟨244, 26, 244, 43⟩) .nil)) 0 ⟨244, 16, 244, 44⟩) .nil) ⟨244, 15, 244, 45⟩) (.call 41 "_law_made" ⟨244, 48, 244, 57⟩ (.cons (.name "_law_pot_here" 0 ⟨244, 58, 244, 71⟩) (.cons (.sub (.name "_law_kind_here" 1 ⟨244, 73, 244, 87⟩) (.int 2 0 ⟨244, 88, 244, 89⟩) ⟨244, 73, 244, 90⟩) (.cons (.name "_law_names" 2 ⟨244, 92, 244, 102⟩) (.cons (.bin .sub (.name "_law_deep" 3 ⟨244, 104, 244, 113⟩) (.int 1 0 ⟨244, 116, 244, 117⟩) ⟨244, 104, 244, 117⟩) .nil)))) ⟨244, 48, 244, 118⟩) ⟨244, 15, 244, 118⟩) ⟨244, 8, 244, 118⟩)
 .nil)) .nil ⟨241, 4, 244, 118⟩)
 (.cons (.ret (.bin .add (.lst (.cons (.tup (.cons (.str "fun" 0 ⟨245, 13, 245, 18⟩) (.cons (.sub (.name "_law_kind_here" 1 ⟨245, 20, 245, 34⟩) (.int 1 0 ⟨245, 35, 245, 36⟩) ⟨245, 20, 245, 37⟩) .nil)) 0 ⟨245, 12, 245, 38⟩) .nil) ⟨245, 11, 245, 39⟩) (.call 41 "_law_made" ⟨245, 42, 245, 51⟩ (.cons (.name "_law_pot_here" 0 ⟨245, 52, 245, 65⟩) (.cons (.sub (.name "_law_kind_here" 1 ⟨245, 67, 245, 81⟩) (.int 2 0 ⟨245, 82, 245, 83⟩) ⟨245, 67, 245, 84⟩) (.cons (.bin .add (.lst (.cons (.sub (.name "_law_kind_here" 1 ⟨245, 87, 245, 101⟩) (.int 1 0 ⟨245, 102, 245, 103⟩) ⟨245, 87, 245, 104⟩) .nil) ⟨245, 86, 245, 105⟩) (.name "_law_names" 2 ⟨245, 108, 245, 118⟩) ⟨245, 86, 245, 118⟩) (.cons (.bin .sub (.name "_law_deep" 3 ⟨245, 120, 245, 129⟩) (.int 1 0 ⟨245, 132, 245, 133⟩) ⟨245, 120, 245, 133⟩) .nil)))) ⟨245, 42, 245, 134⟩) ⟨245, 11, 245, 134⟩) ⟨245, 4, 245, 134⟩)
 .nil))))))))
/-- _law_kinds_right -/
def b42 : Ss :=
 (.cons (.asg "_law_due" 2 ⟨247, 4, 247, 12⟩ (.lst (.cons (.call 33 "_law_is_shown" ⟨247, 16, 247, 29⟩ (.cons (.name "_law_kind_here" 1 ⟨247, 30, 247, 44⟩) .nil) ⟨247, 16, 247, 45⟩) (.cons (.call 34 "_law_is_met" ⟨247, 47, 247, 58⟩ (.cons (.name "_law_kind_here" 1 ⟨247, 59, 247, 73⟩) .nil) ⟨247, 47, 247, 74⟩) (.cons (.call 35 "_law_is_data" ⟨247, 76, 247, 88⟩ (.cons (.name "_law_kind_here" 1 ⟨247, 89, 247, 103⟩) .nil) ⟨247, 76, 247, 104⟩) (.cons (.call 36 "_law_signs" ⟨247, 106, 247, 116⟩ (.cons (.name "_law_kind_here" 1 ⟨247, 117, 247, 131⟩) .nil) ⟨247, 106, 247, 132⟩) (.cons (.srt (.call 37 "_law_letters" ⟨247, 145, 247, 157⟩ (.cons (.name "_law_kind_here" 1 ⟨247, 158, 247, 172⟩) .nil) ⟨247, 145, 247, 173⟩) ⟨247, 134, 247, 140⟩ ⟨247, 141, 247, 144⟩ ⟨247, 141, 247, 174⟩ ⟨247, 134, 247, 175⟩) .nil))))) ⟨247, 15, 247, 176⟩) ⟨247, 4, 247, 176⟩)
 (.cons (.ite (.bop .Or (.cons (.cmp .ne (.blt .repr ⟨248, 7, 248, 11⟩ (.cons (.lst (.cons (.call 19 "is_shown" ⟨248, 13, 248, 21⟩ (.cons (.name "_law_kind_here" 1 ⟨248, 22, 248, 36⟩) .nil) ⟨248, 13, 248, 37⟩) (.cons (.call 20 "is_met" ⟨248, 39, 248, 45⟩ (.cons (.name "_law_kind_here" 1 ⟨248, 46, 248, 60⟩) .nil) ⟨248, 39, 248, 61⟩) (.cons (.call 21 "is_data" ⟨248, 63, 248, 70⟩ (.cons (.name "_law_kind_here" 1 ⟨248, 71, 248, 85⟩) .nil) ⟨248, 63, 248, 86⟩) (.cons (.call 22 "kind_size" ⟨248, 88, 248, 97⟩ (.cons (.name "_law_kind_here" 1 ⟨248, 98, 248, 112⟩) .nil) ⟨248, 88, 248, 113⟩) (.cons (.call 23 "letters" ⟨248, 115, 248, 122⟩ (.cons (.name "_law_kind_here" 1 ⟨248, 123, 248, 137⟩) .nil) ⟨248, 115, 248, 138⟩) .nil))))) ⟨248, 12, 248, 139⟩) .nil) ⟨248, 7, 248, 140⟩) (.blt .repr ⟨248, 144, 248, 148⟩ (.cons (.name "_law_due" 2 ⟨248, 149, 248, 157⟩) .nil) ⟨248, 144, 248, 158⟩) ⟨248, 7, 248, 158⟩) (.cons (.cmp .notn (.call 8 "is_kind" ⟨248, 162, 248, 169⟩ (.cons (.name "_law_kind_here" 1 ⟨248, 170, 248, 184⟩) .nil) ⟨248, 162, 248, 185⟩) (.bl true 0 ⟨248, 193, 248, 197⟩) ⟨248, 162, 248, 197⟩) .nil)) ⟨248, 7, 248, 197⟩) (.cons (.ret (.bl false 0 ⟨249, 15, 249, 20⟩) ⟨249, 8, 249, 20⟩)
 .nil) .nil ⟨248, 4, 249, 20⟩)
 (.cons (.ite (.cmp .ne (.blt .repr ⟨250, 7, 250, 11⟩ (.cons (.lst (.cons (.callK 19 "is_shown" ⟨250, 13, 250, 21⟩ .nil (.cons "kind" (.name "_law_kind_here" 1 ⟨250, 27, 250, 41⟩) ⟨250, 22, 250, 41⟩ .nil) ⟨250, 13, 250, 42⟩) (.cons (.callK 20 "is_met" ⟨250, 44, 250, 50⟩ .nil (.cons "kind" (.name "_law_kind_here" 1 ⟨250, 56, 250, 70⟩) ⟨250, 51, 250, 70⟩ .nil) ⟨250, 44, 250, 71⟩) (.cons (.callK 21 "is_data" ⟨250, 73, 250, 80⟩ .nil (.cons "kind" (.name "_law_kind_here" 1 ⟨250, 86, 250, 100⟩) ⟨250, 81, 250, 100⟩ .nil) ⟨250, 73, 250, 101⟩) (.cons (.callK 22 "kind_size" ⟨250, 103, 250, 112⟩ .nil (.cons "kind" (.name "_law_kind_here" 1 ⟨250, 118, 250, 132⟩) ⟨250, 113, 250, 132⟩ .nil) ⟨250, 103, 250, 133⟩) .nil)))) ⟨250, 12, 250, 134⟩) .nil) ⟨250, 7, 250, 135⟩) (.blt .repr ⟨250, 139, 250, 143⟩ (.cons (.slc (.name "_law_due" 2 ⟨250, 144, 250, 152⟩) .non (.some (.int 4 0 ⟨250, 154, 250, 155⟩)) ⟨250, 153, 250, 155⟩ ⟨250, 144, 250, 156⟩) .nil) ⟨250, 139, 250, 157⟩) ⟨250, 7, 250, 157⟩) (.cons (.ret (.bl false 0 ⟨251, 15, 251, 20⟩) ⟨251, 8, 251, 20⟩)
 .nil) .nil ⟨250, 4, 251, 20⟩)
 (.cons (.asg "_law_other" 3 ⟨252, 4, 252, 14⟩ (.call 39 "_law_kind" ⟨252, 17, 252, 26⟩ (.cons (.name "_law_pot_here" 0 ⟨252, 27, 252, 40⟩) (.cons (.int 2 0 ⟨252, 42, 252, 43⟩) .nil)) ⟨252, 17, 252, 44⟩) ⟨252, 4, 252, 44⟩)
 (.cons (.ite (.bop .Or (.cons (.cmp .ne (.call 19 "is_shown" ⟨253, 7, 253, 15⟩ (.cons (.tup (.cons (.str "fun" 0 ⟨253, 17, 253, 22⟩) (.cons (.name "_law_other" 3 ⟨253, 24, 253, 34⟩) (.cons (.name "_law_kind_here" 1 ⟨253, 36, 253, 50⟩) .nil))) 0 ⟨253, 16, 253, 51⟩) .nil) ⟨253, 7, 253, 52⟩) (.bop .And (.cons (.call 34 "_law_is_met" ⟨253, 57, 253, 68⟩ (.cons (.name "_law_other" 3 ⟨253, 69, 253, 79⟩) .nil) ⟨253, 57, 253, 80⟩) (.cons (.sub (.name "_law_due" 2 ⟨253, 85, 253, 93⟩) (.int 0 0 ⟨253, 94, 253, 95⟩) ⟨253, 85, 253, 96⟩) .nil)) ⟨253, 57, 253, 96⟩) ⟨253, 7, 253, 97⟩) (.cons (.cmp .ne (.call 20 "is_met" ⟨253, 101, 253, 107⟩ (.cons (.tup (.cons (.str "fun" 0 ⟨253, 109, 253, 114⟩) (.cons (.name "_law_other" 3 ⟨253, 116, 253, 126⟩) (.cons (.name "_law_kind_here" 1 ⟨253, 128, 253, 142⟩) .nil))) 0 ⟨253, 108, 253, 143⟩) .nil) ⟨253, 101, 253, 144⟩) (.bop .And (.cons (.call 33 "_law_is_shown" ⟨253, 149, 253, 162⟩ (.cons (.name "_law_other" 3 ⟨253, 163, 253, 173⟩) .nil) ⟨253, 149, 253, 174⟩) (.cons (.sub (.name "_law_due" 2 ⟨253, 179, 253, 187⟩) (.int 1 0 ⟨253, 188, 253, 189⟩) ⟨253, 179, 253, 190⟩) .nil)) ⟨253, 149, 253, 190⟩) ⟨253, 101, 253, 191⟩) .nil)) ⟨253, 7, 253, 191⟩) (.cons (.ret (.bl false 0 ⟨254, 15, 254, 20⟩) ⟨254, 8, 254, 20⟩)
 .nil) .nil ⟨253, 4, 254, 20⟩)
 (.cons (.ret (.bop .And (.cons (.notV (.call 20 "is_met" ⟨255, 15, 255, 21⟩ (.cons (.tup (.cons (.str "sum" 0 ⟨255, 23, 255, 28⟩) (.cons (.name "_law_kind_here" 1 ⟨255, 30, 255, 44⟩) (.cons (.name "_law_other" 3 ⟨255, 46, 255, 56⟩) .nil))) 0 ⟨255, 22, 255, 57⟩) .nil) ⟨255, 15, 255, 58⟩) ⟨255, 11, 255, 58⟩) (.cons (.notV (.call 21 "is_data" ⟨255, 68, 255, 75⟩ (.cons (.tup (.cons (.str "fun" 0 ⟨255, 77, 255, 82⟩) (.cons (.name "_law_kind_here" 1 ⟨255, 84, 255, 98⟩) (.cons (.name "_law_other" 3 ⟨255, 100, 255, 110⟩) .nil))) 0 ⟨255, 76, 255, 111⟩) .nil) ⟨255, 68, 255, 112⟩) ⟨255, 64, 255, 112⟩) .nil)) ⟨255, 11, 255, 113⟩) ⟨255, 4, 255, 113⟩)
 .nil))))))
/-- _law_right -/
def b43 : Ss :=
 (.cons (.par3 "_law_kind_here" 1 ⟨257, 4, 257, 18⟩ "_law_other" 2 ⟨257, 20, 257, 30⟩ "_law_letter" 3 ⟨257, 32, 257, 43⟩ 0 ⟨257, 4, 257, 43⟩ (.call 39 "_law_kind" ⟨257, 47, 257, 56⟩ (.cons (.name "_law_pot_here" 0 ⟨257, 57, 257, 70⟩) (.cons (.int 3 0 ⟨257, 72, 257, 73⟩) .nil)) ⟨257, 47, 257, 74⟩) (.call 39 "_law_kind" ⟨257, 76, 257, 85⟩ (.cons (.name "_law_pot_here" 0 ⟨257, 86, 257, 99⟩) (.cons (.int 1 0 ⟨257, 101, 257, 102⟩) .nil)) ⟨257, 76, 257, 103⟩) (.call 31 "_law_draw" ⟨257, 105, 257, 114⟩ (.cons (.name "_law_pot_here" 0 ⟨257, 115, 257, 128⟩) (.cons (.int 3 0 ⟨257, 130, 257, 131⟩) .nil)) ⟨257, 105, 257, 132⟩) 0 ⟨257, 46, 257, 133⟩ ⟨257, 4, 257, 133⟩)
 (.cons (.asg "_law_told" 4 ⟨258, 4, 258, 13⟩ (.call 24 "put_kind" ⟨258, 16, 258, 24⟩ (.cons (.name "_law_kind_here" 1 ⟨258, 25, 258, 39⟩) (.cons (.name "_law_letter" 3 ⟨258, 41, 258, 52⟩) (.cons (.name "_law_other" 2 ⟨258, 54, 258, 64⟩) .nil))) ⟨258, 16, 258, 65⟩) ⟨258, 4, 258, 65⟩)
 (.cons (.ite (.bop .Or (.cons (.not (.tr (.call 42 "_law_kinds_right" ⟨259, 11, 259, 27⟩ (.cons (.name "_law_pot_here" 0 ⟨259, 28, 259, 41⟩) (.cons (.name "_law_kind_here" 1 ⟨259, 43, 259, 57⟩) .nil)) ⟨259, 11, 259, 58⟩)) ⟨259, 7, 259, 58⟩) (.cons (.not (.tr (.call 42 "_law_kinds_right" ⟨259, 66, 259, 82⟩ (.cons (.name "_law_pot_here" 0 ⟨259, 83, 259, 96⟩) (.cons (.name "_law_told" 4 ⟨259, 98, 259, 107⟩) .nil)) ⟨259, 66, 259, 108⟩)) ⟨259, 62, 259, 108⟩) (.cons (.not (.tr (.call 42 "_law_kinds_right" ⟨259, 117, 259, 133⟩ (.cons (.name "_law_pot_here" 0 ⟨259, 134, 259, 147⟩) (.cons (.name "_law_other" 2 ⟨259, 149, 259, 159⟩) .nil)) ⟨259, 117, 259, 160⟩)) ⟨259, 113, 259, 160⟩) .nil))) ⟨259, 7, 259, 161⟩) (.cons (.ret (.bl false 0 ⟨260, 15, 260, 20⟩) ⟨260, 8, 260, 20⟩)
 .nil) .nil ⟨259, 4, 260, 20⟩)
 (.cons (.ite (.bop .Or (.cons (.cmp .ne (.name "_law_told" 4 ⟨261, 7, 261, 16⟩) (.call 38 "_law_put" ⟨261, 20, 261, 28⟩ (.cons (.name "_law_kind_here" 1 ⟨261, 29, 261, 43⟩) (.cons (.name "_law_letter" 3 ⟨261, 45, 261, 56⟩) (.cons (.name "_law_other" 2 ⟨261, 58, 261, 68⟩) .nil))) ⟨261, 20, 261, 69⟩) ⟨261, 7, 261, 69⟩) (.cons (.cmp .ne (.callK 24 "put_kind" ⟨261, 73, 261, 81⟩ .nil (.cons "other" (.name "_law_other" 2 ⟨261, 88, 261, 98⟩) ⟨261, 82, 261, 98⟩ (.cons "letter" (.name "_law_letter" 3 ⟨261, 107, 261, 118⟩) ⟨261, 100, 261, 118⟩ (.cons "kind" (.name "_law_kind_here" 1 ⟨261, 125, 261, 139⟩) ⟨261, 120, 261, 139⟩ .nil))) ⟨261, 73, 261, 140⟩) (.name "_law_told" 4 ⟨261, 144, 261, 153⟩) ⟨261, 73, 261, 153⟩) .nil)) ⟨261, 7, 261, 153⟩) (.cons (.ret (.bl false 0 ⟨262, 15, 262, 20⟩) ⟨262, 8, 262, 20⟩)
 .nil) .nil ⟨261, 4, 262, 20⟩)
 (.cons (.ite (.bop .Or (.cons (.cmp .ne (.call 24 "put_kind" ⟨263, 7, 263, 15⟩ (.cons (.name "_law_kind_here" 1 ⟨263, 16, 263, 30⟩) (.cons (.name "_law_letter" 3 ⟨263, 32, 263, 43⟩) (.cons (.tup (.cons (.str "letter" 0 ⟨263, 46, 263, 54⟩) (.cons (.name "_law_letter" 3 ⟨263, 56, 263, 67⟩) .nil)) 0 ⟨263, 45, 263, 68⟩) .nil))) ⟨263, 7, 263, 69⟩) (.name "_law_kind_here" 1 ⟨263, 73, 263, 87⟩) ⟨263, 7, 263, 87⟩) (.cons (.bop .And (.cons (.cmp .notin (.name "_law_letter" 3 ⟨263, 92, 263, 103⟩) (.call 23 "letters" ⟨263, 111, 263, 118⟩ (.cons (.name "_law_kind_here" 1 ⟨263, 119, 263, 133⟩) .nil) ⟨263, 111, 263, 134⟩) ⟨263, 92, 263, 134⟩) (.cons (.cmp .ne (.name "_law_told" 4 ⟨263, 139, 263, 148⟩) (.name "_law_kind_here" 1 ⟨263, 152, 263, 166⟩) ⟨263, 139, 263, 166⟩) .nil)) ⟨263, 92, 263, 166⟩) .nil)) ⟨263, 7, 263, 167⟩) (.cons (.ret (.bl false 0 ⟨264, 15, 264, 20⟩) ⟨264, 8, 264, 20⟩)
 .nil) .nil ⟨263, 4, 264, 20⟩)
 (.cons (.par false false "_law_more" 5 ⟨265, 4, 265, 13⟩ "_law_last" 6 ⟨265, 15, 265, 24⟩ 0 ⟨265, 4, 265, 24⟩ (.call 39 "_law_kind" ⟨265, 28, 265, 37⟩ (.cons (.name "_law_pot_here" 0 ⟨265, 38, 265, 51⟩) (.cons (.int 1 0 ⟨265, 53, 265, 54⟩) .nil)) ⟨265, 28, 265, 55⟩) (.bin .mod (.bin .add (.name "_law_letter" 3 ⟨265, 58, 265, 69⟩) (.int 1 0 ⟨265, 72, 265, 73⟩) ⟨265, 58, 265, 73⟩) (.int 3 0 ⟨265, 77, 265, 78⟩) ⟨265, 57, 265, 78⟩) 0 ⟨265, 27, 265, 79⟩ ⟨265, 4, 265, 79⟩)
 (.cons (.ite (.cmp .ne (.call 24 "put_kind" ⟨266, 7, 266, 15⟩ (.cons (.call 24 "put_kind" ⟨266, 16, 266, 24⟩ (.cons (.name "_law_kind_here" 1 ⟨266, 25, 266, 39⟩) (.cons (.name "_law_letter" 3 ⟨266, 41, 266, 52⟩) (.cons (.name "_law_more" 5 ⟨266, 54, 266, 63⟩) .nil))) ⟨266, 16, 266, 64⟩) (.cons (.name "_law_last" 6 ⟨266, 66, 266, 75⟩) (.cons (.tup (.cons (.str "count" 0 ⟨266, 78, 266, 85⟩) .nil) 0 ⟨266, 77, 266, 87⟩) .nil))) ⟨266, 7, 266, 88⟩) (.call 38 "_law_put" ⟨266, 92, 266, 100⟩ (.cons (.call 38 "_law_put" ⟨266, 101, 266, 109⟩ (.cons (.name "_law_kind_here" 1 ⟨266, 110, 266, 124⟩) (.cons (.name "_law_letter" 3 ⟨266, 126, 266, 137⟩) (.cons (.name "_law_more" 5 ⟨266, 139, 266, 148⟩) .nil))) ⟨266, 101, 266, 149⟩) (.cons (.name "_law_last" 6 ⟨266, 151, 266, 160⟩) (.cons (.tup (.cons (.str "count" 0 ⟨266, 163, 266, 170⟩) .nil) 0 ⟨266, 162, 266, 172⟩) .nil))) ⟨266, 92, 266, 173⟩) ⟨266, 7, 266, 173⟩) (.cons (.ret (.bl false 0 ⟨267, 15, 267, 20⟩) ⟨267, 8, 267, 20⟩)
 .nil) .nil ⟨266, 4, 267, 20⟩)
 (.cons (.asg "_law_term" 7 ⟨268, 4, 268, 13⟩ (.call 41 "_law_made" ⟨268, 16, 268, 25⟩ (.cons (.name "_law_pot_here" 0 ⟨268, 26, 268, 39⟩) (.cons (.call 39 "_law_kind" ⟨268, 41, 268, 50⟩ (.cons (.name "_law_pot_here" 0 ⟨268, 51, 268, 64⟩) (.cons (.int 2 0 ⟨268, 66, 268, 67⟩) .nil)) ⟨268, 41, 268, 68⟩) (.cons (.lst (.cons (.call 39 "_law_kind" ⟨268, 71, 268, 80⟩ (.cons (.name "_law_pot_here" 0 ⟨268, 81, 268, 94⟩) (.cons (.int 1 0 ⟨268, 96, 268, 97⟩) .nil)) ⟨268, 71, 268, 98⟩) (.cons (.tup (.cons (.str "letter" 0 ⟨268, 101, 268, 109⟩) (.cons (.int 0 0 ⟨268, 111, 268, 112⟩) .nil)) 0 ⟨268, 100, 268, 113⟩) (.cons (.tup (.cons (.str "letter" 0 ⟨268, 116, 268, 124⟩) (.cons (.int 1 0 ⟨268, 126, 268, 127⟩) .nil)) 0 ⟨268, 115, 268, 128⟩) .nil))) ⟨268, 70, 268, 129⟩) (.cons (.int 3 0 ⟨268, 131, 268, 132⟩) .nil)))) ⟨268, 16, 268, 133⟩) ⟨268, 4, 268, 133⟩)
 (.cons (.asgO "_law_due" 8 ⟨269, 4, 269, 12⟩ (.lst .nil ⟨269, 15, 269, 17⟩) ⟨269, 4, 269, 17⟩)
 (.cons (.for (.name "_law_node" 9 ⟨270, 8, 270, 17⟩) (.seq (.name "_law_term" 7 ⟨270, 21, 270, 30⟩)) (.cons (.app "_law_due" 8 ⟨271, 8, 271, 16⟩ ⟨271, 8, 271, 23⟩ (.ife (.cmp .isin (.sub (.name "_law_node" 9 ⟨271, 91, 271, 100⟩) (.int 0 0 ⟨271, 101, 271, 102⟩) ⟨271, 91, 271, 103⟩) (.lst (.cons (.str "fun" 0 ⟨271, 108, 271, 113⟩) (.cons (.str "left" 0 ⟨271, 115, 271, 121⟩) (.cons (.str "right" 0 ⟨271, 123, 271, 130⟩) (.cons (.str "turns" 0 ⟨271, 132, 271, 139⟩) .nil)))) ⟨271, 107, 271, 140⟩) ⟨271, 91, 271, 140⟩) (.tup (.cons (.sub (.name "_law_node" 9 ⟨271, 25, 271, 34⟩) (.int 0 0 ⟨271, 35, 271, 36⟩) ⟨271, 25, 271, 37⟩) (.cons (.call 38 "_law_put" ⟨271, 39, 271, 47⟩ (.cons (.sub (.name "_law_node" 9 ⟨271, 48, 271, 57⟩) (.int 1 0 ⟨271, 58, 271, 59⟩) ⟨271, 48, 271, 60⟩) (.cons (.name "_law_letter" 3 ⟨271, 62, 271, 73⟩) (.cons (.name "_law_other" 2 ⟨271, 75, 271, 85⟩) .nil))) ⟨271, 39, 271, 86⟩) .nil)) 0 ⟨271, 24, 271, 87⟩) (.name "_law_node" 9 ⟨271, 146, 271, 155⟩) ⟨271, 24, 271, 155⟩) ⟨271, 8, 271, 156⟩ ⟨271, 8, 271, 156⟩)
 .nil) ⟨270, 4, 271, 156⟩)
 (.cons (.asg "_law_shown" 10 ⟨272, 4, 272, 14⟩ (.blt .repr ⟨272, 17, 272, 21⟩ (.cons (.name "_law_term" 7 ⟨272, 22, 272, 31⟩) .nil) ⟨272, 17, 272, 32⟩) ⟨272, 4, 272, 32⟩)
 (.cons (.frz [8] (.ite (.cmp .ne (.blt .repr ⟨273, 7, 273, 11⟩ (.cons (.lst (.cons (.call 29 "letters_put" ⟨273, 13, 273, 24⟩ (.cons (.name "_law_term" 7 ⟨273, 25, 273, 34⟩) (.cons (.name "_law_letter" 3 ⟨273, 36, 273, 47⟩) (.cons (.name "_law_other" 2 ⟨273, 49, 273, 59⟩) .nil))) ⟨273, 13, 273, 60⟩) (.cons (.callK 29 "letters_put" ⟨273, 62, 273, 73⟩ .nil (.cons "kind" (.name "_law_other" 2 ⟨273, 79, 273, 89⟩) ⟨273, 74, 273, 89⟩ (.cons "letter" (.name "_law_letter" 3 ⟨273, 98, 273, 109⟩) ⟨273, 91, 273, 109⟩ (.cons "term" (.blt .tuple ⟨273, 116, 273, 121⟩ (.cons (.name "_law_term" 7 ⟨273, 122, 273, 131⟩) .nil) ⟨273, 116, 273, 132⟩) ⟨273, 111, 273, 132⟩ .nil))) ⟨273, 62, 273, 133⟩) .nil)) ⟨273, 12, 273, 134⟩) .nil) ⟨273, 7, 273, 135⟩) (.blt .repr ⟨273, 139, 273, 143⟩ (.cons (.lst (.cons (.name "_law_due" 8 ⟨273, 145, 273, 153⟩) (.cons (.name "_law_due" 8 ⟨273, 155, 273, 163⟩) .nil)) ⟨273, 144, 273, 164⟩) .nil) ⟨273, 139, 273, 165⟩) ⟨273, 7, 273, 165⟩) (.cons (.ret (.bl false 0 ⟨274, 15, 274, 20⟩) ⟨274, 8, 274, 20⟩)
 .nil) .nil ⟨273, 4, 274, 20⟩))
 (.cons (.ret (.bop .And (.cons (.cmp .eq (.call 29 "letters_put" ⟨275, 11, 275, 22⟩ (.cons (.name "_law_term" 7 ⟨275, 23, 275, 32⟩) (.cons (.int 5 0 ⟨275, 34, 275, 35⟩) (.cons (.name "_law_other" 2 ⟨275, 37, 275, 47⟩) .nil))) ⟨275, 11, 275, 48⟩) (.name "_law_term" 7 ⟨275, 52, 275, 61⟩) ⟨275, 11, 275, 61⟩) (.cons (.cmp .eq (.blt .repr ⟨275, 66, 275, 70⟩ (.cons (.name "_law_term" 7 ⟨275, 71, 275, 80⟩) .nil) ⟨275, 66, 275, 81⟩) (.name "_law_shown" 10 ⟨275, 85, 275, 95⟩) ⟨275, 66, 275, 95⟩) .nil)) ⟨275, 11, 275, 95⟩) ⟨275, 4, 275, 95⟩)
 .nil)))))))))))))
/-- law -/
def b44 : Ss :=
 (.cons (.ret (.call 43 "_law_right" ⟨277, 11, 277, 21⟩ (.cons (.call 30 "_law_pot" ⟨277, 22, 277, 30⟩ (.cons (.name "_law_script" 0 ⟨277, 31, 277, 42⟩) (.cons (.int 0 0 ⟨277, 44, 277, 45⟩) .nil)) ⟨277, 22, 277, 46⟩) .nil) ⟨277, 11, 277, 47⟩) ⟨277, 4, 277, 47⟩)
 .nil)
def defs : List Df := [
  ⟨"is_integer", ["value"], 1, b0⟩,
  ⟨"is_count", ["value"], 1, b1⟩,
  ⟨"is_list", ["value"], 1, b2⟩,
  ⟨"want_at_most", ["what", "limit", "number"], 3, b3⟩,
  ⟨"is_leaf", ["value"], 1, b4⟩,
  ⟨"is_letter_word", ["value"], 1, b5⟩,
  ⟨"is_letter", ["value"], 1, b6⟩,
  ⟨"is_branch", ["value"], 1, b7⟩,
  ⟨"is_kind", ["value", "left", "signs", "one", "deep"], 1, b8⟩,
  ⟨"want_kind", ["value"], 1, b9⟩,
  ⟨"want_letter", ["value"], 1, b10⟩,
  ⟨"shown_kind", ["kind"], 1, b11⟩,
  ⟨"met_kind", ["kind"], 1, b12⟩,
  ⟨"data_kind", ["kind"], 1, b13⟩,
  ⟨"signs_of", ["kind"], 1, b14⟩,
  ⟨"depth_of", ["kind"], 1, b15⟩,
  ⟨"letters_in", ["kind"], 1, b16⟩,
  ⟨"put_letter", ["kind", "letter", "other"], 3, b17⟩,
  ⟨"put_letter_told", ["kind", "letter", "other", "times", "found", "one"], 3, b18⟩,
  ⟨"is_shown", ["kind"], 1, b19⟩,
  ⟨"is_met", ["kind"], 1, b20⟩,
  ⟨"is_data", ["kind"], 1, b21⟩,
  ⟨"kind_size", ["kind"], 1, b22⟩,
  ⟨"letters", ["kind"], 1, b23⟩,
  ⟨"put_kind", ["kind", "letter", "other"], 3, b24⟩,
  ⟨"is_node", ["value"], 1, b25⟩,
  ⟨"are_tree", ["nodes", "wanted", "node"], 1, b26⟩,
  ⟨"is_term", ["value", "node"], 1, b27⟩,
  ⟨"want_term", ["value"], 1, b28⟩,
  ⟨"letters_put", ["term", "letter", "kind", "nodes", "found", "node"], 3, b29⟩,
  ⟨"_law_pot", ["_law_script", "_law_k", "_law_cell"], 2, b30⟩,
  ⟨"_law_draw", ["_law_pot_here", "_law_size", "_law_digit"], 2, b31⟩,
  ⟨"_law_pick", ["_law_pot_here", "_law_some"], 2, b32⟩,
  ⟨"_law_is_shown", ["_law_kind_here"], 1, b33⟩,
  ⟨"_law_is_met", ["_law_kind_here"], 1, b34⟩,
  ⟨"_law_is_data", ["_law_kind_here"], 1, b35⟩,
  ⟨"_law_signs", ["_law_kind_here"], 1, b36⟩,
  ⟨"_law_letters", ["_law_kind_here"], 1, b37⟩,
  ⟨"_law_put", ["_law_kind_here", "_law_letter", "_law_other"], 3, b38⟩,
  ⟨"_law_kind", ["_law_pot_here", "_law_deep", "_law_way", "_law_near"], 2, b39⟩,
  ⟨"_law_cut", ["_law_pot_here", "_law_kind_here", "_law_names", "_law_deep", "_law_way", "_law_other", "_law_body", "_law_what", "_law_near", "_law_far", "_law_more", "_law_arm", "_law_step"], 4, b40⟩,
  ⟨"_law_made", ["_law_pot_here", "_law_kind_here", "_law_names", "_law_deep", "_law_here", "_law_near", "_law_at", "_law_one"], 4, b41⟩,
  ⟨"_law_kinds_right", ["_law_pot_here", "_law_kind_here", "_law_due", "_law_other"], 2, b42⟩,
  ⟨"_law_right", ["_law_pot_here", "_law_kind_here", "_law_other", "_law_letter", "_law_told", "_law_more", "_law_last", "_law_term", "_law_due", "_law_node", "_law_shown"], 1, b43⟩,
  ⟨"law", ["_law_script"], 1, b44⟩]
def csts : List (Str × W) := [
  ("LETTER", .str "letter"),
  ("TELLING", .str "count"),
  ("PAIR", .str "pair"),
  ("SUM", .str "sum"),
  ("FUN", .str "fun"),
  ("MOST_LETTER", .int 5),
  ("MOST_SIGNS", .int 60),
  ("MOST_DEEP", .int 12),
  ("NAME", .str "name"),
  ("TOLD", .str "told"),
  ("MOST_NODES", .int 300),
  ("MOST_OUT", .int 299),
  ("MOST_TOLD", .int 1000000),
  ("BINDS", .dic [("name", .tup []), ("told", .tup []), ("fun", .tup [.int 1]), ("call", .tup [.int 0, .int 0]), ("both", .tup [.int 0, .int 0]), ("first", .tup [.int 0]), ("second", .tup [.int 0]), ("left", .tup [.int 0]), ("right", .tup [.int 0]), ("which", .tup [.int 0, .int 1, .int 1]), ("next", .tup [.int 0]), ("turns", .tup [.int 0, .int 1, .int 0]), ("let", .tup [.int 0, .int 1])]),
  ("WITH_KIND", .tup [.str "fun", .str "left", .str "right", .str "turns"])]
def pg : Pg := ⟨defs, fun x => csts.lookup x⟩
abbrev f_is_integer : Nat := 0
abbrev f_is_count : Nat := 1
abbrev f_is_list : Nat := 2
abbrev f_want_at_most : Nat := 3
abbrev f_is_leaf : Nat := 4
abbrev f_is_letter_word : Nat := 5
abbrev f_is_letter : Nat := 6
abbrev f_is_branch : Nat := 7
abbrev f_is_kind : Nat := 8
abbrev f_want_kind : Nat := 9
abbrev f_want_letter : Nat := 10
abbrev f_shown_kind : Nat := 11
abbrev f_met_kind : Nat := 12
abbrev f_data_kind : Nat := 13
abbrev f_signs_of : Nat := 14
abbrev f_depth_of : Nat := 15
abbrev f_letters_in : Nat := 16
abbrev f_put_letter : Nat := 17
abbrev f_put_letter_told : Nat := 18
abbrev f_is_shown : Nat := 19
abbrev f_is_met : Nat := 20
abbrev f_is_data : Nat := 21
abbrev f_kind_size : Nat := 22
abbrev f_letters : Nat := 23
abbrev f_put_kind : Nat := 24
abbrev f_is_node : Nat := 25
abbrev f_are_tree : Nat := 26
abbrev f_is_term : Nat := 27
abbrev f_want_term : Nat := 28
abbrev f_letters_put : Nat := 29
abbrev f_law_pot : Nat := 30
abbrev f_law_draw : Nat := 31
abbrev f_law_pick : Nat := 32
abbrev f_law_is_shown : Nat := 33
abbrev f_law_is_met : Nat := 34
abbrev f_law_is_data : Nat := 35
abbrev f_law_signs : Nat := 36
abbrev f_law_letters : Nat := 37
abbrev f_law_put : Nat := 38
abbrev f_law_kind : Nat := 39
abbrev f_law_cut : Nat := 40
abbrev f_law_made : Nat := 41
abbrev f_law_kinds_right : Nat := 42
abbrev f_law_right : Nat := 43
abbrev f_law : Nat := 44
end K13

set_option maxHeartbeats 0
namespace K13
open PySem PySem.Spec PyProof.Rows L2 Ev
abbrev row_ : PySem.W.OpenRow := PySem.W.OpenLaw.row PySem.Challenge.rw_selfprint_k13_whole_kinds_and_letters_pu
def top (i : Nat) : Stmt := row_.prog.main.body.getD i (.Pass ⟨0, 0, 0, 0⟩)
def isDef : Stmt → Option Str
  | .FunctionDef n .. => some n
  | _ => none
def at_ (x : Str) : Stmt := (row_.prog.main.body.find? fun s => isDef s == some x).getD (.Pass ⟨0, 0, 0, 0⟩)
def kws_ : List (Nat × Nat × List Str) := [(19, 0, ["kind"]), (20, 0, ["kind"]), (21, 0, ["kind"]), (22, 0, ["kind"]), (24, 0, ["other", "letter", "kind"]), (29, 0, ["kind", "letter", "term"])]
def sts_ : List (Df × Stmt) := [(⟨"is_integer", ["value"], 1, b0⟩, at_ "is_integer"), (⟨"is_count", ["value"], 1, b1⟩, at_ "is_count"), (⟨"is_list", ["value"], 1, b2⟩, at_ "is_list"), (⟨"want_at_most", ["what", "limit", "number"], 3, b3⟩, at_ "want_at_most"), (⟨"is_leaf", ["value"], 1, b4⟩, at_ "is_leaf"), (⟨"is_letter_word", ["value"], 1, b5⟩, at_ "is_letter_word"), (⟨"is_letter", ["value"], 1, b6⟩, at_ "is_letter"), (⟨"is_branch", ["value"], 1, b7⟩, at_ "is_branch"), (⟨"is_kind", ["value", "left", "signs", "one", "deep"], 1, b8⟩, at_ "is_kind"), (⟨"want_kind", ["value"], 1, b9⟩, at_ "want_kind"), (⟨"want_letter", ["value"], 1, b10⟩, at_ "want_letter"), (⟨"shown_kind", ["kind"], 1, b11⟩, at_ "shown_kind"), (⟨"met_kind", ["kind"], 1, b12⟩, at_ "met_kind"), (⟨"data_kind", ["kind"], 1, b13⟩, at_ "data_kind"), (⟨"signs_of", ["kind"], 1, b14⟩, at_ "signs_of"), (⟨"depth_of", ["kind"], 1, b15⟩, at_ "depth_of"), (⟨"letters_in", ["kind"], 1, b16⟩, at_ "letters_in"), (⟨"put_letter", ["kind", "letter", "other"], 3, b17⟩, at_ "put_letter"), (⟨"put_letter_told", ["kind", "letter", "other", "times", "found", "one"], 3, b18⟩, at_ "put_letter_told"), (⟨"is_shown", ["kind"], 1, b19⟩, at_ "is_shown"), (⟨"is_met", ["kind"], 1, b20⟩, at_ "is_met"), (⟨"is_data", ["kind"], 1, b21⟩, at_ "is_data"), (⟨"kind_size", ["kind"], 1, b22⟩, at_ "kind_size"), (⟨"letters", ["kind"], 1, b23⟩, at_ "letters"), (⟨"put_kind", ["kind", "letter", "other"], 3, b24⟩, at_ "put_kind"), (⟨"is_node", ["value"], 1, b25⟩, at_ "is_node"), (⟨"are_tree", ["nodes", "wanted", "node"], 1, b26⟩, at_ "are_tree"), (⟨"is_term", ["value", "node"], 1, b27⟩, at_ "is_term"), (⟨"want_term", ["value"], 1, b28⟩, at_ "want_term"), (⟨"letters_put", ["term", "letter", "kind", "nodes", "found", "node"], 3, b29⟩, at_ "letters_put"), (⟨"_law_pot", ["_law_script", "_law_k", "_law_cell"], 2, b30⟩, at_ "_law_pot"), (⟨"_law_draw", ["_law_pot_here", "_law_size", "_law_digit"], 2, b31⟩, at_ "_law_draw"), (⟨"_law_pick", ["_law_pot_here", "_law_some"], 2, b32⟩, at_ "_law_pick"), (⟨"_law_is_shown", ["_law_kind_here"], 1, b33⟩, at_ "_law_is_shown"), (⟨"_law_is_met", ["_law_kind_here"], 1, b34⟩, at_ "_law_is_met"), (⟨"_law_is_data", ["_law_kind_here"], 1, b35⟩, at_ "_law_is_data"), (⟨"_law_signs", ["_law_kind_here"], 1, b36⟩, at_ "_law_signs"), (⟨"_law_letters", ["_law_kind_here"], 1, b37⟩, at_ "_law_letters"), (⟨"_law_put", ["_law_kind_here", "_law_letter", "_law_other"], 3, b38⟩, at_ "_law_put"), (⟨"_law_kind", ["_law_pot_here", "_law_deep", "_law_way", "_law_near"], 2, b39⟩, at_ "_law_kind"), (⟨"_law_cut", ["_law_pot_here", "_law_kind_here", "_law_names", "_law_deep", "_law_way", "_law_other", "_law_body", "_law_what", "_law_near", "_law_far", "_law_more", "_law_arm", "_law_step"], 4, b40⟩, at_ "_law_cut"), (⟨"_law_made", ["_law_pot_here", "_law_kind_here", "_law_names", "_law_deep", "_law_here", "_law_near", "_law_at", "_law_one"], 4, b41⟩, at_ "_law_made"), (⟨"_law_kinds_right", ["_law_pot_here", "_law_kind_here", "_law_due", "_law_other"], 2, b42⟩, at_ "_law_kinds_right"), (⟨"_law_right", ["_law_pot_here", "_law_kind_here", "_law_other", "_law_letter", "_law_told", "_law_more", "_law_last", "_law_term", "_law_due", "_law_node", "_law_shown"], 1, b43⟩, at_ "_law_right"), (⟨"law", ["_law_script"], 1, b44⟩, at_ "law")]
def fn_ : List He.DefD := fnOf2 sts_
def fa_ : List He.Fa := faOf pg.defs
abbrev hk_ : PySem.W.Hook := He.hookX 6 fa_ fn_ (tabsOf csts) [] (cstsB csts)
def ob_ (s : PySem.W.SharedT) : He.AlX := He.obsX 6 fa_ fn_ (tabsOf csts) [] (cstsB csts) (HandSHeadRun.getT s)
theorem ob_eq_ (s : PySem.W.SharedT) : ob_ s = hk_.obs s.abs := He.obsX_eq (HandSHeadRun.getT_eq s)
def nm_ : Stmt → List Str
  | .FunctionDef n .. => [n]
  | .ClassDef n .. => [n]
  | .Assign [.Name n _] _ _ => [n]
  | _ => []
def lawIx_ : Nat := row_.prog.main.body.length - 1
def loose_ : List Str := (row_.prog.main.body.dropLast.flatMap nm_).eraseDups
theorem run_ (w : World) : HandSHeadRun.RunEq row_ (PySem.W.view row_.prog [lawIx_]) hk_ ob_ 6000 loose_ w :=
  PySem.W.byRow2 "special-get-raises" (P := fun w => HandSHeadRun.RunEq row_ (PySem.W.view row_.prog [lawIx_]) hk_ ob_ 6000 loose_ w) (fun w => by
    intro os
    kernel_rfl) (fun w => by
    intro os
    kernel_rfl) w
end K13

namespace Ev
open PySem PySem.Spec PyProof.Rows L2

/-! ## values in the heap -/
mutual
/-- w stands in the still part F of the heap as v; what changes stands at the places ι -/
inductive RV (K : PySem.W.Frag) (F : Hp) (ι : List Addr) : W → V → Prop
  | non : RV K F ι .non .non
  | bl (b : Bool) : RV K F ι (.bl b) (.bl b)
  | int (i : Int) : RV K F ι (.int i) (.int i)
  | str (s : Str) : RV K F ι (.str s) (.str s)
  | ty (n : String) : RV K F ι (.ty n) (.ty n)
  | tup {ws : List W} {a : Addr} {vs : List V} : SqT K F a vs → RVs K F ι ws vs → RV K F ι (.tup ws) (.ref a)
  | lst {ws : List W} {a : Addr} {vs : List V} : F a = some (.lst vs) → RVs K F ι ws vs → RV K F ι (.lst ws) (.ref a)
  | emp {a : Addr} : F a = some (.dK []) → RV K F ι .emp (.ref a)
  | scr {ns : List Int} {a : Addr} : SqL K F a (ns.map V.int) → RV K F ι (.scr ns) (.ref a)
  | ref {n : Nat} {a : Addr} : ι[n]? = some a → RV K F ι (.ref n) (.ref a)
inductive RVs (K : PySem.W.Frag) (F : Hp) (ι : List Addr) : List W → List V → Prop
  | nil : RVs K F ι [] []
  | cons {w : W} {v : V} {ws : List W} {vs : List V} : RV K F ι w v → RVs K F ι ws vs → RVs K F ι (w :: ws) (v :: vs)
end
/-- the still part grows -/
structure Le (F : Hp) (ι : List Addr) (F' : Hp) (ι' : List Addr) : Prop where
  f : ∀ a o, F a = some o → F' a = some o
  i : ∃ t, ι' = ι ++ t
theorem Le.refl {F : Hp} {ι : List Addr} : Le F ι F ι := ⟨fun _ _ h => h, [], by simp⟩
theorem Le.trans {F F1 F2 : Hp} {ι ι1 ι2 : List Addr} (a : Le F ι F1 ι1) (b : Le F1 ι1 F2 ι2) : Le F ι F2 ι2 := ⟨fun x o h => b.f x o (a.f x o h), by
  obtain ⟨t, rfl⟩ := a.i
  obtain ⟨u, rfl⟩ := b.i
  exact ⟨t ++ u, by simp⟩⟩
theorem Le.at {F F1 : Hp} {ι ι1 : List Addr} (a : Le F ι F1 ι1) {n : Nat} {x : Addr} (h : ι[n]? = some x) : ι1[n]? = some x := by
  obtain ⟨t, rfl⟩ := a.i
  rw [List.getElem?_append_left (List.getElem?_eq_some_iff.mp h).1]
  exact h
section
variable {K : PySem.W.Frag} {F F' : Hp} {ι ι' : List Addr}
theorem rd_mono {u : HO} {a : Addr} (f : ∀ a o, F a = some o → F' a = some o) (h : Rd F a u) : Rd F' a u := by
  rcases h with h | ⟨o, h⟩
  · exact .inl (f _ _ h)
  · exact .inr ⟨o, f _ _ h⟩
theorem sqT_mono {a : Addr} {vs : List V} (f : ∀ a o, F a = some o → F' a = some o) (h : SqT K F a vs) : SqT K F' a vs := by
  rcases h with h | h
  · exact .inl (rd_mono f h)
  · exact .inr h
theorem sqL_mono {a : Addr} {vs : List V} (f : ∀ a o, F a = some o → F' a = some o) (h : SqL K F a vs) : SqL K F' a vs := by
  rcases h with h | h
  · exact .inl (rd_mono f h)
  · exact .inr h
mutual
theorem RV.mono (l : Le F ι F' ι') : ∀ {w : W} {v : V}, RV K F ι w v → RV K F' ι' w v
  | _, _, .non => .non
  | _, _, .bl b => .bl b
  | _, _, .int i => .int i
  | _, _, .str s => .str s
  | _, _, .ty n => .ty n
  | _, _, .tup h r => .tup (sqT_mono l.f h) (RVs.mono l r)
  | _, _, .lst h r => .lst (l.f _ _ h) (RVs.mono l r)
  | _, _, .emp h => .emp (l.f _ _ h)
  | _, _, .scr h => .scr (sqL_mono l.f h)
  | _, _, .ref h => .ref (l.at h)
theorem RVs.mono (l : Le F ι F' ι') : ∀ {ws : List W} {vs : List V}, RVs K F ι ws vs → RVs K F' ι' ws vs
  | _, _, .nil => .nil
  | _, _, .cons h r => .cons (RV.mono l h) (RVs.mono l r)
end
theorem RVs.length : ∀ {ws : List W} {vs : List V}, RVs K F ι ws vs → ws.length = vs.length
  | _, _, .nil => rfl
  | _, _, .cons _ r => congrArg (· + 1) (RVs.length r)
theorem RVs.get : ∀ {ws : List W} {vs : List V} {i : Nat} {w : W}, RVs K F ι ws vs → ws[i]? = some w → ∃ v, vs[i]? = some v ∧ RV K F ι w v
  | _, _, _, _, .nil, h => by simp at h
  | _, _, 0, _, .cons r _, h => by
    have e := Option.some.inj h
    subst e
    exact ⟨_, rfl, r⟩
  | _, _, i + 1, w, .cons _ r, h => RVs.get (i := i) r h
theorem RVs.append : ∀ {ws us : List W} {vs xs : List V}, RVs K F ι ws vs → RVs K F ι us xs → RVs K F ι (ws ++ us) (vs ++ xs)
  | _, _, _, _, .nil, q => q
  | _, _, _, _, .cons r t, q => .cons r (RVs.append t q)
theorem RVs.rep {ws : List W} {vs : List V} (r : RVs K F ι ws vs) : ∀ n : Nat, RVs K F ι (List.replicate n ws).flatten (List.replicate n vs).flatten
  | 0 => .nil
  | n + 1 => by
    rw [List.replicate_succ, List.replicate_succ, List.flatten_cons, List.flatten_cons]
    exact r.append (RVs.rep r n)
theorem RVs.set {w : W} {v : V} (q : RV K F ι w v) : ∀ {ws : List W} {vs : List V} (i : Nat), RVs K F ι ws vs → RVs K F ι (ws.set i w) (vs.set i v)
  | _, _, _, .nil => .nil
  | _, _, 0, .cons _ r => .cons q r
  | _, _, i + 1, .cons h r => .cons h (RVs.set q i r)
theorem RVs.take : ∀ {ws : List W} {vs : List V} (n : Nat), RVs K F ι ws vs → RVs K F ι (ws.take n) (vs.take n)
  | _, _, 0, _ => .nil
  | _, _, _ + 1, .nil => .nil
  | _, _, n + 1, .cons r t => .cons r (RVs.take n t)
theorem RVs.drop : ∀ {ws : List W} {vs : List V} (n : Nat), RVs K F ι ws vs → RVs K F ι (ws.drop n) (vs.drop n)
  | _, _, 0, r => r
  | _, _, _ + 1, .nil => .nil
  | _, _, n + 1, .cons _ t => RVs.drop n t
theorem RVs.dropLast {ws : List W} {vs : List V} (r : RVs K F ι ws vs) : RVs K F ι ws.dropLast vs.dropLast := by
  rw [List.dropLast_eq_take, List.dropLast_eq_take, r.length]
  exact r.take _
theorem RVs.cutR {ws : List W} {vs : List V} (r : RVs K F ι ws vs) (lo hi : Option Int) : RVs K F ι (cut ws lo hi) (cutV vs lo hi) := by
  unfold cut cutV
  rw [r.length]
  exact (r.drop _).take _
theorem RVs.ints (ns : List Int) : RVs K F ι (ns.map W.int) (ns.map V.int) := by
  induction ns with
  | nil => exact .nil
  | cons n r ih => exact .cons (.int n) ih
theorem RVs.atI {ws : List W} {vs : List V} {i : Int} {w : W} (r : RVs K F ι ws vs) (h : L2.atI ws i = some w) : ∃ v, L2.atI vs i = some v ∧ RV K F ι w v := by
  unfold L2.atI at h ⊢
  rw [← r.length]
  cases q : ixN ws.length i with
  | none => rw [q] at h; cases h
  | some j =>
    rw [q] at h
    exact r.get (i := j) h
/-- flat values -/
theorem RV.flat {w : W} {v u : V} (h : RV K F ι w v) (e : w.flat = some u) : v = u ∧ flatV v = true := by
  cases h <;> first | (cases e; exact ⟨rfl, rfl⟩) | cases e
mutual
theorem RV.dat {H : Hp} (s : ∀ a o, F a = some o → H a = some o) : ∀ {w : W} {v : V} {d : PyData}, RV K F ι w v → w.dat = some d → Dp K H v d
  | _, _, _, .non, e => by unfold W.dat at e; cases e; exact .non
  | _, _, _, .bl b, e => by unfold W.dat at e; cases e; exact .bl b
  | _, _, _, .int i, e => by unfold W.dat at e; cases e; exact .int i
  | _, _, _, .str x, e => by unfold W.dat at e; cases e; exact .str x
  | _, _, _, .tup (ws := ws) h r, e => by
    unfold W.dat at e
    cases q : W.dats ws with
    | none => rw [q] at e; cases e
    | some ds =>
      rw [q] at e
      cases e
      exact .tup (sqT_mono s h) (RVs.dats s r q)
  | _, _, _, .lst (ws := ws) h r, e => by
    unfold W.dat at e
    cases q : W.dats ws with
    | none => rw [q] at e; cases e
    | some ds =>
      rw [q] at e
      cases e
      exact .lst (.inl (.inl (s _ _ h))) (RVs.dats s r q)
  | _, _, _, .ty n, e => by unfold W.dat at e; cases e
  | _, _, _, .emp h, e => by unfold W.dat at e; cases e
  | _, _, _, .scr h, e => by unfold W.dat at e; cases e
  | _, _, _, .ref h, e => by unfold W.dat at e; cases e
theorem RVs.dats {H : Hp} (s : ∀ a o, F a = some o → H a = some o) : ∀ {ws : List W} {vs : List V} {ds : List PyData}, RVs K F ι ws vs → W.dats ws = some ds → DpAll K H vs ds
  | _, _, _, .nil, e => by unfold W.dats at e; cases e; exact .nil
  | _, _, _, .cons (w := w) (ws := ws) h r, e => by
    unfold W.dats at e
    cases q1 : W.dat w with
    | none => rw [q1] at e; cases e
    | some d =>
      cases q2 : W.dats ws with
      | none => rw [q1, q2] at e; cases e
      | some ds =>
        rw [q1, q2] at e
        cases e
        exact .cons (RV.dat s h q1) (RVs.dats s r q2)
end
end

/-! ## dicts with text keys -/
inductive RKv (K : PySem.W.Frag) (F : Hp) (ι : List Addr) : List (Str × W) → List (L2.Key × V) → Prop
  | nil : RKv K F ι [] []
  | cons {s : Str} {w : W} {v : V} {r : List (Str × W)} {t : List (L2.Key × V)} : RV K F ι w v → RKv K F ι r t → RKv K F ι ((s, w) :: r) ((.inr s, v) :: t)
section
variable {K : PySem.W.Frag} {F F' : Hp} {ι ι' : List Addr}
theorem RKv.mono (l : Le F ι F' ι') : ∀ {r : List (Str × W)} {t : List (L2.Key × V)}, RKv K F ι r t → RKv K F' ι' r t
  | _, _, .nil => .nil
  | _, _, .cons q c => .cons (q.mono l) (RKv.mono l c)
theorem RKv.length : ∀ {r : List (Str × W)} {t : List (L2.Key × V)}, RKv K F ι r t → r.length = t.length
  | _, _, .nil => rfl
  | _, _, .cons _ c => congrArg (· + 1) (RKv.length c)
theorem inr_iff {s k : Str} : ((Sum.inr s : L2.Key) = .inr k) ↔ s = k := ⟨fun e => Sum.inr.inj e, fun e => congrArg _ e⟩
theorem RKv.get {s : Str} : ∀ {r : List (Str × W)} {t : List (L2.Key × V)}, RKv K F ι r t → (∀ w, dicGet r s = some w → ∃ v, valV t (.inr s) = some v ∧ RV K F ι w v) ∧ (dicGet r s = none → valV t (.inr s) = none)
  | _, _, .nil => ⟨fun w e => (by cases e), fun _ => rfl⟩
  | _, _, .cons (s := k) (w := w) (v := v) (r := r) (t := t) q c => by
    obtain ⟨h1, h2⟩ := RKv.get (s := s) c
    by_cases hk : k = s
    · subst hk
      have e : dicGet ((k, w) :: r) k = some w := by simp [dicGet]
      have e2 : valV ((Sum.inr k, v) :: t : List (L2.Key × V)) (.inr k) = some v := valV_pos rfl
      rw [e, e2]
      exact ⟨fun w' z => (by cases z; exact ⟨v, rfl, q⟩), fun z => (by cases z)⟩
    · have e : dicGet ((k, w) :: r) s = dicGet r s := by simp [dicGet, hk]
      have e2 : valV ((Sum.inr k, v) :: t : List (L2.Key × V)) (.inr s) = valV t (.inr s) := valV_neg (fun z => hk (Sum.inr.inj z))
      rw [e, e2]
      exact ⟨h1, h2⟩
theorem RKv.any {s : Str} : ∀ {r : List (Str × W)} {t : List (L2.Key × V)}, RKv K F ι r t → (t.any fun kv => decide (kv.1 = .inr s)) = r.any fun kv => decide (kv.1 = s)
  | _, _, .nil => rfl
  | _, _, .cons (s := k) q c => by
    rw [List.any_cons, List.any_cons, RKv.any c]
    congr 1
    exact decide_eq_decide.mpr inr_iff
theorem RKv.put {s : Str} {w : W} {v : V} (q : RV K F ι w v) {r : List (Str × W)} {t : List (L2.Key × V)} (c : RKv K F ι r t) : RKv K F ι (dicPut r s w) (putK t (.inr s) v) := by
  have ap : ∀ {r : List (Str × W)} {t : List (L2.Key × V)}, RKv K F ι r t → RKv K F ι (r ++ [(s, w)]) (t ++ [(.inr s, v)]) := fun {r t} c => by
    induction c with
    | nil => exact .cons q .nil
    | cons a _ ih => exact .cons a ih
  have mp : ∀ {r : List (Str × W)} {t : List (L2.Key × V)}, RKv K F ι r t → RKv K F ι (r.map fun kv => match decide (kv.1 = s) with | true => (kv.1, w) | false => kv) (t.map fun kv => if kv.1 = .inr s then (kv.1, v) else kv) := fun {r t} c => by
    induction c with
    | nil => exact .nil
    | @cons k x y r t a _ ih =>
      rw [List.map_cons, List.map_cons]
      by_cases hk : k = s
      · subst hk
        simp only [decide_true, if_true]
        exact .cons q ih
      · have e : ¬ ((Sum.inr k : L2.Key) = .inr s) := fun z => hk (Sum.inr.inj z)
        simp only [hk, decide_false, e, if_false]
        exact .cons a ih
  unfold dicPut putK
  rw [c.any]
  cases (r.any fun kv => decide (kv.1 = s)) with
  | true => exact mp c
  | false => exact ap c
end

/-! ## states -/
def ObR (K : PySem.W.Frag) (F : Hp) (ι : List Addr) : Ob → Option HO → Prop
  | .lst ws, o => ∃ vs, o = some (.lst vs) ∧ RVs K F ι ws vs
  | .dic kvs, o => ∃ ks, o = some (.dK ks) ∧ RKv K F ι kvs ks
theorem ObR.some {K : PySem.W.Frag} {F : Hp} {ι : List Addr} {b : Ob} {o : Option HO} (h : ObR K F ι b o) : o ≠ none := by
  cases b with
  | lst ws => obtain ⟨vs, e, _⟩ := h; rw [e]; simp
  | dic ws => obtain ⟨vs, e, _⟩ := h; rw [e]; simp
theorem ObR.mono {K : PySem.W.Frag} {F F' : Hp} {ι ι' : List Addr} (l : Le F ι F' ι') {b : Ob} {o : Option HO} (h : ObR K F ι b o) : ObR K F' ι' b o := by
  cases b with
  | lst ws =>
    obtain ⟨vs, e, r⟩ := h
    exact ⟨vs, e, r.mono l⟩
  | dic ws =>
    obtain ⟨vs, e, r⟩ := h
    exact ⟨vs, e, r.mono l⟩
/-- the heap's still part, and what changes -/
structure HR (K : PySem.W.Frag) (F : Hp) (ι : List Addr) (h : Obs) (H : Hp) : Prop where
  sub : ∀ a o, F a = some o → H a = some o
  len : ι.length = h.length
  nd : ι.Nodup
  ob : ∀ (n : Nat) (a : Addr) (o : Ob), ι[n]? = some a → h[n]? = some o → F a = none ∧ ObR K F ι o (H a)
/-- from one heap to a later one: what neither stands still nor changes by number is left alone -/
structure Xt (F : Hp) (ι : List Addr) (H : Hp) (F' : Hp) (ι' : List Addr) (H' : Hp) : Prop where
  le : Le F ι F' ι'
  h : ∀ a o, H a = some o → F a = none → a ∉ ι → H' a = some o
  n : ∀ a, F' a ≠ none → F a ≠ none ∨ H a = none
  m : ∀ a, a ∈ ι' → a ∈ ι ∨ H a = none
  d : ∀ a, H a ≠ none → H' a ≠ none
theorem Xt.refl {F : Hp} {ι : List Addr} {H : Hp} : Xt F ι H F ι H := ⟨.refl, fun _ _ h _ _ => h, fun _ h => .inl h, fun _ h => .inl h, fun _ h => h⟩
theorem Xt.trans {F F1 F2 : Hp} {ι ι1 ι2 : List Addr} {H H1 H2 : Hp} (a : Xt F ι H F1 ι1 H1) (b : Xt F1 ι1 H1 F2 ι2 H2) : Xt F ι H F2 ι2 H2 where
  le := a.le.trans b.le
  h := fun x o e n m => b.h x o (a.h x o e n m) (by
    cases q : F1 x with
    | none => rfl
    | some u =>
      rcases a.n x (by rw [q]; simp) with z | z
      · exact absurd n z
      · rw [z] at e; cases e) (fun hm => by
      rcases a.m x hm with z | z
      · exact m z
      · rw [z] at e; cases e)
  n := fun x hx => by
    rcases b.n x hx with z | z
    · exact a.n x z
    · refine .inr ?_
      cases q : H x with
      | none => rfl
      | some o => exact absurd z (a.d x (by rw [q]; simp))
  m := fun x hx => by
    rcases b.m x hx with z | z
    · exact a.m x z
    · refine .inr ?_
      cases q : H x with
      | none => rfl
      | some o => exact absurd z (a.d x (by rw [q]; simp))
  d := fun x hx => b.d x (a.d x hx)

/-- a def's slots -/
abbrev VS := List (Option V)
structure Ent where
  F : Hp
  ι : List Addr
  H : Hp
  /-- what nobody else may touch -/
  hold : Addr → Option HO := fun _ => none
theorem Xt.out {F : Hp} {ι : List Addr} {H : Hp} {F' : Hp} {ι' : List Addr} {H' : Hp} (x : Xt F ι H F' ι' H') {p : Addr} {o : HO} (e : H p = some o) (fn : F p = none) (ni : p ∉ ι) : H' p = some o ∧ F' p = none ∧ p ∉ ι' := by
  refine ⟨x.h p o e fn ni, ?_, fun hm => ?_⟩
  · cases q : F' p with
    | none => rfl
    | some u =>
      rcases x.n p (by rw [q]; simp) with z | z
      · exact absurd fn z
      · rw [z] at e; cases e
  · rcases x.m p hm with z | z
    · exact ni z
    · rw [z] at e; cases e
/-- a slot -/
def SlR (K : PySem.W.Frag) (F : Hp) (ι : List Addr) (H0 H : Hp) : Sl → Option (Option V) → Prop
  | .non, _ => True
  | .val w, o => ∃ v, o = some (some v) ∧ RV K F ι w v
  | .own ws, o => ∃ p vs, o = some (some (.ref p)) ∧ H p = some (.lst vs) ∧ RVs K F ι ws vs ∧ F p = none ∧ p ∉ ι ∧ H0 p = none
/-- a def's state, since its entry e0 -/
structure J (K : PySem.W.Frag) (e0 : Ent) (F : Hp) (ι : List Addr) (sl : Sls) (h : Obs) (σ : VS) (H : Hp) : Prop where
  hr : HR K F ι h H
  xt : Xt e0.F e0.ι e0.H F ι H
  len : sl.length = σ.length
  at_ : ∀ (i : Nat) (s : Sl), sl[i]? = some s → SlR K F ι e0.H H s σ[i]?
  ap : ∀ (i j : Nat) (ws us : List W) (p : Addr), sl[i]? = some (.own ws) → sl[j]? = some (.own us) → σ[i]? = some (some (.ref p)) → σ[j]? = some (some (.ref p)) → i = j
  hd : ∀ (a : Addr) (o : HO), e0.hold a = some o → H a = some o ∧ F a = none ∧ a ∉ ι ∧ ∀ (i : Nat) (ws : List W), sl[i]? = some (.own ws) → σ[i]? ≠ some (some (.ref a))
section
variable {K : PySem.W.Frag} {e0 : Ent} {F F' : Hp} {ι ι' : List Addr} {sl : Sls} {h h' : Obs} {σ : VS} {H H' : Hp}
/-- the heap goes on, the slots stay -/
theorem J.step (j : J K e0 F ι sl h σ H) (x : Xt F ι H F' ι' H') (r : HR K F' ι' h' H') : J K e0 F' ι' sl h' σ H' where
  hr := r
  xt := j.xt.trans x
  len := j.len
  at_ := fun i s e => by
    have q := j.at_ i s e
    cases s with
    | non => trivial
    | val w =>
      obtain ⟨v, e1, rv⟩ := q
      exact ⟨v, e1, rv.mono x.le⟩
    | own ws =>
      obtain ⟨p, vs, e1, e2, rv, fn, ni, n0⟩ := q
      obtain ⟨z1, z2, z3⟩ := x.out e2 fn ni
      exact ⟨p, vs, e1, z1, rv.mono x.le, z2, z3, n0⟩
  ap := j.ap
  hd := fun a o e => by
    obtain ⟨e1, e2, e3, e4⟩ := j.hd a o e
    obtain ⟨z1, z2, z3⟩ := x.out e1 e2 e3
    exact ⟨z1, z2, z3, e4⟩
/-- a new thing that stands still -/
theorem xt_new {p : Addr} {o : HO} (hp : H p = none) (s : ∀ a o, F a = some o → H a = some o) : Xt F ι H (upd F p o) ι (upd H p o) where
  le := ⟨fun a u e => by
    have hn : a ≠ p := fun z => by
      have := s a u e
      rw [z, hp] at this
      cases this
    rw [upd_ne hn]; exact e, [], by simp⟩
  h := fun a u e _ _ => by
    have hn : a ≠ p := fun z => by rw [z, hp] at e; cases e
    rw [upd_ne hn]; exact e
  n := fun a e => by
    by_cases hn : a = p
    · rw [hn]; exact .inr hp
    · rw [upd_ne hn] at e; exact .inl e
  m := fun a e => .inl e
  d := fun a e => by
    by_cases hn : a = p
    · rw [hn, upd_same]; simp
    · rw [upd_ne hn]; exact e
theorem hr_new {p : Addr} {o : HO} (hp : H p = none) (r : HR K F ι h H) : HR K (upd F p o) ι h (upd H p o) where
  sub := fun a u e => by
    by_cases hn : a = p
    · rw [hn, upd_same] at e ⊢; exact e
    · rw [upd_ne hn] at e ⊢; exact r.sub a u e
  len := r.len
  nd := r.nd
  ob := fun n a b e1 e2 => by
    obtain ⟨fn, q⟩ := r.ob n a b e1 e2
    have hn : a ≠ p := fun z => by
      have q2 := q.some
      rw [z, hp] at q2
      exact q2 rfl
    rw [upd_ne hn, upd_ne hn]
    exact ⟨fn, q.mono (xt_new (o := o) hp r.sub).le⟩
theorem J.new {p : Addr} {o : HO} (j : J K e0 F ι sl h σ H) (hp : H p = none) : J K e0 (upd F p o) ι sl h σ (upd H p o) := j.step (xt_new hp j.hr.sub) (hr_new hp j.hr)
theorem J.newLe {p : Addr} {o : HO} (j : J K e0 F ι sl h σ H) (hp : H p = none) : Le F ι (upd F p o) ι := (xt_new hp j.hr.sub).le
/-- a new thing that is nobody's yet: it is no part of the still heap -/
theorem J.loose {p : Addr} {o : HO} (j : J K e0 F ι sl h σ H) (hp : H p = none) : J K e0 F ι sl h σ (upd H p o) := j.step
  ⟨.refl, fun a u e _ _ => by rw [upd_ne (fun z => by rw [z, hp] at e; cases e)]; exact e, fun _ e => .inl e, fun _ e => .inl e, fun a e => by
    by_cases hn : a = p
    · rw [hn, upd_same]; simp
    · rw [upd_ne hn]; exact e⟩
  ⟨fun a u e => by
    have e2 := j.hr.sub a u e
    rw [upd_ne (fun z => by rw [z, hp] at e2; cases e2)]
    exact e2, j.hr.len, j.hr.nd, fun n a b e1 e2 => by
    obtain ⟨fn, q⟩ := j.hr.ob n a b e1 e2
    refine ⟨fn, ?_⟩
    rw [upd_ne (fun z => by
      have q2 := q.some
      rw [z, hp] at q2
      exact q2 rfl)]
    exact q⟩
theorem SqT.sub {a : Addr} {vs : List V} (r : HR K F ι h H) (q : SqT K F a vs) : SqT K H a vs := sqT_mono r.sub q
theorem SqL.sub {a : Addr} {vs : List V} (r : HR K F ι h H) (q : SqL K F a vs) : SqL K H a vs := sqL_mono r.sub q
end

/-! ## operands -/
/-- a value, or a list of the def's own that is looked at -/
def ROp (K : PySem.W.Frag) (sl : Sls) (σ : VS) (F : Hp) (ι : List Addr) (w : W) (v : V) : Prop :=
  RV K F ι w v ∨ ∃ (i : Nat) (ws : List W) (p : Addr), w = .lst ws ∧ v = .ref p ∧ sl[i]? = some (.own ws) ∧ σ[i]? = some (some (.ref p))
def RKd (K : PySem.W.Frag) (sl : Sls) (σ : VS) (k : Bool) (F : Hp) (ι : List Addr) (w : W) (v : V) : Prop := match k with
  | true => ROp K sl σ F ι w v
  | false => RV K F ι w v
/-- .. at a heap, lists read -/
def RN (K : PySem.W.Frag) (F : Hp) (ι : List Addr) (H : Hp) (w : W) (v : V) : Prop :=
  RV K F ι w v ∨ (∃ ws p vs, w = .lst ws ∧ v = .ref p ∧ H p = some (.lst vs) ∧ RVs K F ι ws vs) ∨ ∃ kvs p ks, w = .dic kvs ∧ v = .ref p ∧ H p = some (.dK ks) ∧ RKv K F ι kvs ks
section
variable {K : PySem.W.Frag} {e0 : Ent} {F F' : Hp} {ι ι' : List Addr} {sl : Sls} {h h' : Obs} {σ : VS} {H H' : Hp} {w : W} {v : V}
theorem ROp.mono (l : Le F ι F' ι') (r : ROp K sl σ F ι w v) : ROp K sl σ F' ι' w v := by
  rcases r with r | r
  · exact .inl (r.mono l)
  · exact .inr r
theorem RKd.of {k : Bool} (r : RV K F ι w v) : RKd K sl σ k F ι w v := by
  cases k with
  | true => exact .inl r
  | false => exact r
theorem J.now (j : J K e0 F ι sl h σ H) (r : ROp K sl σ F ι w v) : RN K F ι H (w.now h) v := by
  rcases r with r | ⟨i, ws, p, rfl, rfl, e1, e2⟩
  · cases r with
    | @ref n a e =>
      cases q : h[n]? with
      | none =>
        have z : (W.ref n).now h = .ref n := by simp only [W.now, q]
        rw [z]
        exact .inl (.ref e)
      | some o =>
        cases o with
        | lst ws =>
          obtain ⟨fn, vs, eo, rv⟩ := j.hr.ob n a _ e q
          have z : (W.ref n).now h = .lst ws := by simp only [W.now, q]
          rw [z]
          exact .inr (.inl ⟨ws, a, vs, rfl, rfl, eo, rv⟩)
        | dic kvs =>
          obtain ⟨fn, vs, eo, rv⟩ := j.hr.ob n a _ e q
          have z : (W.ref n).now h = .dic kvs := by simp only [W.now, q]
          rw [z]
          exact .inr (.inr ⟨kvs, a, vs, rfl, rfl, eo, rv⟩)
    | non => exact .inl .non
    | bl b => exact .inl (.bl b)
    | int i => exact .inl (.int i)
    | str s => exact .inl (.str s)
    | ty n => exact .inl (.ty n)
    | tup e q => exact .inl (.tup e q)
    | lst e q => exact .inl (.lst e q)
    | emp e => exact .inl (.emp e)
    | scr e => exact .inl (.scr e)
  · obtain ⟨p', vs, e3, e4, rv, _⟩ := j.at_ i _ e1
    rw [e2] at e3
    cases e3
    exact .inr (.inl ⟨ws, p, vs, rfl, rfl, e4, rv⟩)
/-- a list that is read -/
theorem RN.lst (s : ∀ a o, F a = some o → H a = some o) {ws : List W} (r : RN K F ι H (.lst ws) v) : ∃ p vs, v = .ref p ∧ H p = some (.lst vs) ∧ RVs K F ι ws vs := by
  rcases r with r | ⟨us, p, vs, e, rfl, e2, rv⟩ | ⟨_, _, _, e, _⟩
  · cases r with
    | lst e q => exact ⟨_, _, rfl, s _ _ e, q⟩
  · cases e
    exact ⟨p, vs, rfl, e2, rv⟩
  · cases e
/-- a dict that is read -/
theorem RN.dic {kvs : List (Str × W)} (r : RN K F ι H (.dic kvs) v) : ∃ p ks, v = .ref p ∧ H p = some (.dK ks) ∧ RKv K F ι kvs ks := by
  rcases r with r | ⟨us, p, vs, e, rfl, e2, rv⟩ | ⟨_, p, ks, e, rfl, e2, rv⟩
  · cases r
  · cases e
  · cases e
    exact ⟨p, ks, rfl, e2, rv⟩
theorem RN.rv (r : RN K F ι H w v) (n : ∀ ws, w ≠ .lst ws) (n2 : ∀ ws, w ≠ .dic ws := by intro _ z; cases z) : RV K F ι w v := by
  rcases r with r | ⟨ws, _, _, rfl, _⟩ | ⟨ws, _, _, rfl, _⟩
  · exact r
  · exact absurd rfl (n ws)
  · exact absurd rfl (n2 ws)
theorem RN.dat (s : ∀ a o, F a = some o → H a = some o) {d : PyData} (r : RN K F ι H w v) (e : w.dat = some d) : Dp K H v d := by
  rcases r with r | ⟨ws, p, vs, rfl, rfl, e2, rv⟩ | ⟨ws, p, vs, rfl, rfl, e2, rv⟩
  rotate_left 2
  · unfold W.dat at e
    cases e
  · exact r.dat s e
  · unfold W.dat at e
    cases q : W.dats ws with
    | none => rw [q] at e; cases e
    | some ds =>
      rw [q] at e
      cases e
      exact .lst (.inl (.inl e2)) (RVs.dats s rv q)
/-- the items of what can be walked -/
theorem RN.items (s : ∀ a o, F a = some o → H a = some o) {ws : List W} (r : RN K F ι H w v) (e : w.items = some ws) : ∃ p vs, v = .ref p ∧ (SqL K H p vs ∨ SqT K H p vs) ∧ RVs K F ι ws vs := by
  rcases r with r | ⟨us, p, vs, rfl, rfl, e2, rv⟩ | ⟨us, p, vs, rfl, rfl, e2, rv⟩
  rotate_left 2
  · cases e
  · cases r with
    | lst q rv =>
      cases e
      exact ⟨_, _, rfl, .inl (.inl (.inl (s _ _ q))), rv⟩
    | tup q rv =>
      cases e
      exact ⟨_, _, rfl, .inr (sqT_mono s q), rv⟩
    | @scr ns a q =>
      cases e
      exact ⟨_, _, rfl, .inl (sqL_mono s q), RVs.ints ns⟩
    | _ => cases e
  · cases e
    exact ⟨p, vs, rfl, .inl (.inl (.inl e2)), rv⟩
end
end Ev

namespace Ev
open PySem PySem.Spec PyProof.Rows L2

/-! ## operations by values: the layer's rules, joined -/
/-- what stands behind an operation: the still part may have grown by what is new -/
def Bh (K : PySem.W.Frag) (F : Hp) (ι : List Addr) (h : Obs) (H : Hp) (w : W) (Q : V → Hp → Prop) : Prop :=
  ∀ F' H' v, Xt F ι H F' ι H' → HR K F' ι h H' → RV K F' ι w v → Q v H'
def rBin (K : PySem.W.Frag) (op : BOp) : R2 := fun x y H Q => ∃ F ι h a b w, HR K F ι h H ∧ RN K F ι H a x ∧ RN K F ι H b y ∧ binW op a b = some w ∧ Bh K F ι h H w Q
def rCmp (K : PySem.W.Frag) (op : COp) : R2 := fun x y H Q => ∃ F ι h a b k, HR K F ι h H ∧ RN K F ι H a x ∧ RN K F ι H b y ∧ cmpW op a b = some k ∧ Q (.bl k) H
section
variable {K : PySem.W.Frag} {F : Hp} {ι : List Addr} {h : Obs} {H : Hp} {Q : V → Hp → Prop}
theorem Bh.now {w : W} {v : V} (b : Bh K F ι h H w Q) (r : HR K F ι h H) (q : RV K F ι w v) : Q v H := b F H v .refl r q
/-- a new list, a new tuple -/
theorem Bh.lst {ws : List W} {vs : List V} {p : Addr} (b : Bh K F ι h H (.lst ws) Q) (r : HR K F ι h H) (q : RVs K F ι ws vs) (hp : H p = none) : Q (.ref p) (upd H p (.lst vs)) :=
  b _ _ _ (xt_new hp r.sub) (hr_new hp r) (.lst upd_same (q.mono (xt_new (o := HO.lst vs) hp r.sub).le))
theorem Bh.tup {ws : List W} {vs : List V} {p : Addr} (b : Bh K F ι h H (.tup ws) Q) (r : HR K F ι h H) (q : RVs K F ι ws vs) (hp : H p = none) : Q (.ref p) (upd H p (.tup vs)) :=
  b _ _ _ (xt_new hp r.sub) (hr_new hp r) (.tup (.inl (.inl upd_same)) (q.mono (xt_new (o := HO.tup vs) hp r.sub).le))
theorem RN.int {i : Int} {v : V} (r : RN K F ι H (.int i) v) : v = .int i := by
  have q := r.rv (fun _ z => by cases z)
  cases q
  rfl
theorem RN.str {s : Str} {v : V} (r : RN K F ι H (.str s) v) : v = .str s := by
  have q := r.rv (fun _ z => by cases z)
  cases q
  rfl
theorem lineN_ok {n : Nat} (e : lineN n = true) : n ≤ sizeLine := of_decide_eq_true e
theorem and_ok {a b : Bool} (e : (a && b) = true) : a = true ∧ b = true := Bool.and_eq_true_iff.mp e
theorem small_ok {i : Int} (e : small i = true) : -(2 ^ 64) < i ∧ i < 2 ^ 64 := by
  obtain ⟨a, b⟩ := and_ok e
  exact ⟨of_decide_eq_true a, of_decide_eq_true b⟩
end
theorem intsW_ok {α : Type} {f : Int → Int → Option α} {a b : W} {r : α} (e : intsW f a b = some r) : ∃ i j, a = .int i ∧ b = .int j ∧ f i j = some r := by
  unfold intsW at e
  split at e
  · exact ⟨_, _, rfl, rfl, e⟩
  · cases e
theorem ifB_ok {α : Type} {b : Bool} {a r : α} (e : ifB b a = some r) : b = true ∧ a = r := by
  cases b with
  | true => cases e; exact ⟨rfl, rfl⟩
  | false => cases e
section
variable {X : Cx}
theorem bin_ok (op : BOp) : OpR X (binaryOp op.un) (rBin X.K op) := by
  intro pins s σ H x y v u Q I rx ry q
  obtain ⟨F, ι, h, a, b, w, hr, ra, rb, e, bh⟩ := q
  have onI : ∀ {f : Int → Int → Option W}, intsW f a b = some w → (∀ i j, x = .int i → y = .int j → f i j = some w → wpAny (model X.prog X.w) X.A (binaryOp op.un v u) (EP X pins σ Q) X.xe s) →
      wpAny (model X.prog X.w) X.A (binaryOp op.un v u) (EP X pins σ Q) X.xe s := fun e f => by
    obtain ⟨i, j, rfl, rfl, e⟩ := intsW_ok e
    exact f i j ra.int rb.int e
  cases op with
  | add =>
    have e : addW a b = some w := e
    unfold addW at e
    split at e
    · cases e
      cases ra.int; cases rb.int
      exact op_add pins s σ H _ _ v u Q I rx ry ⟨_, _, rfl, rfl, bh.now hr (.int _)⟩
    · split at e
      · rename_i z
        cases e
        cases ra.str; cases rb.str
        exact op_add_str pins s σ H _ _ v u Q I rx ry ⟨_, _, rfl, rfl, lineN_ok z, bh.now hr (.str _)⟩
      · cases e
    · split at e
      · rename_i z
        cases e
        obtain ⟨p, vs, rfl, e1, r1⟩ := ra.lst hr.sub
        obtain ⟨p', us, rfl, e2, r2⟩ := rb.lst hr.sub
        exact op_cat pins s σ H _ _ v u Q I rx ry ⟨_, _, _, _, rfl, rfl, e1, e2, by rw [← r1.length, ← r2.length]; exact lineN_ok z, fun p hp => bh.lst hr (r1.append r2) hp⟩
      · cases e
    · cases e
  | sub =>
    refine onI e fun i j ei ej e => ?_
    cases e
    exact op_sub pins s σ H x y v u Q I rx ry ⟨_, _, ei, ej, bh.now hr (.int _)⟩
  | mul =>
    have e : mulW a b = some w := e
    unfold mulW at e
    split at e
    · obtain ⟨z, rfl⟩ := ifB_ok e
      cases ra.int; cases rb.int
      refine op_mul pins s σ H _ _ v u Q I rx ry ⟨_, _, rfl, rfl, ?_, bh.now hr (.int _)⟩
      rcases Bool.or_eq_true_iff.mp z with z | z
      · exact .inl (small_ok z)
      · exact .inr (small_ok z)
    · obtain ⟨z, rfl⟩ := ifB_ok e
      obtain ⟨z1, z2⟩ := and_ok z
      obtain ⟨z2, z3⟩ := and_ok z2
      cases rb.int
      obtain ⟨p, vs, rfl, e1, r1⟩ := ra.lst hr.sub
      exact op_rep pins s σ H _ _ v u Q I rx ry ⟨_, _, _, rfl, rfl, e1, of_decide_eq_true z1, of_decide_eq_true z2, by rw [← r1.length]; exact lineN_ok z3, fun p hp => bh.lst hr (r1.rep _) hp⟩
    · cases e
  | fdiv =>
    refine onI e fun i j ei ej e => ?_
    obtain ⟨z, rfl⟩ := ifB_ok e
    obtain ⟨z1, z2⟩ := and_ok z
    exact op_fdiv pins s σ H x y v u Q I rx ry ⟨_, _, ei, ej, ⟨of_decide_eq_true z1, of_decide_eq_true z2⟩, bh.now hr (.int _)⟩
  | mod =>
    refine onI e fun i j ei ej e => ?_
    obtain ⟨z, rfl⟩ := ifB_ok e
    exact op_mod pins s σ H x y v u Q I rx ry ⟨_, _, ei, ej, of_decide_eq_true z, bh.now hr (.int _)⟩
  | pow =>
    refine onI e fun i j ei ej e => ?_
    obtain ⟨z, rfl⟩ := ifB_ok e
    obtain ⟨z1, z2⟩ := and_ok z
    obtain ⟨z2, z3⟩ := and_ok z2
    exact op_pow pins s σ H x y v u Q I rx ry ⟨_, _, ei, ej, ⟨of_decide_eq_true z1, of_decide_eq_true z2, of_decide_eq_true z3⟩, bh.now hr (.int _)⟩
mutual
theorem dat_plain : ∀ {w : W} {d : PyData}, w.dat = some d → d.plain = true
  | .non, _, e => by unfold W.dat at e; cases e; rfl
  | .bl _, _, e => by unfold W.dat at e; cases e; rfl
  | .int _, _, e => by unfold W.dat at e; cases e; rfl
  | .str _, _, e => by unfold W.dat at e; cases e; rfl
  | .tup ws, _, e => by
    unfold W.dat at e
    cases q : W.dats ws with
    | none => rw [q] at e; cases e
    | some ds => rw [q] at e; cases e; exact dats_plain q
  | .lst ws, _, e => by
    unfold W.dat at e
    cases q : W.dats ws with
    | none => rw [q] at e; cases e
    | some ds => rw [q] at e; cases e; exact dats_plain q
  | .ty _, _, e => by unfold W.dat at e; cases e
  | .emp, _, e => by unfold W.dat at e; cases e
  | .scr _, _, e => by unfold W.dat at e; cases e
  | .ref _, _, e => by unfold W.dat at e; cases e
  | .dic _, _, e => by unfold W.dat at e; cases e
theorem dats_plain : ∀ {ws : List W} {ds : List PyData}, W.dats ws = some ds → PyData.plainAll ds = true
  | [], _, e => by unfold W.dats at e; cases e; rfl
  | w :: ws, _, e => by
    unfold W.dats at e
    cases q1 : W.dat w with
    | none => rw [q1] at e; cases e
    | some d =>
      cases q2 : W.dats ws with
      | none => rw [q1, q2] at e; cases e
      | some ds =>
        rw [q1, q2] at e
        cases e
        simp only [PyData.plainAll, dat_plain q1, dats_plain q2, Bool.and_self]
end
theorem eqW_ok {a b : W} {k : Bool} (e : eqW a b = some k) : ∃ d f, a.dat = some d ∧ b.dat = some f ∧ d.plain = true ∧ f.plain = true ∧ min d.depth f.depth ≤ 64 ∧ PyData.eqv d f = k := by
  unfold eqW at e
  split at e
  · rename_i d f h1 h2
    split at e
    · rename_i z
      cases e
      exact ⟨d, f, h1, h2, dat_plain h1, dat_plain h2, of_decide_eq_true z, rfl⟩
    · cases e
  · cases e
theorem inW_ok {K : PySem.W.Frag} {F : Hp} {ι : List Addr} {H : Hp} {a b : W} {x y : V} {k : Bool} (s : ∀ a o, F a = some o → H a = some o) (ra : RN K F ι H a x) (rb : RN K F ι H b y) (e : inW a b = some k) (nd : ∀ kvs, b ≠ .dic kvs) :
    ∃ d ds, Dp K H x d ∧ (Dp K H y (.list ds) ∨ Dp K H y (.tuple ds)) ∧ d.plain = true ∧ PyData.plainAll ds = true ∧ min (PyData.depthAll ds) d.depth ≤ 62 ∧ (ds.any fun y => PyData.eqv y d) = k := by
  have go : ∀ {ws : List W}, b.items = some ws → inD a ws = some k →
      ∃ d ds, Dp K H x d ∧ (Dp K H y (.list ds) ∨ Dp K H y (.tuple ds)) ∧ d.plain = true ∧ PyData.plainAll ds = true ∧ min (PyData.depthAll ds) d.depth ≤ 62 ∧ (ds.any fun y => PyData.eqv y d) = k := fun {ws} hi e => by
    unfold inD at e
    split at e
    · rename_i d ds h1 h2
      split at e
      · rename_i z
        cases e
        obtain ⟨p, vs, rfl, sq, rv⟩ := rb.items s hi
        refine ⟨d, ds, ra.dat s h1, ?_, dat_plain h1, dats_plain h2, of_decide_eq_true z, rfl⟩
        rcases sq with sq | sq
        · exact .inl (.lst sq (RVs.dats s rv h2))
        · exact .inr (.tup sq (RVs.dats s rv h2))
      · cases e
    · cases e
  unfold inW at e
  split at e
  · exact absurd rfl (nd _)
  · exact go rfl e
  · exact go rfl e
  · cases e
/-- .. of a dict -/
theorem inD_ok {K : PySem.W.Frag} {F : Hp} {ι : List Addr} {H : Hp} {a : W} {kvs : List (Str × W)} {x y : V} {k : Bool} (ra : RN K F ι H a x) (rb : RN K F ι H (.dic kvs) y) (e : inW a (.dic kvs) = some k) : ∃ p o, y = .ref p ∧ DGet H p x o ∧ o.isSome = k := by
  cases a with
  | str s =>
    cases e
    cases ra.str
    obtain ⟨p, ks, rfl, hp, c⟩ := rb.dic
    obtain ⟨h1, h2⟩ := c.get (s := s)
    refine ⟨p, valV ks (.inr s), rfl, .inl ⟨ks, .inr s, .inl hp, rfl, rfl⟩, ?_⟩
    cases q : dicGet kvs s with
    | none => rw [h2 q]; rfl
    | some w =>
      obtain ⟨v, e, _⟩ := h1 w q
      rw [e]
      rfl
  | _ => cases e
theorem isnon {K : PySem.W.Frag} {F : Hp} {ι : List Addr} {H : Hp} {a : W} {x : V} (ra : RN K F ι H a x) : decide (x = V.non) = a.isNon := by
  rcases ra with r | ⟨ws, p, vs, rfl, rfl, _⟩ | ⟨ws, p, vs, rfl, rfl, _⟩
  rotate_left 2
  · exact decide_eq_false (fun z => by cases z)
  · cases r <;> first | rfl | (exact decide_eq_false (fun z => by cases z))
  · exact decide_eq_false (fun z => by cases z)
theorem isW_ok {a b : W} {k : Bool} (e : isW a b = some k) : (b = .non ∧ a.isNon = k) ∨ ∃ u v, a = .bl u ∧ b = .bl v ∧ decide (u = v) = k := by
  unfold isW at e
  split at e
  · cases e
    exact .inl ⟨rfl, rfl⟩
  · split at e
    · cases e
      exact .inr ⟨_, _, rfl, rfl, rfl⟩
    · cases e
  · cases e
theorem RN.bl {K : PySem.W.Frag} {F : Hp} {ι : List Addr} {H : Hp} {b : Bool} {v : V} (r : RN K F ι H (.bl b) v) : v = .bl b := by
  have q := r.rv (fun _ z => by cases z)
  cases q
  rfl
theorem cmp_ok (op : COp) (hu : X.A.units + 64 < cLine) : OpR X (compareOp op.un) (rCmp X.K op) := by
  intro pins s σ H x y v u Q I rx ry q
  obtain ⟨F, ι, h, a, b, k, hr, ra, rb, e, q⟩ := q
  have onI : ∀ {f : Int → Int → Option Bool}, intsW f a b = some k → (∀ i j, x = .int i → y = .int j → f i j = some k → wpAny (model X.prog X.w) X.A (compareOp op.un v u) (EP X pins σ Q) X.xe s) →
      wpAny (model X.prog X.w) X.A (compareOp op.un v u) (EP X pins σ Q) X.xe s := fun e f => by
    obtain ⟨i, j, rfl, rfl, e⟩ := intsW_ok e
    exact f i j ra.int rb.int e
  cases op with
  | eq =>
    obtain ⟨d, f, h1, h2, s1, s2, hm, rfl⟩ := eqW_ok e
    obtain ⟨as, r1⟩ := Dp.reads I d x v (ra.dat hr.sub h1) rx
    obtain ⟨bs, r2⟩ := Dp.reads I f y u (rb.dat hr.sub h2) ry
    exact SeqAt.eq_plain r1 r2 s1 s2 (by omega) ⟨.bl _, H, I, rfl, q⟩
  | ne =>
    have e : (eqW a b).map (!·) = some k := e
    cases z : eqW a b with
    | none => rw [z] at e; cases e
    | some k' =>
      rw [z] at e
      cases e
      obtain ⟨d, f, h1, h2, s1, s2, hm, rfl⟩ := eqW_ok z
      obtain ⟨as, r1⟩ := Dp.reads I d x v (ra.dat hr.sub h1) rx
      obtain ⟨bs, r2⟩ := Dp.reads I f y u (rb.dat hr.sub h2) ry
      exact SeqAt.ne_plain r1 r2 s1 s2 (by omega) ⟨.bl _, H, I, rfl, q⟩
  | isin =>
    have hd : (∃ kvs, b = .dic kvs) ∨ ∀ kvs, b ≠ .dic kvs := by
      cases b with
      | dic kvs => exact .inl ⟨kvs, rfl⟩
      | _ => exact .inr (fun _ z => by cases z)
    rcases hd with ⟨kvs, rfl⟩ | nd
    · obtain ⟨p, o, rfl, g, rfl⟩ := inD_ok ra rb e
      cases ry
      exact d_in (by omega) I g rx fun s' I' => ⟨.bl o.isSome, H, I', rfl, q⟩
    obtain ⟨d, ds, hd, hds, p1, p2, hm, rfl⟩ := inW_ok hr.sub ra rb e nd
    obtain ⟨as, r1⟩ := Dp.reads I d x v hd rx
    rcases hds with hds | hds
    · obtain ⟨bs, r2⟩ := Dp.reads I _ y u hds ry
      exact SeqAt.in_list_data r2 r1 p2 p1 (by omega) ⟨.bl _, H, I, rfl, q⟩
    · obtain ⟨bs, r2⟩ := Dp.reads I _ y u hds ry
      exact SeqAt.in_tuple_data r2 r1 p2 p1 (by omega) ⟨.bl _, H, I, rfl, q⟩
  | notin =>
    have e : (inW a b).map (!·) = some k := e
    cases z : inW a b with
    | none => rw [z] at e; cases e
    | some k' =>
      rw [z] at e
      cases e
      have hd : (∃ kvs, b = .dic kvs) ∨ ∀ kvs, b ≠ .dic kvs := by
        cases b with
        | dic kvs => exact .inl ⟨kvs, rfl⟩
        | _ => exact .inr (fun _ z => by cases z)
      rcases hd with ⟨kvs, rfl⟩ | nd
      · obtain ⟨p, o, rfl, g, rfl⟩ := inD_ok ra rb z
        cases ry
        exact d_notIn (by omega) I g rx fun s' I' => ⟨.bl (!o.isSome), H, I', rfl, q⟩
      obtain ⟨d, ds, hd, hds, p1, p2, hm, rfl⟩ := inW_ok hr.sub ra rb z nd
      obtain ⟨as, r1⟩ := Dp.reads I d x v hd rx
      rcases hds with hds | hds
      · obtain ⟨bs, r2⟩ := Dp.reads I _ y u hds ry
        exact SeqAt.notIn_list_data r2 r1 p2 p1 (by omega) ⟨.bl _, H, I, rfl, q⟩
      · obtain ⟨bs, r2⟩ := Dp.reads I _ y u hds ry
        exact SeqAt.notIn_tuple_data r2 r1 p2 p1 (by omega) ⟨.bl _, H, I, rfl, q⟩
  | isn =>
    have e : isW a b = some k := e
    rcases isW_ok e with ⟨rfl, rfl⟩ | ⟨u', v', rfl, rfl, rfl⟩
    · have q2 := isnon rb
      have q3 : y = V.non := of_decide_eq_true (q2.trans rfl)
      subst q3
      exact op_isN pins s σ H _ _ v u Q I rx ry ⟨rfl, by rw [isnon ra]; exact q⟩
    · cases ra.bl
      cases rb.bl
      exact op_isBl pins s σ H _ _ v u Q I rx ry ⟨_, _, rfl, rfl, q⟩
  | notn =>
    have e : (isW a b).map (!·) = some k := e
    cases z : isW a b with
    | none => rw [z] at e; cases e
    | some k' =>
      rw [z] at e
      cases e
      rcases isW_ok z with ⟨rfl, rfl⟩ | ⟨u', v', rfl, rfl, rfl⟩
      · have q2 := isnon rb
        have q3 : y = V.non := of_decide_eq_true (q2.trans rfl)
        subst q3
        exact op_notN pins s σ H _ _ v u Q I rx ry ⟨rfl, by rw [isnon ra]; exact q⟩
      · cases ra.bl
        cases rb.bl
        exact op_notBl pins s σ H _ _ v u Q I rx ry ⟨_, _, rfl, rfl, q⟩
  | lt =>
    refine onI e fun i j ei ej e => ?_
    cases e
    exact op_lt pins s σ H x y v u Q I rx ry ⟨_, _, ei, ej, q⟩
  | le =>
    refine onI e fun i j ei ej e => ?_
    cases e
    exact op_le pins s σ H x y v u Q I rx ry ⟨_, _, ei, ej, q⟩
  | gt =>
    refine onI e fun i j ei ej e => ?_
    cases e
    exact op_gt pins s σ H x y v u Q I rx ry ⟨_, _, ei, ej, q⟩
  | ge =>
    refine onI e fun i j ei ej e => ?_
    cases e
    exact op_ge pins s σ H x y v u Q I rx ry ⟨_, _, ei, ej, q⟩
end
end Ev

namespace Ev
open PySem PySem.Spec PyProof.Rows L2

/-! ## built-ins by values -/
def Bt.val : Bt → Value
  | .len => .builtin "len" | .abs => .builtin "abs" | .max => .builtin "max" | .min => .builtin "min" | .divmod => .builtin "divmod" | .repr => .builtin "repr" | .all => .builtin "all"
  | .int => .type "int" | .list => .type "list" | .tuple => .type "tuple"
inductive RNs (K : PySem.W.Frag) (F : Hp) (ι : List Addr) (H : Hp) : List W → List V → Prop
  | nil : RNs K F ι H [] []
  | cons {w : W} {v : V} {ws : List W} {vs : List V} : RN K F ι H w v → RNs K F ι H ws vs → RNs K F ι H (w :: ws) (v :: vs)
def rBlt (K : PySem.W.Frag) (b : Bt) : List V → Hp → VK → Prop := fun xs H Q => ∃ F ι h ws w, HR K F ι h H ∧ RNs K F ι H ws xs ∧ bltW b ws = some w ∧ Bh K F ι h H w Q
section
variable {K : PySem.W.Frag} {F : Hp} {ι : List Addr} {H : Hp} {h : Obs}
theorem RNs.one {w : W} {xs : List V} (r : RNs K F ι H [w] xs) : ∃ v, xs = [v] ∧ RN K F ι H w v := by
  cases r with
  | cons a b => cases b; exact ⟨_, rfl, a⟩
theorem RNs.two {w u : W} {xs : List V} (r : RNs K F ι H [w, u] xs) : ∃ v x, xs = [v, x] ∧ RN K F ι H w v ∧ RN K F ι H u x := by
  cases r with
  | cons a b =>
    obtain ⟨x, rfl, q⟩ := b.one
    exact ⟨_, _, rfl, a, q⟩
theorem RVs.bls : ∀ {ws : List W} {vs : List V} {bs : List Bool}, RVs K F ι ws vs → bools ws = some bs → vs = bs.map V.bl
  | _, _, _, .nil, e => by cases e; rfl
  | _, _, bs, .cons (w := w) (ws := ws) r t, e => by
    cases r with
    | bl b =>
      have e : (bools ws).map (b :: ·) = some bs := e
      cases q : bools ws with
      | none => rw [q] at e; cases e
      | some bs' =>
        rw [q] at e
        cases e
        rw [RVs.bls t q]
        rfl
    | _ => cases e
theorem lenV_of (s : ∀ a o, F a = some o → H a = some o) {w : W} {v : V} {n : Nat} (r : RN K F ι H w v) (e : lenW w = some n) : LenV K v H n := by
  have seq : ∀ {ws : List W}, w.items = some ws → n = ws.length → LenV K v H n := fun {ws} hi en => by
    obtain ⟨p, vs, rfl, sq, rv⟩ := r.items s hi
    rw [rv.length] at en
    rcases sq with sq | sq
    · exact .inl ⟨vs, sq, en⟩
    · exact .inr ⟨vs, sq, en⟩
  unfold lenW at e
  split at e
  · cases e; exact seq rfl rfl
  · cases e; exact seq rfl rfl
  · cases e; exact seq rfl (by simp)
  · split at e
    · rename_i z
      cases e
      rw [r.str]
      exact ⟨lineN_ok z, rfl⟩
    · cases e
  · cases e
mutual
theorem dat_nodict : ∀ {w : W} {d : PyData}, w.dat = some d → d.hasDict = false
  | .non, _, e => by unfold W.dat at e; cases e; rfl
  | .bl _, _, e => by unfold W.dat at e; cases e; rfl
  | .int _, _, e => by unfold W.dat at e; cases e; rfl
  | .str _, _, e => by unfold W.dat at e; cases e; rfl
  | .tup ws, _, e => by
    unfold W.dat at e
    cases q : W.dats ws with
    | none => rw [q] at e; cases e
    | some ds => rw [q] at e; cases e; exact dats_nodict q
  | .lst ws, _, e => by
    unfold W.dat at e
    cases q : W.dats ws with
    | none => rw [q] at e; cases e
    | some ds => rw [q] at e; cases e; exact dats_nodict q
  | .ty _, _, e => by unfold W.dat at e; cases e
  | .emp, _, e => by unfold W.dat at e; cases e
  | .scr _, _, e => by unfold W.dat at e; cases e
  | .ref _, _, e => by unfold W.dat at e; cases e
theorem dats_nodict : ∀ {ws : List W} {ds : List PyData}, W.dats ws = some ds → PyData.hasDictAll ds = false
  | [], _, e => by unfold W.dats at e; cases e; rfl
  | w :: ws, _, e => by
    unfold W.dats at e
    cases q1 : W.dat w with
    | none => rw [q1] at e; cases e
    | some d =>
      cases q2 : W.dats ws with
      | none => rw [q1, q2] at e; cases e
      | some ds =>
        rw [q1, q2] at e
        cases e
        simp only [PyData.hasDictAll, dat_nodict q1, dats_nodict q2, Bool.or_self]
end
end
section
variable {X : Cx} {pins : List (Addr × Obj)} {s : Shared} {σ : VS} {H : Hp}
theorem repr_ok {d : PyData} {x : V} {u : Value} {Q : VK} (I : Inv X pins σ H s) (r : RelV x u) (p : Dp X.K H x d) (h1 : d.showable = true) (h2 : d.depth ≤ 64) (h3 : d.shown.length ≤ sizeLine) (hn : d.hasDict = false)
    (hg : X.A.guards = some []) (hu : X.A.units + 70 < cLine) (q : Q (.str d.shown) H) : wpAny (model X.prog X.w) X.A (call (.builtin "repr") [u]) (EP X pins σ Q) X.xe s := by
  obtain ⟨as, rd⟩ := Dp.reads I d x u p r
  cases p with
  | non =>
    cases r
    have z : PyData.shown .none = ("None" : Str) := by simp only [PyData.shown]
    rw [z] at q
    exact PySem.P.repr_of_none ⟨.str _, H, I.tok _, ⟨_, rfl⟩, q⟩
  | bl b =>
    cases r
    simp only [PyData.shown] at q
    exact PySem.P.repr_of_bool ⟨.str _, H, I.tok _, ⟨_, rfl⟩, q⟩
  | int i =>
    obtain ⟨t, rfl⟩ := r
    simp only [PyData.shown] at q
    exact PySem.P.repr_of_int (by simpa [PyData.showable] using h1) ⟨.str _, H, I.tok _, ⟨_, rfl⟩, q⟩
  | str y =>
    obtain ⟨t, rfl⟩ := r
    simp only [PyData.shown] at q h3
    exact PySem.P.repr_of_str ⟨.str _, H, I.tok _, ⟨_, rfl⟩, q⟩ h3
  | lst sq al =>
    cases r
    exact repr_of_reads' rd h1 (fun z => by rw [hn] at z; cases z) hg (by omega) (fun _ _ e => e) (fun h' u tk k => ⟨.str _, H, I.kept k, ⟨_, rfl⟩, q⟩) h3
  | tup sq al =>
    cases r
    exact repr_of_reads' rd h1 (fun z => by rw [hn] at z; cases z) hg (by omega) (fun _ _ e => e) (fun h' u tk k => ⟨.str _, H, I.kept k, ⟨_, rfl⟩, q⟩) h3
theorem on1_ok {f : W → Option W} {ws : List W} {w : W} (e : on1 f ws = some w) : ∃ a, ws = [a] ∧ f a = some w := by
  unfold on1 at e
  split at e
  · exact ⟨_, rfl, e⟩
  · cases e
theorem on2_ok {f : W → W → Option W} {ws : List W} {w : W} (e : on2 f ws = some w) : ∃ a b, ws = [a, b] ∧ f a b = some w := by
  unfold on2 at e
  split at e
  · exact ⟨_, _, rfl, e⟩
  · cases e
theorem blt_ok (b : Bt) (hc : X.calm = true) (hg : X.A.guards = some []) (hu : X.A.units + 70 < cLine) : CallR X b.val (rBlt X.K b) := by
  intro pins s σ H xs us Q I rx q
  obtain ⟨F, ι, h, ws, w, hr, ra, e, bh⟩ := q
  cases b with
  | len =>
    obtain ⟨a, rfl, e1⟩ := on1_ok e
    clear e
    have e := e1
    clear e1
    obtain ⟨x, rfl, rn⟩ := ra.one
    cases z : lenW a with
    | none => rw [z] at e; cases e
    | some n =>
      rw [z] at e
      cases e
      exact call_len pins s σ H _ us Q I rx ⟨x, n, rfl, lenV_of hr.sub rn z, bh.now hr (.int _)⟩
  | abs =>
    obtain ⟨a, rfl, e1⟩ := on1_ok e
    clear e
    have e := e1
    clear e1
    obtain ⟨x, rfl, rn⟩ := ra.one
    unfold absW at e
    split at e
    · cases e
      cases rn.int
      exact call_abs pins s σ H _ us Q I rx ⟨_, rfl, bh.now hr (.int _)⟩
    · cases e
  | max =>
    obtain ⟨a, c, rfl, e1⟩ := on2_ok e
    clear e
    have e := e1
    clear e1
    obtain ⟨x, y, rfl, rn, rm⟩ := ra.two
    obtain ⟨i, j, rfl, rfl, e⟩ := intsW_ok e
    cases e
    cases rn.int; cases rm.int
    exact call_max2 hc pins s σ H _ us Q I rx ⟨_, _, rfl, bh.now hr (.int _)⟩
  | min =>
    obtain ⟨a, c, rfl, e1⟩ := on2_ok e
    clear e
    have e := e1
    clear e1
    obtain ⟨x, y, rfl, rn, rm⟩ := ra.two
    obtain ⟨i, j, rfl, rfl, e⟩ := intsW_ok e
    cases e
    cases rn.int; cases rm.int
    exact call_min2 hc pins s σ H _ us Q I rx ⟨_, _, rfl, bh.now hr (.int _)⟩
  | int =>
    obtain ⟨a, rfl, e1⟩ := on1_ok e
    clear e
    have e := e1
    clear e1
    obtain ⟨x, rfl, rn⟩ := ra.one
    unfold intW at e
    split at e
    · cases e
      cases rn.int
      exact call_int1 pins s σ H _ us Q I rx (.inl ⟨_, rfl, bh.now hr (.int _)⟩)
    · cases e
      have r2 := rn.rv (fun _ z => by cases z)
      cases r2
      exact call_int1 pins s σ H _ us Q I rx (.inr ⟨_, rfl, bh.now hr (.int _)⟩)
    · cases e
  | divmod =>
    obtain ⟨a, c, rfl, e1⟩ := on2_ok e
    clear e
    have e := e1
    clear e1
    obtain ⟨x, y, rfl, rn, rm⟩ := ra.two
    obtain ⟨i, j, rfl, rfl, e⟩ := intsW_ok e
    obtain ⟨z, rfl⟩ := ifB_ok e
    obtain ⟨z1, z2⟩ := and_ok z
    cases rn.int; cases rm.int
    exact call_divmod pins s σ H _ us Q I rx ⟨_, _, rfl, ⟨of_decide_eq_true z1, of_decide_eq_true z2⟩, fun p hp => bh.tup hr (.cons (.int _) (.cons (.int _) .nil)) hp⟩
  | repr =>
    obtain ⟨a, rfl, e1⟩ := on1_ok e
    clear e
    have e := e1
    clear e1
    obtain ⟨x, rfl, rn⟩ := ra.one
    cases z : reprW a with
    | none => rw [z] at e; cases e
    | some t =>
      rw [z] at e
      cases e
      unfold reprW at z
      cases z1 : a.dat with
      | none => rw [z1] at z; cases z
      | some d =>
        rw [z1] at z
        dsimp only at z
        split at z
        · rename_i z2
          cases z
          obtain ⟨z3, z4⟩ := and_ok z2
          obtain ⟨z4, z5⟩ := and_ok z4
          cases rx with
          | cons r1 r2 =>
            cases r2
            exact repr_ok I r1 (rn.dat hr.sub z1) z3 (of_decide_eq_true z4) (lineN_ok z5) (dat_nodict z1) hg hu (bh.now hr (.str _))
        · cases z
  | all =>
    obtain ⟨a, rfl, e1⟩ := on1_ok e
    clear e
    have e := e1
    clear e1
    obtain ⟨x, rfl, rn⟩ := ra.one
    unfold allW at e
    split at e
    · rename_i ws'
      cases z : bools ws' with
      | none => rw [z] at e; cases e
      | some bs =>
        rw [z] at e
        cases e
        obtain ⟨p, vs, rfl, e2, rv⟩ := rn.lst hr.sub
        rw [rv.bls z] at e2
        exact cr_all hc pins s σ H _ us Q I rx ⟨p, bs, rfl, .inl (.inl e2), bh.now hr (.bl _)⟩
    · cases e
  | list =>
    obtain ⟨a, rfl, e1⟩ := on1_ok e
    clear e
    have e := e1
    clear e1
    obtain ⟨x, rfl, rn⟩ := ra.one
    have go : ∀ {ws : List W}, a.items = some ws → w = .lst ws → wpAny (model X.prog X.w) X.A (call (.type "list") us) (EP X pins σ Q) X.xe s := fun {ws} hi ew => by
      obtain ⟨p, vs, rfl, sq, rv⟩ := rn.items hr.sub hi
      subst ew
      exact call_list_of pins s σ H _ us Q I rx ⟨p, vs, rfl, sq, fun l hl => bh.lst hr rv hl⟩
    unfold listW at e
    split at e
    · cases e; exact go rfl rfl
    · cases e; exact go rfl rfl
    · cases e
  | tuple =>
    obtain ⟨a, rfl, e1⟩ := on1_ok e
    clear e
    have e := e1
    clear e1
    obtain ⟨x, rfl, rn⟩ := ra.one
    unfold tupleW at e
    split at e
    · cases e
      obtain ⟨p, vs, rfl, e2, rv⟩ := rn.lst hr.sub
      exact call_tuple_of pins s σ H _ us Q I rx ⟨p, vs, rfl, .inl ⟨.inl (.inl e2), fun l hl => bh.tup hr rv hl⟩⟩
    · cases e
      have r2 := rn.rv (fun _ z => by cases z)
      cases r2 with
      | tup sq rv => exact call_tuple_of pins s σ H _ us Q I rx ⟨_, _, rfl, .inr ⟨sqT_mono hr.sub sq, bh.now hr (.tup sq rv)⟩⟩
    · cases e
end
/-! ## classes of values -/
theorem kit_is : ∀ a b : Ty, kitB a.s b.s = some (isTy a b) := by
  intro a b
  cases a <;> cases b <;> decide +kernel
theorem tyX_of {K : PySem.W.Frag} {F : Hp} {ι : List Addr} {H : Hp} {h : Obs} {w : W} {v : V} {t : Ty} (hr : HR K F ι h H) (r : RV K F ι w v) (e : tyW h w = some t) : TyX K H v (.type t.s) := by
  cases r with
  | non => cases e; exact .base .non
  | bl b => cases e; exact .base (.bl b)
  | int i => cases e; exact .base (.int i)
  | str s => cases e; exact .base (.str s)
  | ty n => cases e
  | tup sq rv =>
    cases e
    rcases sqT_mono hr.sub sq with (q | ⟨o, q⟩) | ⟨o, its, n, q, c, _⟩
    · exact .base (.tup q)
    · exact .fTuple q
    · exact .kTuple q c
  | lst q rv =>
    cases e
    exact .base (.lst (hr.sub _ _ q))
  | emp q =>
    cases e
    exact .base (.dK (hr.sub _ _ q))
  | scr sq =>
    cases e
    rcases sqL_mono hr.sub sq with (q | ⟨o, q⟩) | ⟨o, its, n, q, c, _⟩
    · exact .base (.lst q)
    · exact .base (.frz q)
    · exact .kList q c
  | @ref n a q =>
    have e : (match h[n]? with
      | some (.lst _) => some Ty.lst
      | some (.dic _) => some Ty.dct
      | none => none) = some t := e
    cases z : h[n]? with
    | none => rw [z] at e; cases e
    | some b =>
      rw [z] at e
      cases b with
      | lst us =>
        cases e
        obtain ⟨_, vs, e2, _⟩ := hr.ob _ a _ q z
        exact .base (.lst e2)
      | dic us =>
        cases e
        obtain ⟨_, vs, e2, _⟩ := hr.ob _ a _ q z
        exact .base (.dK e2)
end Ev

namespace Ev
open PySem PySem.Spec PyProof.Rows L2

/-! ## what an expression's rule is asked -/
structure Bx where
  K : PySem.W.Frag
  mg : Str → Option Value
  e0 : Ent
  W : WX
/-- an exception as it flies: its class, its own dict -/
def RX (K : PySem.W.Frag) (mg : Str → Option Value) (F : Hp) (ι : List Addr) (x : Ex) (cls : Value) (d : Option Addr) : Prop :=
  ∃ C, mg x.cls = some (.ref C) ∧ cls = .ref C ∧ match d with
    | none => x.fs = []
    | some dd => ∃ fs, F dd = some (.xd fs) ∧ x.fs ≠ [] ∧ ∀ f w, x.fs.lookup f = some w → ∃ v, fs.lookup f = some v ∧ RV K F ι w v
abbrev Bx.J (b : Bx) := Ev.J b.K b.e0
/-- an answer's wish -/
def Po {α β : Type} (b : Bx) (F : Hp) (ι : List Addr) (sl : Sls) (σ : VS) (rel : Hp → List Addr → α → β → Prop) (r : R α) (Q : β → Hp → Prop) : Prop := match r with
  | .ok a h' => ∀ F' ι' H' v, Le F ι F' ι' → b.J F' ι' sl h' σ H' → rel F' ι' a v → Q v H'
  | .exc x h' => ∀ F' ι' H' cls d, Le F ι F' ι' → b.J F' ι' sl h' σ H' → RX b.K b.mg F' ι' x cls d → b.W cls d σ H'
  | .bad => False
section
variable {α β γ δ : Type} {b : Bx} {F F' F1 : Hp} {ι ι' ι1 : List Addr} {sl : Sls} {σ : VS}
theorem Po.le {rel : Hp → List Addr → α → β → Prop} {r : R α} {Q : β → Hp → Prop} (p : Po b F ι sl σ rel r Q) (l : Le F ι F1 ι1) : Po b F1 ι1 sl σ rel r Q := by
  cases r with
  | ok a h => exact fun F' ι' H' v l2 j q => p F' ι' H' v (l.trans l2) j q
  | exc x h => exact fun F' ι' H' cls d l2 j q => p F' ι' H' cls d (l.trans l2) j q
  | bad => exact p
/-- one behind another -/
theorem Po.bind {rel : Hp → List Addr → α → β → Prop} {rel2 : Hp → List Addr → γ → δ → Prop} {r : R α} {f : α → Obs → R γ} {Q : δ → Hp → Prop} {Q1 : β → Hp → Prop} (p : Po b F ι sl σ rel2 (r.bind f) Q)
    (k : ∀ a h1 F1 ι1 H1 v, Le F ι F1 ι1 → b.J F1 ι1 sl h1 σ H1 → rel F1 ι1 a v → Po b F1 ι1 sl σ rel2 (f a h1) Q → Q1 v H1) : Po b F ι sl σ rel r Q1 := by
  cases r with
  | ok a h => exact fun F1 ι1 H1 v l j q => k a h F1 ι1 H1 v l j q (Po.le (show Po b F ι sl σ rel2 (f a h) Q from p) l)
  | exc x h => exact p
  | bad => exact p
theorem Po.ret {rel : Hp → List Addr → α → β → Prop} {a : α} {h : Obs} {H : Hp} {v : β} {Q : β → Hp → Prop} (p : Po b F ι sl σ rel (.ok a h) Q) (j : b.J F ι sl h σ H) (r : rel F ι a v) : Q v H := p F ι H v .refl j r
/-- an answer that there is, or none -/
theorem Po.opt {rel : Hp → List Addr → α → β → Prop} {o : Option α} {h : Obs} {Q : β → Hp → Prop} (p : Po b F ι sl σ rel (.opt o h) Q) : ∃ a, o = some a ∧ Po b F ι sl σ rel (.ok a h) Q := by
  cases o with
  | none => exact False.elim p
  | some a => exact ⟨a, rfl, p⟩
theorem Po.imp {rel rel2 : Hp → List Addr → α → β → Prop} {r : R α} {Q : β → Hp → Prop} (p : Po b F ι sl σ rel r Q) (i : ∀ F ι a v, rel2 F ι a v → rel F ι a v) : Po b F ι sl σ rel2 r Q := by
  cases r with
  | ok a h => exact fun F' ι' H' v l j q => p F' ι' H' v l j (i _ _ _ _ q)
  | exc x h => exact p
  | bad => exact p
end
/-- what one asks with: a context, a wish of exceptions, an entry -/
abbrev bx (X : Cx) (W : WX) (e0 : Ent) : Bx := ⟨X.K, X.mg, e0, W⟩
/-- the readings -/
def tE (X : Cx) (V : WX) (k : Bool) (m : Sls → Obs → R W) : TE := fun σ H Q => ∃ e0 F ι sl h, J X.K e0 F ι sl h σ H ∧ Po (bx X V e0) F ι sl σ (RKd X.K sl σ k) (m sl h) Q
def tT (X : Cx) (W : WX) (m : Sls → Obs → R Bool) : TT := fun σ H Q => ∃ e0 F ι sl h, J X.K e0 F ι sl h σ H ∧ Po (bx X W e0) F ι sl σ (fun _ _ a v => a = v) (m sl h) Q
inductive RKs (K : PySem.W.Frag) (sl : Sls) (σ : VS) (k : Bool) (F : Hp) (ι : List Addr) : List W → List V → Prop
  | nil : RKs K sl σ k F ι [] []
  | cons {w : W} {v : V} {ws : List W} {vs : List V} : RKd K sl σ k F ι w v → RKs K sl σ k F ι ws vs → RKs K sl σ k F ι (w :: ws) (v :: vs)
def tA (X : Cx) (V : WX) (k : Bool) (m : Sls → Obs → R (List W)) : TA := fun σ H Q => ∃ e0 F ι sl h, J X.K e0 F ι sl h σ H ∧ Po (bx X V e0) F ι sl σ (RKs X.K sl σ k) (m sl h) Q
def tI (X : Cx) (W : WX) (m : Sls → Obs → R (Option Int)) : TO := fun σ H Q => ∃ e0 F ι sl h, J X.K e0 F ι sl h σ H ∧ Po (bx X W e0) F ι sl σ (fun _ _ a v => a = v) (m sl h) Q
section
variable {K : PySem.W.Frag} {sl : Sls} {σ : VS} {k : Bool} {F F' : Hp} {ι ι' : List Addr}
theorem RKd.mono (l : Le F ι F' ι') {w : W} {v : V} (r : RKd K sl σ k F ι w v) : RKd K sl σ k F' ι' w v := by
  cases k with
  | true => exact ROp.mono l r
  | false => exact RV.mono l r
theorem RKd.op {w : W} {v : V} (r : RKd K sl σ k F ι w v) : ROp K sl σ F ι w v := by
  cases k with
  | true => exact r
  | false => exact .inl r
theorem RKs.rvs : ∀ {ws : List W} {vs : List V}, RKs K sl σ false F ι ws vs → RVs K F ι ws vs
  | _, _, .nil => .nil
  | _, _, .cons r t => .cons r (RKs.rvs t)
theorem RKs.of : ∀ {ws : List W} {vs : List V}, RVs K F ι ws vs → RKs K sl σ false F ι ws vs
  | _, _, .nil => .nil
  | _, _, .cons r t => .cons r (RKs.of t)
theorem RKs.rns {e0 : Ent} {h : Obs} {H : Hp} (j : J K e0 F ι sl h σ H) : ∀ {ws : List W} {vs : List V}, RKs K sl σ k F ι ws vs → RNs K F ι H (ws.map (W.now h)) vs
  | _, _, .nil => .nil
  | _, _, .cons r t => .cons (j.now r.op) (RKs.rns j t)
end
section
variable {X : Cx} {e : Expr} {es : List Expr}
theorem PE.imp {t t' : TE} (h : PE X e t) (i : ∀ σ H Q, t' σ H Q → t σ H Q) : PE X e t' := ⟨fun pins s σ H Q I hw => h.run pins s σ H Q I (i σ H Q hw)⟩
theorem PE.never {t : TE} (n : ∀ σ H Q, ¬ t σ H Q) : PE X e t := ⟨fun pins s σ H Q I hw => absurd hw (n σ H Q)⟩
theorem PT.imp {t t' : TT} (h : PT X e t) (i : ∀ σ H Q, t' σ H Q → t σ H Q) : PT X e t' := ⟨fun pins s σ H Q I hw => h.run pins s σ H Q I (i σ H Q hw)⟩
theorem PT.never {t : TT} (n : ∀ σ H Q, ¬ t σ H Q) : PT X e t := ⟨fun pins s σ H Q I hw => absurd hw (n σ H Q)⟩
theorem PW.imp {t t' : TT} (h : PW X e t) (i : ∀ σ H Q, t' σ H Q → t σ H Q) : PW X e t' := ⟨fun wh pins s σ H Q I hw => h.run wh pins s σ H Q I (i σ H Q hw)⟩
theorem PA.imp {t t' : TA} (h : PA X es t) (i : ∀ σ H Q, t' σ H Q → t σ H Q) : PA X es t' := ⟨fun pos pins s σ H Q I hw => h.run pos pins s σ H Q I (i σ H Q hw)⟩
theorem PO.imp {o : Option Expr} {t t' : TO} (h : PO X o t) (i : ∀ σ H Q, t' σ H Q → t σ H Q) : PO X o t' := ⟨fun pins s σ H Q I hw => h.run pins s σ H Q I (i σ H Q hw)⟩
end

/-! ## what the syntax asks of a scope -/
def visB (sc : Scope) (x : Str) : Bool := match sc.names.lookup x with
  | some .local => true | some .cell => true | some .free => true | _ => false
def glB (sc : Scope) (x : Str) : Bool := match sc.names.lookup x with
  | some .globalImplicit => true | _ => false
def nmB (x : Str) : Bool := !(x == ("__debug__" : Str)) && !(x == ("__classdict__" : Str))
def slotB (N : List Str) (sc : Scope) (x : Str) (i : Nat) : Bool := decide (N[i]? = some x) && (visB sc x && nmB x)
def locB (sc : Scope) (x : Str) : Bool := match sc.names.lookup x with
  | some .local => true | _ => false
theorem visB_ok {sc : Scope} {x : Str} (h : visB sc x = true) : Vis sc x := by
  unfold visB at h
  split at h
  · exact .inl (by assumption)
  · exact .inr (.inl (by assumption))
  · exact .inr (.inr (by assumption))
  · cases h
theorem locB_ok {sc : Scope} {x : Str} (h : locB sc x = true) : sc.names.lookup x = some .local := by
  unfold locB at h
  split at h
  · assumption
  · cases h
theorem glB_ok {sc : Scope} {x : Str} (h : glB sc x = true) : sc.names.lookup x = some .globalImplicit := by
  unfold glB at h
  split at h
  · assumption
  · cases h
theorem nmB_ok {x : Str} (h : nmB x = true) : (x == ("__debug__" : Str)) = false ∧ (x == ("__classdict__" : Str)) = false := by
  obtain ⟨a, b⟩ := and_ok h
  exact ⟨by simpa using a, by simpa using b⟩
/-- an expression whose truth is asked of its value -/
def E.plainT : E → Bool
  | .not .. => false | .notV .. => false | .bop .. => false | .cmp .. => false | .chain .. => false | .ife .. => false | .tr .. => false | .din .. => false
  | _ => true
def Es.isNil : Es → Bool
  | .nil => true
  | _ => false
def Ks.isNil : Ks → Bool
  | .nil => true
  | _ => false
def Ty.isB : Ty → Bool
  | .non => false
  | _ => true
/-- a target of an unpacked pair, where the iterator asks for one -/
def tgIt : Tg → It → Bool
  | .tup .., _ => true
  | _, .seq _ => true
  | _, .rng .. => true
  | _, _ => false
structure Oc where
  N : List Str
  fs : Nat → Option Str
  /-- calls with keywords: the def, how many come without, the names -/
  kws : List (Nat × Nat × List Str) := []
def Es.len : Es → Nat
  | .nil => 0
  | .cons _ es => es.len + 1
def Ks.names : Ks → List Str
  | .nil => []
  | .cons x _ _ ks => x :: ks.names
mutual
def E.okE (c : Oc) (sc : Scope) : E → Bool
  | .name x i _ => slotB c.N sc x i
  | .peek x i _ => slotB c.N sc x i
  | .cst x _ => glB sc x && nmB x
  | .tr e => e.plainT && e.okE c sc
  | .int .. => true | .str .. => true | .bl .. => true | .non .. => true | .emp .. => true
  | .tup es _ _ => es.okE c sc
  | .lst es _ => es.okE c sc
  | .lstH es _ => es.okE c sc
  | .bin _ a b _ => a.okE c sc && b.okE c sc
  | .neg a _ => a.okE c sc
  | .not a _ => a.okE c sc
  | .notV a _ => a.okE c sc
  | .bop _ es _ => es.okE c sc
  | .cmp _ a b _ => a.okE c sc && b.okE c sc
  | .chain _ _ a b d _ => a.okE c sc && (b.okE c sc && d.okE c sc)
  | .ife t a b _ => t.okE c sc && (a.okE c sc && b.okE c sc)
  | .call f x _ es _ => decide (c.fs f = some x) && (glB sc x && (nmB x && es.okE c sc))
  | .callK f x _ es ks _ => decide (c.fs f = some x) && (glB sc x && (nmB x && (decide ((f, es.len, ks.names) ∈ c.kws) && (es.okE c sc && ks.okE c sc))))
  | .blt b _ es _ => glB sc b.nm && (!es.isNil && es.okE c sc)
  | .isi a t _ _ _ => glB sc "isinstance" && (glB sc t.nm && (t.isB && a.okE c sc))
  | .isiT a t _ u _ _ _ _ _ => glB sc "isinstance" && (glB sc t.nm && (t.isB && (glB sc u.nm && (u.isB && a.okE c sc))))
  | .sub a i _ => a.okE c sc && i.okE c sc
  | .slc a lo hi _ _ => a.okE c sc && (lo.okE c sc && hi.okE c sc)
  | .lc e tg it t vs cs _ => blkC c.N sc cs vs && (tgIt tg it && (it.okE c sc && (tg.okC c (relS cs sc) (vs.map (·.2)) && (e.okE c (relS cs sc) && t.okE c (relS cs sc)))))
  | .dget x _ i _ => glB sc x && (nmB x && i.okE c sc)
  | .din _ a x _ _ => glB sc x && (nmB x && a.okE c sc)
  | .srt a _ _ _ _ => glB sc "sorted" && (glB sc "set" && a.okE c sc)
  | .dicH ks es _ => decide (ks.length = es.len) && (decide (1 ≤ ks.length) && (decide (ks.length ≤ 15) && es.okE c sc))
def Es.okE (c : Oc) (sc : Scope) : Es → Bool
  | .nil => true
  | .cons e es => e.okE c sc && es.okE c sc
def Eo.okE (c : Oc) (sc : Scope) : Eo → Bool
  | .non => true
  | .some e => e.okE c sc
def Ks.okE (c : Oc) (sc : Scope) : Ks → Bool
  | .nil => true
  | .cons _ e _ ks => e.okE c sc && ks.okE c sc
/-- a comprehension's target: names of the block alone -/
def Tg.okC (c : Oc) (sc : Scope) (vs : List Nat) : Tg → Bool
  | .name x i _ => decide (c.N[i]? = some x) && (locB sc x && decide (i ∈ vs))
  | .tup ts _ _ => ts.okC c sc vs
  | .sub .. => false
def Tgs.okC (c : Oc) (sc : Scope) (vs : List Nat) : Tgs → Bool
  | .nil => true
  | .cons t ts => t.okC c sc vs && ts.okC c sc vs
def It.okE (c : Oc) (sc : Scope) : It → Bool
  | .seq e => e.okE c sc
  | .rng _ es _ => glB sc "range" && es.okE c sc
  | .enum _ e _ => glB sc "enumerate" && e.okE c sc
  | .zip _ a b _ => glB sc "zip" && (a.okE c sc && b.okE c sc)
end

/-! ## the syntax has none of the odd forms -/
section
variable {env : Env}
theorem star_un : ∀ (c : E) (es : List Expr), starEach (c.un :: es) env = (false, PySem.eval c.un env) :: starEach es env
  | .tr e, es => star_un e es
  | .name .., _ | .peek .., _ | .cst .., _ | .int .., _ | .str .., _ | .bl .., _ | .non .., _ | .tup .., _ | .lst .., _ | .lstH .., _ | .emp .., _ | .bin .., _ | .neg .., _ | .not .., _ | .notV .., _ | .bop .., _ | .cmp .., _ | .chain .., _ | .ife .., _ | .call .., _ | .callK .., _ | .blt .., _ | .isi .., _ | .isiT .., _ | .sub .., _ | .slc .., _ | .lc .., _ | .dget .., _ | .din .., _ | .dicH .., _ | .srt .., _ => rfl
theorem marks_un (op : CmpOp) : ∀ (c : E), behindInMarks op c.un = false
  | .tr e => marks_un op e
  | .name .. | .peek .. | .cst .. | .int .. | .str .. | .bl .. | .non .. | .tup .. | .lst .. | .lstH .. | .emp .. | .bin .. | .neg .. | .not .. | .notV .. | .bop .. | .cmp .. | .chain .. | .ife .. | .call .. | .callK .. | .blt .. | .isi .. | .isiT .. | .sub .. | .slc .. | .lc .. | .dget .. | .din .. | .dicH .. | .srt .. => rfl
theorem plainIx_un : ∀ (c : E) (o i : Value), subscripted c.un false o i = operate [o, i] (getItem o i)
  | .tr e, o, i => plainIx_un e o i
  | .name .., _, _ | .peek .., _, _ | .cst .., _, _ | .int .., _, _ | .str .., _, _ | .bl .., _, _ | .non .., _, _ | .tup .., _, _ | .lst .., _, _ | .lstH .., _, _ | .emp .., _, _ | .bin .., _, _ | .neg .., _, _ | .not .., _, _ | .notV .., _, _ | .bop .., _, _ | .cmp .., _, _ | .chain .., _, _ | .ife .., _, _ | .call .., _, _ | .callK .., _, _ | .blt .., _, _ | .isi .., _, _ | .isiT .., _, _ | .sub .., _, _ | .slc .., _, _ | .lc .., _, _ | .dget .., _, _ | .din .., _, _ | .dicH .., _, _ | .srt .., _, _ => rfl
theorem isTrue_un : ∀ (c : E), c.plainT = true → ∀ whole, isTrue c.un env whole = (do let v ← whole; standAt c.un.pos; holding [v] (truthy v))
  | .tr e, h, _ => by cases h
  | .din .., h, _ | .not .., h, _ | .notV .., h, _ | .bop .., h, _ | .cmp .., h, _ | .chain .., h, _ | .ife .., h, _ => by cases h
  | .name .., _, _ | .peek .., _, _ | .cst .., _, _ | .int .., _, _ | .str .., _, _ | .bl .., _, _ | .non .., _, _ | .tup .., _, _ | .lst .., _, _ | .lstH .., _, _ | .emp .., _, _ | .bin .., _, _ | .neg .., _, _ | .call .., _, _ | .callK .., _, _ | .blt .., _, _ | .isi .., _, _ | .isiT .., _, _ | .sub .., _, _ | .slc .., _, _ | .lc .., _, _ | .dget .., _, _ | .dicH .., _, _ | .srt .., _, _ => rfl
theorem folded_un : ∀ (c : E) (x : Value), foldedSetIterable c.un env x = pure x
  | .tr e, x => folded_un e x
  | .name .., _ | .peek .., _ | .cst .., _ | .int .., _ | .str .., _ | .bl .., _ | .non .., _ | .tup .., _ | .lst .., _ | .lstH .., _ | .emp .., _ | .bin .., _ | .neg .., _ | .not .., _ | .notV .., _ | .bop .., _ | .cmp .., _ | .chain .., _ | .ife .., _ | .call .., _ | .callK .., _ | .blt .., _ | .isi .., _ | .isiT .., _ | .sub .., _ | .slc .., _ | .lc .., _ | .dget .., _ | .din .., _ | .dicH .., _ | .srt .., _ => rfl
theorem foldedI_un (t : It) (x : Value) : foldedSetIterable t.un env x = pure x := by
  cases t with
  | seq e => exact folded_un e x
  | rng _ _ _ => rfl
  | enum _ _ _ => rfl
  | zip _ _ _ _ => rfl
theorem plain_un (pos : Pos) : ∀ (es : Es), (backTo pos (starEach es.un env)).any (·.1) = false
  | .nil => rfl
  | .cons e es => by
    show (backTo pos (starEach (e.un :: es.un) env)).any (·.1) = false
    rw [star_un e es.un]
    have ih := plain_un pos es
    unfold backTo at ih ⊢
    rw [List.map_cons, List.any_cons, ih]
    rfl
end
end Ev

set_option maxHeartbeats 3200000
namespace Ev
open PySem PySem.Spec PyProof.Rows L2

/-! ## sorted(set(l)) of a list of whole numbers -/
/-- an empty set, as it is made -/
abbrev nilSet (w : World) : Obj := { cls := .type "set", dict := none, data := .set #[] 0 (.fresh 0 0 (!w.params.followText "set-order")) }
section
variable {P : Program} {w : World} {A : Around} {E : Value → Shared → Prop} {s : Shared} {l : Addr} {xs : Array Value} {zs : List Int}
/-- set.__init__ of a new set and a list -/
theorem fill_new {T : Result → Shared → Prop} (nh : A.handled = none) (il : s.heap.IsList l xs) (iz : IntsAre xs.toList zs) (zb : zs.length + 1 < scanBound)
    (fin : ∀ (g : Heap) (tk c : Nat), SetR w g s.heap.objs.size (fun j => decide (j ∈ zs)) c → c ≤ zs.length → (∀ b o, s.heap.get? b = some o → g.get? b = some o) → T (.ok (.ret .none)) { s with heap := g, toks := tk }) :
    codeAny (model P w) A (.call (.builtin "set.__init__") ⟨[.ref s.heap.objs.size, .ref l], []⟩) T { s with heap := s.heap.push (nilSet w) } := by
  have there : (s.heap.push (nilSet w)).get? s.heap.objs.size = some (nilSet w) := Heap.get?_push_size _ rfl
  have ofT : Shared.TypeIs { s with heap := s.heap.push (nilSet w) } (.ref s.heap.objs.size) "set" := ⟨_, there, rfl⟩
  have len : xs.size = zs.length := by
    have q := iz.length
    rwa [Array.length_toList] at q
  refine codeAny_mono (codeAny_call_builtin (R := T) F.called_set.init.plain F.entry_set_init (check_set_init_1 ofT ?_)) fun _ _ q => q
  obtain ⟨⟨c0, d0, x0, t0⟩, at0, c1, n0, d1⟩ := il
  simp only at c1 d1
  subst c1 d1
  have at1 : (s.heap.push (nilSet w)).get? l = some { cls := .type "list", dict := d0, data := .seq xs n0, slots := t0 } := Heap.get?_push_of_some _ at0
  have f1 := F.sub_list_set
  have f2 := F.sub_list_frozenset
  have f3 : (Value.type "list" == Value.type "dict") = false := by decide
  have il1 : (s.heap.push (nilSet w)).IsList l xs := ⟨_, at1, rfl, n0, rfl⟩
  unfold Builtin.«set.__init__» noKeywords Builtin.Frozenset.updateFrom
  generalize gi : pyIter = PI
  wp_walk
  subst gi
  refine wpAny_pyIter_list il1 (wpAny_bind (wpAny_runValue ?_))
  have lt0 : l < s.heap.objs.size := Heap.lt_size at0
  have nh3 : A.in1.in1.handled = none := by simp [nh]
  have sz : (s.heap.push (nilSet w)).objs.size = s.heap.objs.size + 1 := Heap.size_push ..
  have ne1 : l ≠ (s.heap.push (nilSet w)).objs.size := fun z => Nat.ne_of_lt (Nat.lt_succ_of_lt lt0) (z.trans sz)
  have off : s.heap.objs.size ∉ [(s.heap.push (nilSet w)).objs.size, l] := fun z => by
    rcases List.mem_cons.mp z with z | z
    · exact Nat.ne_of_lt (Nat.lt_succ_self _) (z.trans sz)
    · exact Nat.ne_of_gt lt0 (List.mem_singleton.mp z)
  have at2 : ((s.heap.push (nilSet w)).push { cls := .type "list_iterator", data := .fields #[.ref l, .int 0 0] }).get? s.heap.objs.size = some (nilSet w) := Heap.get?_push_of_some _ there
  refine set_update_ints ((Walks.list nh3 _ l ne1 xs).toS) s.heap.objs.size off zs len zb ?va (xs.size - 0) 0 _ (by omega) (Nat.zero_le _) ?wk ?st fun s' c mv hc R => ?fi
  case wk => exact ⟨⟨_, Heap.get?_push_size _ rfl, rfl, rfl⟩, (il1.push _)⟩
  case st => exact ⟨0, Nat.le_refl 0, setR_new_at at2⟩
  case va =>
    intro i v hv
    have hi : i < zs.length := by rw [← len]; exact (Array.getElem?_eq_some_iff.mp hv).1
    obtain ⟨t, e⟩ := IntsAre.int_at iz i v (by rw [Array.getElem?_toList]; exact hv)
    refine ⟨zs[i], t, List.getElem?_eq_getElem hi, ?_⟩
    rw [e, List.getD_eq_getElem?_getD, List.getElem?_eq_getElem hi]
    rfl
  case fi =>
    obtain ⟨g, g2, g3, g4, g5⟩ := s'
    cases mv.gens
    cases mv.drawn
    cases mv.os
    refine wpAny_pure (wpAny_pure (fin g g4 c R (by omega) fun b o e => ?_))
    have hb := Heap.lt_size e
    refine mv.heap b o (fun z => ?_) (Heap.get?_push_of_some _ (Heap.get?_push_of_some _ e))
    rcases List.mem_cons.mp z with z | z
    · exact Nat.ne_of_lt hb z
    · exact Nat.ne_of_lt (Nat.lt_succ_of_lt hb) ((List.mem_singleton.mp z).trans sz)
/-- set(l) -/
theorem set_of {Q : Value → Shared → Prop} (nh : A.handled = none) (il : s.heap.IsList l xs) (iz : IntsAre xs.toList zs) (zb : zs.length + 1 < scanBound)
    (fin : ∀ (g : Heap) (tk c : Nat), SetR w g s.heap.objs.size (fun j => decide (j ∈ zs)) c → c ≤ zs.length → (∀ b o, s.heap.get? b = some o → g.get? b = some o) → Q (.ref s.heap.objs.size) { s with heap := g, toks := tk }) :
    wpAny (model P w) A (call (.type "set") [.ref l]) Q E s := by
  obtain ⟨_, _, m0⟩ := F.called_set.mro
  have m1 := F.called_set.made
  have m2 := F.called_set.sub
  refine wpAny_call (codeAny_of_tree ?_)
  show wpAny _ _ (callAny (.type "set") _) _ _ _
  refine wpAny_pure ⟨Code.quiet_builtin _ (by decide +kernel), codeAny_builtin F.entry_type_call ?_⟩
  rw [Around.under_plain (weight_type_call_type "set" [.ref l] []) rfl]
  have m3 := F.called_set.notType
  have m4 := F.called_set.canCreate
  have m5 := F.typeCall_set_1 (.ref l)
  repeat (any_goals (first | assumption | wp_step))
  refine codeAny_mono (code_set_led1 (.ref l) (E := E) (Q₁ := fun v t => v = .ref s.heap.objs.size ∧ t = { s with heap := s.heap.push (nilSet w) }) ⟨rfl, rfl⟩) fun r t hr => ?_
  cases r with
  | error e => exact hr
  | ok fl =>
    cases fl with
    | ret v =>
      obtain ⟨rfl, rfl⟩ := hr
      have there : (s.heap.push (nilSet w)).get? s.heap.objs.size = some (nilSet w) := Heap.get?_push_size _ rfl
      have ofT : Shared.TypeIs { s with heap := s.heap.push (nilSet w) } (.ref s.heap.objs.size) "set" := ⟨_, there, rfl⟩
      have m6 := F.called_set.init.lookup
      have m7 := F.called_set.init.bind (.ref s.heap.objs.size)
      repeat (any_goals (first | assumption | wp_step))
      refine codeAny_mono (fill_new (T := wants (fun r t => r = .none ∧ ∃ g tk c, t = { s with heap := g, toks := tk } ∧ SetR w g s.heap.objs.size (fun j => decide (j ∈ zs)) c ∧ c ≤ zs.length ∧ ∀ b o, s.heap.get? b = some o → g.get? b = some o) E) (by simp [nh]) il iz zb
        fun g tk c R hc kp => ⟨rfl, g, tk, c, rfl, R, hc, kp⟩) fun r2 t2 q2 => ?_
      cases r2 with
      | error e => exact q2
      | ok fl2 =>
        cases fl2 with
        | ret r =>
          obtain ⟨rfl, g, tk, c, rfl, R, hc, kp⟩ := q2
          repeat (any_goals (first | assumption | wp_step))
          exact fin g tk c R hc kp
        | _ => exact q2.elim
    | _ => exact hr.elim
end
/-! ## the sorted row -/
theorem ins1_mem (z k : Int) : ∀ l : List Int, k ∈ ins1 z l ↔ k = z ∨ k ∈ l
  | [] => by simp [ins1]
  | x :: r => by
    unfold ins1
    split
    · simp
    · split
      · rename_i e
        subst e
        simp
      · rw [List.mem_cons, ins1_mem z k r, List.mem_cons]
        constructor
        · rintro (h | h | h) <;> simp [h]
        · rintro (h | h | h) <;> simp [h]
theorem ins1_up (z : Int) : ∀ l : List Int, l.Pairwise (· < ·) → (ins1 z l).Pairwise (· < ·)
  | [], _ => by simp [ins1]
  | x :: r, h => by
    obtain ⟨h1, h2⟩ := List.pairwise_cons.mp h
    unfold ins1
    split
    · rename_i hz
      refine List.pairwise_cons.mpr ⟨fun y hy => ?_, h⟩
      rcases List.mem_cons.mp hy with rfl | hy
      · exact hz
      · have := h1 y hy
        omega
    · split
      · exact h
      · refine List.pairwise_cons.mpr ⟨fun y hy => ?_, ins1_up z r h2⟩
        rcases (ins1_mem z y r).mp hy with rfl | hy
        · omega
        · exact h1 y hy
theorem srtI_mem (k : Int) : ∀ l : List Int, k ∈ srtI l ↔ k ∈ l
  | [] => by simp [srtI]
  | z :: r => by
    show k ∈ ins1 z (srtI r) ↔ _
    rw [ins1_mem, srtI_mem k r, List.mem_cons]
theorem srtI_up : ∀ l : List Int, (srtI l).Pairwise (· < ·)
  | [] => List.Pairwise.nil
  | z :: r => ins1_up z _ (srtI_up r)
theorem up_uniq : ∀ {a b : List Int}, a.Pairwise (· < ·) → b.Pairwise (· < ·) → (∀ k, k ∈ a ↔ k ∈ b) → a = b
  | [], [], _, _, _ => rfl
  | [], y :: b, _, _, h => by have := (h y).mpr List.mem_cons_self; cases this
  | x :: a, [], _, _, h => by have := (h x).mp List.mem_cons_self; cases this
  | x :: a, y :: b, ha, hb, h => by
    obtain ⟨a1, a2⟩ := List.pairwise_cons.mp ha
    obtain ⟨b1, b2⟩ := List.pairwise_cons.mp hb
    have e : x = y := by
      rcases List.mem_cons.mp ((h x).mp List.mem_cons_self) with z | z
      · exact z
      · rcases List.mem_cons.mp ((h y).mpr List.mem_cons_self) with u | u
        · exact u.symm
        · have := b1 x z
          have := a1 y u
          omega
    subst e
    have t : ∀ k, k ∈ a ↔ k ∈ b := fun k => by
      have hk := h k
      rw [List.mem_cons, List.mem_cons] at hk
      constructor
      · intro m
        rcases hk.mp (.inr m) with z | z
        · have := a1 k m
          omega
        · exact z
      · intro m
        rcases hk.mpr (.inr m) with z | z
        · have := b1 k m
          omega
        · exact z
    rw [up_uniq a2 b2 t]
def tSrt (K : PySem.W.Frag) (ta : TE) : TE := fun σ H Q => ta σ H fun x H1 => ∃ (l : Addr) (ns : List Int), x = .ref l ∧ SqL K H1 l (ns.map V.int) ∧ ns.length < 64 ∧ ∀ p, H1 p = none → Q (.ref p) (upd H1 p (.lst ((srtI ns).map V.int)))
theorem pe_srt {X : Cx} {a : Expr} {ta : TE} {p p2 q pos : Pos} (hc : X.calm = true) (hg : Gl X "sorted") (hm : X.mg "sorted" = none) (hg2 : Gl X "set") (hm2 : X.mg "set" = none) (ha : PE X a ta)
    (na : starEach [a] X.env = (false, eval a X.env) :: starEach [] X.env) : PE X (.Call (.Name "sorted" p) [.Call (.Name "set" p2) [a] [] q] [] pos) (tSrt X.K ta) := by
  refine ⟨fun pins s σ H Q I h => ?_⟩
  refine Call_ (ld_blt I hg hm (show bootBuiltins "sorted" = some (.builtin "sorted") by decide +kernel) ?_)
  refine PyProof.Rows.callWith_builtin1 (PyProof.Rows.args_cons ?_ rfl) rfl rfl
  refine Call_ (ld_blt I hg2 hm2 boot_set ?_)
  refine PyProof.Rows.callWith_type1 (PyProof.Rows.args_cons (thn (ha.run pins s σ H _ I h) fun v s1 ⟨x, H1, I1, r1, q1⟩ => PyProof.Rows.args_nil ?_) na) na rfl
  obtain ⟨l, ns, rfl, hq, hl, q1⟩ := q1
  cases r1
  obtain ⟨its, r, pl, hz⟩ := I1.list hq
  refine set_of (zs := ns) (I1.ok.hd hc) pl.isList (by simpa using RZ.intsAre_vals r) (by unfold scanBound; omega) fun g tk c R hcl kp => ?_
  refine PyProof.Rows.args_nil ?_
  have I2 : Inv X pins σ H1 { s1 with heap := g, toks := tk } := I1.kept kp
  refine sorted_set R (I2.ok.hd hc) (by omega) fun s' p out c2 zs k gg o hp hgt hi hs hm3 hl3 => ?_
  have hlen : (zs.map V.int).length ≤ sizeLine := by rw [List.length_map, hl3, sizeLine_eq]; omega
  have hn : H1 p = none := I2.hok.fresh hp
  have I3 : Inv X pins σ (upd H1 p (.lst (zs.map V.int))) { { s1 with heap := g, toks := tk } with heap := s'.heap, gens := s'.gens, drawn := s'.drawn, toks := s'.toks } :=
    I2.call (ch := []) (Un.laid k hp hn) (I2.hok.laid k hp ⟨hlen, out.toList, c2, vals_of_ints hi, hgt⟩) (by rw [gg]; exact I2.bare) (fun _ z => nomatch z)
  have es : s' = { s1 with heap := s'.heap, gens := s'.gens, drawn := s'.drawn, toks := s'.toks } := by
    cases s'
    cases o
    rfl
  have ez : zs = srtI ns := up_uniq hs (srtI_up ns) fun k => by
    rw [hm3 k, srtI_mem, decide_eq_true_eq]
  rw [ez] at I3
  rw [es]
  exact ⟨.ref p, _, I3, rfl, q1 p hn⟩
end Ev

namespace Ev
open PySem PySem.Spec PyProof.Rows L2

/-! ## slots set and forgotten, things held -/
/-- p stands alone: a new list that nobody has yet -/
structure Nw (e0 : Ent) (F : Hp) (ι : List Addr) (sl : Sls) (σ : VS) (H : Hp) (p : Addr) (vs : List V) : Prop where
  at_ : H p = some (.lst vs)
  f : F p = none
  i : p ∉ ι
  o : e0.H p = none
  hd : e0.hold p = none
  sl : ∀ (i : Nat) (ws : List W), sl[i]? = some (.own ws) → σ[i]? ≠ some (some (.ref p))
section
variable {K : PySem.W.Frag} {e0 : Ent} {F F' : Hp} {ι ι' : List Addr} {sl : Sls} {h h' : Obs} {σ : VS} {H H' : Hp}
theorem HR.notin (r : HR K F ι h H) {p : Addr} (hp : H p = none) : F p = none ∧ p ∉ ι := by
  refine ⟨?_, fun hm => ?_⟩
  · cases q : F p with
    | none => rfl
    | some o =>
      have z := r.sub _ _ q
      rw [hp] at z; cases z
  · obtain ⟨n, hn, e⟩ := List.mem_iff_getElem.mp hm
    have e1 : ι[n]? = some p := by rw [List.getElem?_eq_getElem hn, e]
    have hl : n < h.length := by rw [← r.len]; exact hn
    obtain ⟨_, q⟩ := r.ob n p _ e1 (List.getElem?_eq_getElem hl)
    exact q.some hp
theorem J.none0 (j : J K e0 F ι sl h σ H) {p : Addr} (hp : H p = none) : e0.H p = none ∧ e0.hold p = none ∧ ∀ (i : Nat) (ws : List W), sl[i]? = some (.own ws) → σ[i]? ≠ some (some (.ref p)) := by
  refine ⟨?_, ?_, fun i ws e z => ?_⟩
  · cases q : e0.H p with
    | none => rfl
    | some o => exact absurd hp (j.xt.d p (by rw [q]; simp))
  · cases q : e0.hold p with
    | none => rfl
    | some o =>
      have z := (j.hd p o q).1
      rw [hp] at z; cases z
  · obtain ⟨p', vs, e1, e2, _⟩ := j.at_ i _ e
    rw [z] at e1
    cases e1
    rw [hp] at e2; cases e2
/-- a list just laid is new -/
theorem J.nw (j : J K e0 F ι sl h σ H) {p : Addr} {vs : List V} (hp : H p = none) : Nw e0 F ι sl σ (upd H p (.lst vs)) p vs :=
  ⟨upd_same, (j.hr.notin hp).1, (j.hr.notin hp).2, (j.none0 hp).1, (j.none0 hp).2.1, (j.none0 hp).2.2⟩
/-- .. is given away, never to change again -/
theorem J.frz {p : Addr} {vs : List V} (j : J K e0 F ι sl h σ H) (n : Nw e0 F ι sl σ H p vs) : J K e0 (upd F p (.lst vs)) ι sl h σ H ∧ Le F ι (upd F p (.lst vs)) ι := by
  have fne : ∀ a o, F a = some o → a ≠ p := fun a o e z => by rw [z, n.f] at e; cases e
  have le : Le F ι (upd F p (.lst vs)) ι := ⟨fun a o e => by rw [upd_ne (fne a o e)]; exact e, [], by simp⟩
  refine ⟨⟨⟨fun a o e => ?_, j.hr.len, j.hr.nd, fun m a o e1 e2 => ?_⟩, ⟨j.xt.le.trans le, j.xt.h, fun a e => ?_, j.xt.m, j.xt.d⟩, j.len, fun i s e => ?_, j.ap, fun a o e => ?_⟩, le⟩
  · by_cases hn : a = p
    · rw [hn, upd_same] at e; rw [hn, n.at_]; exact e
    · rw [upd_ne hn] at e; exact j.hr.sub a o e
  · obtain ⟨fn, q⟩ := j.hr.ob m a o e1 e2
    have hn : a ≠ p := fun z => n.i (z ▸ List.mem_of_getElem? e1)
    rw [upd_ne hn]
    exact ⟨fn, q.mono le⟩
  · by_cases hn : a = p
    · rw [hn]; exact .inr n.o
    · rw [upd_ne hn] at e; exact j.xt.n a e
  · have q := j.at_ i s e
    cases s with
    | non => trivial
    | val w =>
      obtain ⟨v, e1, rv⟩ := q
      exact ⟨v, e1, rv.mono le⟩
    | own ws =>
      obtain ⟨p', us, e1, e2, rv, fn, ni, n0⟩ := q
      have hn : p' ≠ p := fun z => n.sl i ws e (z ▸ e1)
      exact ⟨p', us, e1, e2, rv.mono le, by rw [upd_ne hn]; exact fn, ni, n0⟩
  · obtain ⟨e1, e2, e3, e4⟩ := j.hd a o e
    have hn : a ≠ p := fun z => by rw [z, n.hd] at e; cases e
    exact ⟨e1, by rw [upd_ne hn]; exact e2, e3, e4⟩
/-- a name is given a value -/
theorem J.setV {i : Nat} {w : W} {v : V} (j : J K e0 F ι sl h σ H) (r : RV K F ι w v) : J K e0 F ι (sl.set i (.val w)) h (σ.set i (some v)) H where
  hr := j.hr
  xt := j.xt
  len := by rw [List.length_set, List.length_set, j.len]
  at_ := fun k s e => by
    by_cases hk : i = k
    · subst hk
      by_cases hl : i < sl.length
      · rw [List.getElem?_set_self hl] at e
        cases e
        exact ⟨v, by rw [List.getElem?_set_self (by rw [← j.len]; exact hl)], r⟩
      · rw [List.getElem?_eq_none (by simpa using hl)] at e; cases e
    · rw [List.getElem?_set_ne hk] at e ⊢
      exact j.at_ k s e
  ap := fun k l ws us p e1 e2 e3 e4 => by
    have nk : ∀ (k : Nat) (ws : List W), (sl.set i (.val w))[k]? = some (.own ws) → i ≠ k := fun k ws e z => by
      subst z
      by_cases hl : i < sl.length
      · rw [List.getElem?_set_self hl] at e; cases e
      · rw [List.getElem?_eq_none (by simpa using hl)] at e; cases e
    have n1 := nk k ws e1
    have n2 := nk l us e2
    rw [List.getElem?_set_ne n1] at e1 e3
    rw [List.getElem?_set_ne n2] at e2 e4
    exact j.ap k l ws us p e1 e2 e3 e4
  hd := fun a o e => by
    obtain ⟨e1, e2, e3, e4⟩ := j.hd a o e
    refine ⟨e1, e2, e3, fun k ws q => ?_⟩
    have hk : i ≠ k := fun z => by
      subst z
      by_cases hl : i < sl.length
      · rw [List.getElem?_set_self hl] at q; cases q
      · rw [List.getElem?_eq_none (by simpa using hl)] at q; cases q
    rw [List.getElem?_set_ne hk] at q ⊢
    exact e4 k ws q
/-- slots are forgotten -/
theorem J.wk {sl' : Sls} {σ' : VS} (j : J K e0 F ι sl h σ H) (hl : sl'.length = σ'.length) (w : ∀ (i : Nat) (s : Sl), sl'[i]? = some s → s = .non ∨ (sl[i]? = some s ∧ σ'[i]? = σ[i]?)) : J K e0 F ι sl' h σ' H where
  hr := j.hr
  xt := j.xt
  len := hl
  at_ := fun i s e => by
    rcases w i s e with rfl | ⟨e1, e2⟩
    · trivial
    · rw [e2]; exact j.at_ i s e1
  ap := fun k l ws us p e1 e2 e3 e4 => by
    rcases w k _ e1 with z | ⟨a1, a2⟩
    · cases z
    rcases w l _ e2 with z | ⟨b1, b2⟩
    · cases z
    exact j.ap k l ws us p a1 b1 (a2 ▸ e3) (b2 ▸ e4)
  hd := fun a o e => by
    obtain ⟨e1, e2, e3, e4⟩ := j.hd a o e
    refine ⟨e1, e2, e3, fun k ws q => ?_⟩
    rcases w k _ q with z | ⟨a1, a2⟩
    · cases z
    rw [a2]
    exact e4 k ws a1
theorem wipeS_length (σ : Sls) : ∀ vs : List Nat, (wipeS σ vs).length = σ.length
  | [] => rfl
  | v :: vs => by
    show ((wipeS σ vs).set v .non).length = _
    rw [List.length_set, wipeS_length σ vs]
theorem wipeS_get {σ : Sls} {i : Nat} {s : Sl} : ∀ {vs : List Nat}, (wipeS σ vs)[i]? = some s → s = .non ∨ (σ[i]? = some s ∧ i ∉ vs)
  | [], h => .inr ⟨h, by simp⟩
  | v :: vs, h => by
    have h : ((wipeS σ vs).set v .non)[i]? = some s := h
    by_cases hi : v = i
    · subst hi
      by_cases hv : v < (wipeS σ vs).length
      · rw [List.getElem?_set_self hv] at h; cases h; exact .inl rfl
      · rw [List.getElem?_eq_none (by simpa using hv)] at h; cases h
    · rw [List.getElem?_set_ne hi] at h
      rcases wipeS_get h with z | ⟨h1, h2⟩
      · exact .inl z
      · exact .inr ⟨h1, by simp only [List.mem_cons, not_or]; exact ⟨fun e => hi e.symm, h2⟩⟩
theorem wipeS_out {σ : Sls} {i : Nat} : ∀ {vs : List Nat}, i ∉ vs → (wipeS σ vs)[i]? = σ[i]?
  | [], _ => rfl
  | v :: vs, h => by
    simp only [List.mem_cons, not_or] at h
    show ((wipeS σ vs).set v .non)[i]? = _
    rw [List.getElem?_set_ne (fun e => h.1 e.symm), wipeS_out h.2]
theorem J.wipe (vs : List Nat) (j : J K e0 F ι sl h σ H) : J K e0 F ι (wipeS sl vs) h (L2.wipe σ vs) H := j.wk (by rw [wipeS_length, wipe_length, j.len]) fun i s e => by
  rcases wipeS_get e with z | ⟨h1, h2⟩
  · exact .inl z
  · exact .inr ⟨h1, wipe_out h2⟩
theorem noOwn_ok {sl : Sls} : ∀ {vs : List Nat}, noOwn sl vs = true → ∀ i ∈ vs, ∀ ws, sl[i]? ≠ some (.own ws)
  | [], _, i, hi, _ => by cases hi
  | v :: vs, h, i, hi, ws => by
    unfold noOwn at h
    split at h
    · cases h
    · rename_i hn
      rcases List.mem_cons.mp hi with rfl | hi
      · exact hn ws
      · exact noOwn_ok h i hi ws
/-- behind a block: its names' old values again -/
theorem J.unwipe {vs : List Nat} (j0 : J K e0 F ι sl h σ H) (no : noOwn sl vs = true) (l : Le F ι F' ι') (j : J K e0 F' ι' (wipeS sl vs) h' (L2.wipe σ vs) H') : J K e0 F' ι' sl h' σ H' where
  hr := j.hr
  xt := j.xt
  len := j0.len
  at_ := fun i s e => by
    by_cases hi : i ∈ vs
    · cases s with
      | non => trivial
      | val w =>
        obtain ⟨v, e1, rv⟩ := j0.at_ i _ e
        exact ⟨v, e1, rv.mono l⟩
      | own ws => exact absurd e (noOwn_ok no i hi ws)
    · have q := j.at_ i s (by rw [wipeS_out hi]; exact e)
      rw [wipe_out hi] at q
      exact q
  ap := j0.ap
  hd := fun a o e => by
    obtain ⟨e1, e2, e3, _⟩ := j.hd a o e
    exact ⟨e1, e2, e3, (j0.hd a o e).2.2.2⟩
theorem set_back {α : Type} (v : Nat) (x : α) : ∀ (s t : List α) , s.length = t.length → (∀ i, i ≠ v → s[i]? = t[i]?) → s.set v x = t.set v x := by
  intro s t hl h
  refine List.ext_getElem? fun i => ?_
  by_cases hi : v = i
  · subst hi
    by_cases hv : v < s.length
    · rw [List.getElem?_set_self hv, List.getElem?_set_self (hl ▸ hv)]
    · rw [List.getElem?_eq_none (by simpa using hv), List.getElem?_eq_none (by simpa [← hl] using hv)]
  · rw [List.getElem?_set_ne hi, List.getElem?_set_ne hi]
    exact h i (fun e => hi e.symm)
theorem wipeS_set {sl : Sls} {i : Nat} {s : Sl} : ∀ {vs : List Nat}, i ∈ vs → wipeS (sl.set i s) vs = wipeS sl vs
  | [], h => by cases h
  | v :: vs, h => by
    show (wipeS (sl.set i s) vs).set v .non = (wipeS sl vs).set v .non
    by_cases hm : i ∈ vs
    · rw [wipeS_set hm]
    · have e : i = v := (List.mem_cons.mp h).resolve_right hm
      subst e
      refine set_back i _ _ _ (by rw [wipeS_length, wipeS_length, List.length_set]) fun k hk => ?_
      by_cases hkv : k ∈ vs
      · have go : ∀ {us : List Nat}, k ∈ us → (wipeS (sl.set i s) us)[k]? = (wipeS sl us)[k]? := fun {us} => by
          induction us with
          | nil => intro z; cases z
          | cons u us ih =>
            intro z
            show ((wipeS (sl.set i s) us).set u .non)[k]? = ((wipeS sl us).set u .non)[k]?
            by_cases hu : u = k
            · subst hu
              by_cases hl : u < sl.length
              · rw [List.getElem?_set_self (by rw [wipeS_length, List.length_set]; exact hl), List.getElem?_set_self (by rw [wipeS_length]; exact hl)]
              · rw [List.getElem?_eq_none (by simpa [wipeS_length] using hl), List.getElem?_eq_none (by simpa [wipeS_length] using hl)]
            · rw [List.getElem?_set_ne hu, List.getElem?_set_ne hu]
              exact ih ((List.mem_cons.mp z).resolve_left fun e => hu e.symm)
        exact go hkv
      · rw [wipeS_out hkv, wipeS_out hkv, List.getElem?_set_ne (fun e => hk e.symm)]
theorem wipe_set {σ : VS} {i : Nat} {s : Option V} : ∀ {vs : List Nat}, i ∈ vs → wipe (σ.set i s) vs = wipe σ vs
  | [], h => by cases h
  | v :: vs, h => by
    show (wipe (σ.set i s) vs).set v none = (wipe σ vs).set v none
    by_cases hm : i ∈ vs
    · rw [wipe_set hm]
    · have e : i = v := (List.mem_cons.mp h).resolve_right hm
      subst e
      refine set_back i _ _ _ (by rw [wipe_length, wipe_length, List.length_set]) fun k hk => ?_
      by_cases hkv : k ∈ vs
      · have go : ∀ {us : List Nat}, k ∈ us → (wipe (σ.set i s) us)[k]? = (wipe σ us)[k]? := fun {us} => by
          induction us with
          | nil => intro z; cases z
          | cons u us ih =>
            intro z
            show ((wipe (σ.set i s) us).set u none)[k]? = ((wipe σ us).set u none)[k]?
            by_cases hu : u = k
            · subst hu
              by_cases hl : u < σ.length
              · rw [List.getElem?_set_self (by rw [wipe_length, List.length_set]; exact hl), List.getElem?_set_self (by rw [wipe_length]; exact hl)]
              · rw [List.getElem?_eq_none (by simpa [wipe_length] using hl), List.getElem?_eq_none (by simpa [wipe_length] using hl)]
            · rw [List.getElem?_set_ne hu, List.getElem?_set_ne hu]
              exact ih ((List.mem_cons.mp z).resolve_left fun e => hu e.symm)
        exact go hkv
      · rw [wipe_out hkv, wipe_out hkv, List.getElem?_set_ne (fun e => hk e.symm)]
theorem wipe_wipe (σ : VS) (vs : List Nat) : wipe (wipe σ vs) vs = wipe σ vs := by
  have go : ∀ us : List Nat, (∀ u ∈ us, u ∈ vs) → wipe (wipe σ us) vs = wipe σ vs := by
    intro us
    induction us with
    | nil => intro _; rfl
    | cons u us ih =>
      intro hu
      show wipe ((wipe σ us).set u none) vs = _
      rw [wipe_set (hu u List.mem_cons_self)]
      exact ih fun x hx => hu x (List.mem_cons_of_mem _ hx)
  exact go vs fun _ h => h
theorem wipeS_wipeS (σ : Sls) (vs : List Nat) : wipeS (wipeS σ vs) vs = wipeS σ vs := by
  have go : ∀ us : List Nat, (∀ u ∈ us, u ∈ vs) → wipeS (wipeS σ us) vs = wipeS σ vs := by
    intro us
    induction us with
    | nil => intro _; rfl
    | cons u us ih =>
      intro hu
      show wipeS ((wipeS σ us).set u .non) vs = _
      rw [wipeS_set (hu u List.mem_cons_self)]
      exact ih fun x hx => hu x (List.mem_cons_of_mem _ hx)
  exact go vs fun _ h => h

/-- a new thing that changes by number -/
theorem J.newO {K : PySem.W.Frag} {e0 : Ent} {F : Hp} {ι : List Addr} {sl : Sls} {h : Obs} {σ : VS} {H : Hp} {p : Addr} {b : Ob} {o : HO} (j : J K e0 F ι sl h σ H) (hp : H p = none) (r : ObR K F ι b (some o)) :
    J K e0 F (ι ++ [p]) sl (h ++ [b]) σ (upd H p o) := by
  have le : Le F ι F (ι ++ [p]) := ⟨fun _ _ e => e, [p], rfl⟩
  have nn := j.hr.notin hp
  have ne : ∀ {a : Addr} {o : HO}, H a = some o → a ≠ p := fun {a o} e z => by rw [z, hp] at e; cases e
  refine j.step ⟨le, fun a u e _ _ => by rw [upd_ne (ne e)]; exact e, fun _ e => .inl e, fun a e => ?_, fun a e => ?_⟩ ⟨fun a u e => ?_, by rw [List.length_append, List.length_append, j.hr.len]; rfl, ?_, fun n a b' e1 e2 => ?_⟩
  · rcases List.mem_append.mp e with z | z
    · exact .inl z
    · have z : a = p := by simpa using z
      rw [z]; exact .inr hp
  · by_cases hn : a = p
    · rw [hn, upd_same]; simp
    · rw [upd_ne hn]; exact e
  · have e2 := j.hr.sub a u e
    rw [upd_ne (ne e2)]; exact e2
  · refine List.nodup_append.mpr ⟨j.hr.nd, by simp, fun a ha b hb => ?_⟩
    have z : b = p := by simpa using hb
    rintro rfl
    exact nn.2 (z ▸ ha)
  · by_cases hn : n < ι.length
    · rw [List.getElem?_append_left hn] at e1
      rw [List.getElem?_append_left (by rw [← j.hr.len]; exact hn)] at e2
      obtain ⟨fn, q⟩ := j.hr.ob n a b' e1 e2
      have ha : a ≠ p := fun z => nn.2 (z ▸ List.mem_of_getElem? e1)
      rw [upd_ne ha]
      exact ⟨fn, q.mono le⟩
    · have hl := j.hr.len
      rw [List.getElem?_append_right (by omega)] at e1 e2
      have z1 : n - ι.length = 0 := by
        have := (List.getElem?_eq_some_iff.mp e1).1
        simp only [List.length_singleton] at this
        omega
      have z2 : n - h.length = 0 := by omega
      rw [z1] at e1
      rw [z2] at e2
      cases e1
      cases e2
      rw [upd_same]
      exact ⟨nn.1, r.mono le⟩

theorem J.newH {K : PySem.W.Frag} {e0 : Ent} {F : Hp} {ι : List Addr} {sl : Sls} {h : Obs} {σ : VS} {H : Hp} {p : Addr} {ws : List W} {vs : List V} (j : J K e0 F ι sl h σ H) (hp : H p = none) (r : RVs K F ι ws vs) :
    J K e0 F (ι ++ [p]) sl (h ++ [.lst ws]) σ (upd H p (.lst vs)) := j.newO hp ⟨vs, rfl, r⟩
/-- a name is given a new list as its own -/
theorem J.setO {K : PySem.W.Frag} {e0 : Ent} {F : Hp} {ι : List Addr} {sl : Sls} {h : Obs} {σ : VS} {H : Hp} {i : Nat} {ws : List W} {p : Addr} {vs : List V} (j : J K e0 F ι sl h σ H) (n : Nw e0 F ι sl σ H p vs) (r : RVs K F ι ws vs) :
    J K e0 F ι (sl.set i (.own ws)) h (σ.set i (some (.ref p))) H where
  hr := j.hr
  xt := j.xt
  len := by rw [List.length_set, List.length_set, j.len]
  at_ := fun k s e => by
    by_cases hk : i = k
    · subst hk
      by_cases hl : i < sl.length
      · rw [List.getElem?_set_self hl] at e
        cases e
        exact ⟨p, vs, by rw [List.getElem?_set_self (by rw [← j.len]; exact hl)], n.at_, r, n.f, n.i, n.o⟩
      · rw [List.getElem?_eq_none (by simpa using hl)] at e; cases e
    · rw [List.getElem?_set_ne hk] at e ⊢
      exact j.at_ k s e
  ap := fun k l us us' q e1 e2 e3 e4 => by
    have one : ∀ (k : Nat) (us : List W) (q : Addr), (sl.set i (.own ws))[k]? = some (.own us) → (σ.set i (some (.ref p)))[k]? = some (some (.ref q)) → (i = k ∧ q = p) ∨ (i ≠ k ∧ sl[k]? = some (.own us) ∧ σ[k]? = some (some (.ref q))) := fun k us q e e' => by
      by_cases hk : i = k
      · subst hk
        by_cases hl : i < σ.length
        · rw [List.getElem?_set_self hl] at e'
          cases e'
          exact .inl ⟨rfl, rfl⟩
        · rw [List.getElem?_eq_none (by simpa using hl)] at e'; cases e'
      · rw [List.getElem?_set_ne hk] at e e'
        exact .inr ⟨hk, e, e'⟩
    rcases one k us q e1 e3 with ⟨rfl, rfl⟩ | ⟨n1, a1, a2⟩ <;> rcases one l us' q e2 e4 with ⟨rfl, e⟩ | ⟨n2, b1, b2⟩
    · rfl
    · exact absurd b2 (n.sl l us' b1)
    · subst e
      exact absurd a2 (n.sl k us a1)
    · exact j.ap k l us us' q a1 b1 a2 b2
  hd := fun a o e => by
    obtain ⟨e1, e2, e3, e4⟩ := j.hd a o e
    refine ⟨e1, e2, e3, fun k us q z => ?_⟩
    by_cases hk : i = k
    · subst hk
      by_cases hl : i < σ.length
      · rw [List.getElem?_set_self hl] at z
        cases z
        rw [n.hd] at e; cases e
      · rw [List.getElem?_eq_none (by simpa using hl)] at z; cases z
    · rw [List.getElem?_set_ne hk] at q z
      exact e4 k us q z
/-- a list of one's own changes -/
theorem J.mutO {K : PySem.W.Frag} {e0 : Ent} {F : Hp} {ι : List Addr} {sl : Sls} {h : Obs} {σ : VS} {H : Hp} {i : Nat} {ws ws' : List W} {p : Addr} {vs' : List V} (j : J K e0 F ι sl h σ H) (e : sl[i]? = some (.own ws)) (e' : σ[i]? = some (some (.ref p))) (r : RVs K F ι ws' vs') :
    J K e0 F ι (sl.set i (.own ws')) h σ (upd H p (.lst vs')) := by
  obtain ⟨p', vs, q1, q2, rv, q3, q4, q5⟩ := j.at_ i _ e
  rw [e'] at q1
  cases q1
  have fne : ∀ a u, F a = some u → a ≠ p := fun a u e z => by rw [z, q3] at e; cases e
  have old : ∀ (k : Nat) (us : List W), (sl.set i (.own ws'))[k]? = some (.own us) → ∃ us', sl[k]? = some (.own us') := fun k us z => by
    by_cases hk : i = k
    · exact ⟨ws, hk ▸ e⟩
    · rw [List.getElem?_set_ne hk] at z
      exact ⟨us, z⟩
  refine ⟨⟨fun a u e => by rw [upd_ne (fne a u e)]; exact j.hr.sub a u e, j.hr.len, j.hr.nd, fun m a u z1 z2 => ?_⟩, ⟨j.xt.le, fun a u z1 z2 z3 => ?_, j.xt.n, j.xt.m, fun a z => ?_⟩, by rw [List.length_set]; exact j.len, fun k s z => ?_, fun k l us us' q z1 z2 z3 z4 => ?_, fun a u z => ?_⟩
  · obtain ⟨fn, q⟩ := j.hr.ob m a u z1 z2
    have hn : a ≠ p := fun z => q4 (z ▸ List.mem_of_getElem? z1)
    rw [upd_ne hn]
    exact ⟨fn, q⟩
  · have hn : a ≠ p := fun z => by rw [z, q5] at z1; cases z1
    rw [upd_ne hn]
    exact j.xt.h a u z1 z2 z3
  · by_cases hn : a = p
    · rw [hn, upd_same]; simp
    · rw [upd_ne hn]; exact j.xt.d a z
  · by_cases hk : i = k
    · subst hk
      have hl : i < sl.length := (List.getElem?_eq_some_iff.mp e).1
      rw [List.getElem?_set_self hl] at z
      cases z
      exact ⟨p, vs', e', upd_same, r, q3, q4, q5⟩
    · rw [List.getElem?_set_ne hk] at z
      have q := j.at_ k s z
      cases s with
      | non => trivial
      | val w => exact q
      | own us =>
        obtain ⟨p2, us2, a1, a2, rv2, fn, ni, n0⟩ := q
        have hn : p2 ≠ p := fun y => hk (j.ap i k ws us p e z e' (y ▸ a1))
        exact ⟨p2, us2, a1, by rw [upd_ne hn]; exact a2, rv2, fn, ni, n0⟩
  · obtain ⟨o1, y1⟩ := old k us z1
    obtain ⟨o2, y2⟩ := old l us' z2
    exact j.ap k l o1 o2 q y1 y2 z3 z4
  · obtain ⟨e1, e2, e3, e4⟩ := j.hd a u z
    have hn : a ≠ p := fun y => e4 i ws e (y ▸ e')
    refine ⟨by rw [upd_ne hn]; exact e1, e2, e3, fun k us y => ?_⟩
    obtain ⟨o1, y1⟩ := old k us y
    exact e4 k o1 y1
/-- a thing by number changes -/
theorem J.mutB {K : PySem.W.Frag} {e0 : Ent} {F : Hp} {ι : List Addr} {sl : Sls} {h : Obs} {σ : VS} {H : Hp} {n : Nat} {b : Ob} {p : Addr} {o : HO} (j : J K e0 F ι sl h σ H) (e : ι[n]? = some p) (fp : F p = none) (hp : H p ≠ none) (r : ObR K F ι b (some o)) :
    J K e0 F ι sl (h.set n b) σ (upd H p o) := by
  have fne : ∀ a u, F a = some u → a ≠ p := fun a u e z => by rw [z, fp] at e; cases e
  have hm : p ∈ ι := List.mem_of_getElem? e
  refine ⟨⟨fun a u e => by rw [upd_ne (fne a u e)]; exact j.hr.sub a u e, by rw [List.length_set]; exact j.hr.len, j.hr.nd, fun m a u z1 z2 => ?_⟩, ⟨j.xt.le, fun a u z1 z2 z3 => ?_, j.xt.n, j.xt.m, fun a z => ?_⟩, j.len, fun k s z => ?_, j.ap, fun a u z => ?_⟩
  · by_cases hk : n = m
    · subst hk
      have z3 : n < h.length := by
        have := (List.getElem?_eq_some_iff.mp z2).1
        rw [List.length_set] at this
        exact this
      rw [List.getElem?_set_self z3] at z2
      cases z2
      rw [e] at z1
      cases z1
      rw [upd_same]
      exact ⟨fp, r⟩
    · rw [List.getElem?_set_ne hk] at z2
      obtain ⟨fn, q⟩ := j.hr.ob m a u z1 z2
      have hn : a ≠ p := fun z => by
        subst z
        obtain ⟨l1, y1⟩ := List.getElem?_eq_some_iff.mp e
        obtain ⟨l2, y2⟩ := List.getElem?_eq_some_iff.mp z1
        exact hk ((List.getElem_inj j.hr.nd).mp (y1.trans y2.symm))
      rw [upd_ne hn]
      exact ⟨fn, q⟩
  · have hn : a ≠ p := fun z => by
      subst z
      rcases j.xt.m a hm with y | y
      · exact z3 y
      · have z1 : e0.H a = some u := z1
        rw [y] at z1; cases z1
    rw [upd_ne hn]
    exact j.xt.h a u z1 z2 z3
  · by_cases hn : a = p
    · rw [hn, upd_same]; simp
    · rw [upd_ne hn]; exact j.xt.d a z
  · have q := j.at_ k s z
    cases s with
    | non => trivial
    | val w => exact q
    | own us =>
      obtain ⟨p2, us2, a1, a2, rv2, fn, ni, n0⟩ := q
      have hn : p2 ≠ p := fun y => ni (y ▸ hm)
      exact ⟨p2, us2, a1, by rw [upd_ne hn]; exact a2, rv2, fn, ni, n0⟩
  · obtain ⟨e1, e2, e3, e4⟩ := j.hd a u z
    have hn : a ≠ p := fun y => e3 (y ▸ hm)
    exact ⟨by rw [upd_ne hn]; exact e1, e2, e3, e4⟩
theorem J.mutH {K : PySem.W.Frag} {e0 : Ent} {F : Hp} {ι : List Addr} {sl : Sls} {h : Obs} {σ : VS} {H : Hp} {n : Nat} {ws' : List W} {p : Addr} {vs' : List V} (j : J K e0 F ι sl h σ H) (e : ι[n]? = some p) (fp : F p = none) (hp : H p ≠ none) (r : RVs K F ι ws' vs') :
    J K e0 F ι sl (h.set n (.lst ws')) σ (upd H p (.lst vs')) := j.mutB e fp hp ⟨vs', rfl, r⟩
/-- a list of one's own is given away: its name keeps it -/
theorem J.frz1 {K : PySem.W.Frag} {e0 : Ent} {F : Hp} {ι : List Addr} {sl : Sls} {h : Obs} {σ : VS} {H : Hp} {i : Nat} {ws : List W} (j : J K e0 F ι sl h σ H) (e : sl[i]? = some (.own ws)) :
    ∃ F', Le F ι F' ι ∧ J K e0 F' ι (sl.set i (.val (.lst ws))) h σ H := by
  obtain ⟨p, vs, q1, q2, rv, q3, q4, q5⟩ := j.at_ i _ e
  have hl : i < sl.length := (List.getElem?_eq_some_iff.mp e).1
  have j1 : J K e0 F ι (sl.set i .non) h σ H := j.wk (by rw [List.length_set]; exact j.len) fun k s z => by
    by_cases hk : i = k
    · subst hk
      rw [List.getElem?_set_self hl] at z
      cases z
      exact .inl rfl
    · rw [List.getElem?_set_ne hk] at z
      exact .inr ⟨z, rfl⟩
  have nw : Nw e0 F ι (sl.set i .non) σ H p vs := ⟨q2, q3, q4, q5, by
      cases q : e0.hold p with
      | none => rfl
      | some o => exact absurd q1 ((j.hd p o q).2.2.2 i ws e), fun k us z y => by
      by_cases hk : i = k
      · subst hk
        rw [List.getElem?_set_self hl] at z
        cases z
      · rw [List.getElem?_set_ne hk] at z
        exact hk (j.ap i k ws us p e z q1 y)⟩
  obtain ⟨j2, l2⟩ := j1.frz nw
  refine ⟨_, l2, ?_⟩
  have j3 := j2.setV (i := i) (w := .lst ws) (v := .ref p) (.lst upd_same (rv.mono l2))
  rw [List.set_set] at j3
  have es : σ.set i (some (.ref p)) = σ := by
    refine List.ext_getElem? fun k => ?_
    by_cases hk : i = k
    · subst hk
      rw [List.getElem?_set_self (by rw [← j.len]; exact hl), q1]
    · rw [List.getElem?_set_ne hk]
  rw [es] at j3
  exact j3
theorem J.frzS {K : PySem.W.Frag} {e0 : Ent} {ι : List Addr} {h : Obs} {σ : VS} {H : Hp} : ∀ (is : List Nat) {F : Hp} {sl : Sls}, J K e0 F ι sl h σ H → ∃ F', Le F ι F' ι ∧ J K e0 F' ι (Ev.frzS is sl) h σ H
  | [], F, sl, j => ⟨F, .refl, j⟩
  | i :: is, F, sl, j => by
    unfold Ev.frzS
    split
    · rename_i ws e
      obtain ⟨F1, l1, j1⟩ := j.frz1 e
      obtain ⟨F2, l2, j2⟩ := J.frzS is j1
      exact ⟨F2, l1.trans l2, j2⟩
    · exact J.frzS is j
/-- what is new is held, as it stands -/
theorem J.holdN {K : PySem.W.Frag} {e0 : Ent} {F : Hp} {ι : List Addr} {sl : Sls} {h : Obs} {σ : VS} {H : Hp} {p : Addr} {vs : List V} (j : J K e0 F ι sl h σ H) (n : Nw e0 F ι sl σ H p vs) :
    J K { e0 with hold := upd e0.hold p (.lst vs) } F ι sl h σ H := ⟨j.hr, j.xt, j.len, j.at_, j.ap, fun a u e => by
    by_cases ha : a = p
    · subst ha
      have e : upd e0.hold a (.lst vs) a = some u := e
      rw [upd_same] at e
      cases e
      exact ⟨n.at_, n.f, n.i, n.sl⟩
    · have e : upd e0.hold p (.lst vs) a = some u := e
      rw [upd_ne ha] at e
      exact j.hd a u e⟩
theorem Nw.setV {e0 : Ent} {F : Hp} {ι : List Addr} {sl : Sls} {σ : VS} {H : Hp} {p : Addr} {vs : List V} {i : Nat} {w : W} {v : V} (n : Nw e0 F ι sl σ H p vs) : Nw e0 F ι (sl.set i (.val w)) (σ.set i (some v)) H p vs :=
  ⟨n.at_, n.f, n.i, n.o, n.hd, fun k us z => by
    by_cases hk : i = k
    · subst hk
      by_cases hl : i < sl.length
      · rw [List.getElem?_set_self hl] at z; cases z
      · rw [List.getElem?_eq_none (by simpa using hl)] at z; cases z
    · rw [List.getElem?_set_ne hk] at z ⊢
      exact n.sl k us z⟩
theorem Nw.setO {e0 : Ent} {F : Hp} {ι : List Addr} {sl : Sls} {σ : VS} {H : Hp} {p p2 : Addr} {vs : List V} {i : Nat} {ws : List W} (n : Nw e0 F ι sl σ H p vs) (hn : p2 ≠ p) : Nw e0 F ι (sl.set i (.own ws)) (σ.set i (some (.ref p2))) H p vs :=
  ⟨n.at_, n.f, n.i, n.o, n.hd, fun k us z y => by
    by_cases hk : i = k
    · subst hk
      by_cases hl : i < σ.length
      · rw [List.getElem?_set_self hl] at y
        cases y
        exact hn rfl
      · rw [List.getElem?_eq_none (by simpa using hl)] at y; cases y
    · rw [List.getElem?_set_ne hk] at z y
      exact n.sl k us z y⟩

/-! ### held things -/
def Ent.keep (e0 : Ent) (p : Addr) (o : HO) : Ent := { e0 with hold := upd e0.hold p o }
/-- what is new is held -/
theorem J.hold {p : Addr} {o : HO} (j : J K e0 F ι sl h σ H) (hp : H p = none) : J K (e0.keep p o) F ι sl h σ (upd H p o) := by
  have j2 := j.loose (o := o) hp
  exact ⟨j2.hr, j2.xt, j2.len, j2.at_, j2.ap, fun a u e => by
    by_cases ha : a = p
    · subst ha
      have e : upd e0.hold a o a = some u := e
      rw [upd_same] at e
      cases e
      exact ⟨upd_same, (j.hr.notin hp).1, (j.hr.notin hp).2, (j.none0 hp).2.2⟩
    · have e : upd e0.hold p o a = some u := e
      rw [upd_ne ha] at e
      exact j2.hd a u e⟩
/-- .. and changes -/
theorem J.reHold {p : Addr} {o o' : HO} (n0 : e0.H p = none) (j : J K (e0.keep p o) F ι sl h σ H) : J K (e0.keep p o') F ι sl h σ (upd H p o') := by
  obtain ⟨e1, e2, e3, e4⟩ := j.hd p o upd_same
  have fne : ∀ a u, F a = some u → a ≠ p := fun a u e z => by rw [z, e2] at e; cases e
  refine ⟨⟨fun a u e => by rw [upd_ne (fne a u e)]; exact j.hr.sub a u e, j.hr.len, j.hr.nd, fun m a u q1 q2 => ?_⟩, ⟨j.xt.le, fun a u q1 q2 q3 => ?_, j.xt.n, j.xt.m, fun a q => ?_⟩, j.len, fun i s e => ?_, j.ap, fun a u e => ?_⟩
  · obtain ⟨fn, q⟩ := j.hr.ob m a u q1 q2
    have hn : a ≠ p := fun z => e3 (z ▸ List.mem_of_getElem? q1)
    rw [upd_ne hn]
    exact ⟨fn, q⟩
  · have hn : a ≠ p := fun z => by
      have q1 : e0.H a = some u := q1
      rw [z, n0] at q1; cases q1
    rw [upd_ne hn]
    exact j.xt.h a u q1 q2 q3
  · by_cases hn : a = p
    · rw [hn, upd_same]; simp
    · rw [upd_ne hn]; exact j.xt.d a q
  · have q := j.at_ i s e
    cases s with
    | non => trivial
    | val w => exact q
    | own ws =>
      obtain ⟨p', us, q1, q2, rv, fn, ni, n0'⟩ := q
      have hn : p' ≠ p := fun z => e4 i ws e (z ▸ q1)
      exact ⟨p', us, q1, by rw [upd_ne hn]; exact q2, rv, fn, ni, n0'⟩
  · by_cases ha : a = p
    · subst ha
      have e : upd e0.hold a o' a = some u := e
      rw [upd_same] at e
      cases e
      exact ⟨upd_same, e2, e3, e4⟩
    · have e : upd e0.hold p o' a = some u := e
      rw [upd_ne ha] at e ⊢
      refine j.hd a u (show upd e0.hold p o a = some u from ?_)
      rw [upd_ne ha]; exact e
/-- .. and is forgotten -/
theorem J.unhold2 {p : Addr} {o : HO} (nh : e0.hold p = none) (j : J K (e0.keep p o) F ι sl h σ H) : J K e0 F ι sl h σ H := ⟨j.hr, j.xt, j.len, j.at_, j.ap, fun a u e => j.hd a u (show upd e0.hold p _ a = some u from by
  rw [upd_ne (fun z => by rw [z, nh] at e; cases e)]
  exact e)⟩
/-- .. and is given a number -/
theorem J.adopt {p : Addr} {o o' : HO} {b : Ob} (n0 : e0.H p = none) (nh : e0.hold p = none) (j : J K (e0.keep p o) F ι sl h σ H) (r : ObR K F ι b (some o')) : J K e0 F (ι ++ [p]) sl (h ++ [b]) σ (upd H p o') := by
  obtain ⟨e1, e2, e3, e4⟩ := j.hd p o upd_same
  have le : Le F ι F (ι ++ [p]) := ⟨fun _ _ e => e, [p], rfl⟩
  have fne : ∀ a u, F a = some u → a ≠ p := fun a u e z => by rw [z, e2] at e; cases e
  have jx : Xt e0.F e0.ι e0.H F ι H := j.xt
  refine ⟨⟨fun a u e => by rw [upd_ne (fne a u e)]; exact j.hr.sub a u e, by rw [List.length_append, List.length_append, j.hr.len]; rfl, ?_, fun n a b' q1 q2 => ?_⟩, ⟨jx.le.trans le, fun a u q1 q2 q3 => ?_, jx.n, fun a q => ?_, fun a q => ?_⟩, j.len, fun i s e => ?_, j.ap, fun a u e => ?_⟩
  · refine List.nodup_append.mpr ⟨j.hr.nd, by simp, fun a ha b hb => ?_⟩
    have z : b = p := by simpa using hb
    rintro rfl
    exact e3 (z ▸ ha)
  · by_cases hn : n < ι.length
    · rw [List.getElem?_append_left hn] at q1
      rw [List.getElem?_append_left (by rw [← j.hr.len]; exact hn)] at q2
      obtain ⟨fn, q⟩ := j.hr.ob n a b' q1 q2
      have ha : a ≠ p := fun z => e3 (z ▸ List.mem_of_getElem? q1)
      rw [upd_ne ha]
      exact ⟨fn, q.mono le⟩
    · have hl := j.hr.len
      rw [List.getElem?_append_right (by omega)] at q1 q2
      have z1 : n - ι.length = 0 := by
        have := (List.getElem?_eq_some_iff.mp q1).1
        simp only [List.length_singleton] at this
        omega
      have z2 : n - h.length = 0 := by omega
      rw [z1] at q1
      rw [z2] at q2
      cases q1
      cases q2
      rw [upd_same]
      exact ⟨e2, r.mono le⟩
  · have hn : a ≠ p := fun z => by rw [z, n0] at q1; cases q1
    rw [upd_ne hn]
    exact jx.h a u q1 q2 q3
  · rcases List.mem_append.mp q with z | z
    · exact jx.m a z
    · have z : a = p := by simpa using z
      rw [z]; exact .inr n0
  · by_cases hn : a = p
    · rw [hn, upd_same]; simp
    · rw [upd_ne hn]; exact jx.d a q
  · have q := j.at_ i s e
    cases s with
    | non => trivial
    | val w =>
      obtain ⟨v, q1, rv⟩ := q
      exact ⟨v, q1, rv.mono le⟩
    | own ws =>
      obtain ⟨p', us, q1, q2, rv, fn, ni, n0'⟩ := q
      have hn : p' ≠ p := fun z => e4 i ws e (z ▸ q1)
      refine ⟨p', us, q1, by rw [upd_ne hn]; exact q2, rv.mono le, fn, fun hm => ?_, n0'⟩
      rcases List.mem_append.mp hm with z | z
      · exact ni z
      · exact hn (by simpa using z)
  · have hn : a ≠ p := fun z => by rw [z, nh] at e; cases e
    obtain ⟨q1, q2, q3, q4⟩ := j.hd a u (show upd e0.hold p _ a = some u by rw [upd_ne hn]; exact e)
    refine ⟨by rw [upd_ne hn]; exact q1, q2, fun hm => ?_, q4⟩
    rcases List.mem_append.mp hm with z | z
    · exact q3 z
    · exact hn (by simpa using z)
/-- .. and is let go -/
theorem J.unhold {p : Addr} {vs : List V} (n0 : e0.H p = none) (nh : e0.hold p = none) (j : J K (e0.keep p (.lst vs)) F ι sl h σ H) : J K e0 F ι sl h σ H ∧ Nw e0 F ι sl σ H p vs := by
  obtain ⟨e1, e2, e3, e4⟩ := j.hd p _ upd_same
  refine ⟨⟨j.hr, j.xt, j.len, j.at_, j.ap, fun a u e => j.hd a u (show upd e0.hold p _ a = some u from ?_)⟩, ⟨e1, e2, e3, n0, nh, e4⟩⟩
  rw [upd_ne (fun z => by rw [z, nh] at e; cases e)]
  exact e
end
end Ev

namespace Ev
open PySem PySem.Spec PyProof.Rows L2

/-! ## what a def promises, how it is called -/
def spW (K : PySem.W.Frag) (mg : Str → Option Value) (n : Nat) (T : List W → Obs → R W) : Sp := fun vs H Q Z => ∃ F ι h ws, vs.length = n ∧ HR K F ι h H ∧ RVs K F ι ws vs ∧
  match T ws h with
  | .ok w h' => ∀ F' ι' H' v, Xt F ι H F' ι' H' → HR K F' ι' h' H' → RV K F' ι' w v → Q v H'
  | .exc x h' => ∀ F' ι' H' cls d, Xt F ι H F' ι' H' → HR K F' ι' h' H' → RX K mg F' ι' x cls d → Z cls d H'
  | .bad => False
/-- a def of the text keeps its promise, wherever nothing guards -/
structure Fk (P : Program) (w : World) (K : PySem.W.Frag) (mg : Str → Option Value) (base : Heap) (k : Nat) (f : Addr) (fd : FuncData) (ps : List Str) (sp : Sp) : Prop where
  run : ∀ (A : Around) (up : List Env) (s : Shared) (H : Hp) (a : Args) (us : List Value) (vs : List V) (Q : VK) (Z : XK), Room k A → A.guards = some [] → Env0 P w K mg base A up s H →
    BindsTo s fd a (ps.zip us) → Vals vs us → sp vs H Q Z → codeAny (model P w) A (.call (.ref f) a) (CR (CX P w) up P w H s Q Z) s
section
variable {X : Cx} {Z : WX} {k : Nat} {g : Addr} {fd : FuncData} {ps : List Str} {T : List W → Obs → R W}
theorem run_w (tk : Takes X Z) (hr : Room k X.A) (hg : X.A.guards = some []) (fk : Fk X.prog X.w X.K X.mg X.base k g fd ps (spW X.K X.mg ps.length T))
    {pins : List (Addr × Obj)} {s : Shared} {σ : VS} {H : Hp} {us us' : List Value} {kw : List (Str × Value)} {vs : List V} {Q : VK} {e0 : Ent} {F : Hp} {ι : List Addr} {sl : Sls} {h : Obs} {ws : List W}
    (I : Inv X pins σ H s) (hb : BindsTo s fd ⟨us, kw⟩ (ps.zip us')) (r : Vals vs us') (hl : vs.length = ps.length) (j : J X.K e0 F ι sl h σ H) (rv : RVs X.K F ι ws vs)
    (p : Po (bx X Z e0) F ι sl σ (fun F ι => RV X.K F ι) (T ws h) Q) : wpAny (model X.prog X.w) X.A (call (.ref g) us kw) (EP X pins σ Q) X.xe s := by
  refine wpAny_call (codeAny_mono (fk.run X.A X.stack s H ⟨us, kw⟩ us' vs Q (WE Z σ) hr hg I.env0 hb r ⟨F, ι, h, ws, hl, j.hr, rv, ?_⟩) fun r s' hq => ?_)
  · cases q : T ws h with
    | ok w h' =>
      rw [q] at p
      exact fun F' ι' H' v x hr' rv' => p F' ι' H' v x.le (j.step x hr') rv'
    | exc x h' =>
      rw [q] at p
      exact fun F' ι' H' cls d x hr' rx => p F' ι' H' cls d x.le (j.step x hr') rx
    | bad => rw [q] at p; exact p
  · cases r with
    | error e => exact L2.passAt tk σ pins H s e s' I hq
    | ok fl =>
      cases fl with
      | ret u => exact I.after hq
      | next => exact False.elim hq
      | brk => exact False.elim hq
      | cont => exact False.elim hq
end

/-- keywords are bound as they are put -/
def KwOk (kws : List (Nat × Nat × List Str)) (i : Nat) (fd : FuncData) (ps : List Str) : Prop := ∀ n ks, (i, n, ks) ∈ kws → ∀ us zs : List Value, us.length = n → zs.length = ks.length → ∃ as, kwPut ps us (ks.zip zs) = some as ∧ ∀ s : Shared, BindsTo s fd ⟨us, ks.zip zs⟩ (ps.zip as)
/-- .. whatever the values are -/
theorem kwAll_rel {α β : Type} {rel : α → β → Prop} {ks : List (Str × α)} {ls : List (Str × β)} (r : Paired (fun p q => p.1 = q.1 ∧ rel p.2 q.2) ks ls) : ∀ {xs : List Str} {as : List α}, kwAll ks xs = some as → ∃ bs, kwAll ls xs = some bs ∧ Paired rel as bs
  | [], as, e => by cases e; exact ⟨[], rfl, .nil⟩
  | x :: xs, as, e => by
    have look : ∀ {ks : List (Str × α)} {ls : List (Str × β)} {a : α}, Paired (fun p q => p.1 = q.1 ∧ rel p.2 q.2) ks ls → ks.lookup x = some a → ∃ b, ls.lookup x = some b ∧ rel a b := fun {ks ls a} r => by
      induction r with
      | nil => intro z; cases z
      | @cons p q ks ls h t ih =>
        intro z
        obtain ⟨p1, p2⟩ := p
        obtain ⟨q1, q2⟩ := q
        obtain ⟨h1, h2⟩ := h
        cases h1
        rw [List.lookup_cons] at z ⊢
        cases hx : x == p1 with
        | true => rw [hx] at z; cases z; exact ⟨q2, rfl, h2⟩
        | false => rw [hx] at z; exact ih z
    unfold kwAll at e ⊢
    cases q1 : ks.lookup x with
    | none => rw [q1] at e; cases e
    | some a =>
      cases q2 : kwAll ks xs with
      | none => rw [q1, q2] at e; cases e
      | some as' =>
        rw [q1, q2] at e
        cases e
        obtain ⟨b, e1, r1⟩ := look r q1
        obtain ⟨bs, e2, r2⟩ := kwAll_rel r q2
        rw [e1, e2]
        exact ⟨_, rfl, .cons r1 r2⟩
theorem kwPut_rel {α β : Type} {rel : α → β → Prop} {ps : List Str} {us : List α} {vs : List β} {ks : List (Str × α)} {ls : List (Str × β)} {as : List α} (r : Paired rel us vs) (rk : Paired (fun p q => p.1 = q.1 ∧ rel p.2 q.2) ks ls) (e : kwPut ps us ks = some as) :
    ∃ bs, kwPut ps vs ls = some bs ∧ Paired rel as bs := by
  have app : ∀ {a : List α} {b : List β} {x : List α} {y : List β}, Paired rel a b → Paired rel x y → Paired rel (a ++ x) (b ++ y) := fun {a b x y} h1 h2 => by
    induction h1 with
    | nil => exact h2
    | cons h t ih => exact .cons h ih
  unfold kwPut at e ⊢
  rw [← r.length, ← rk.length]
  split at e
  · cases q : kwAll ks (ps.drop us.length) with
    | none => rw [q] at e; cases e
    | some x =>
      rw [q] at e
      cases e
      obtain ⟨bs, e1, r1⟩ := kwAll_rel rk q
      rw [e1]
      exact ⟨_, rfl, app r r1⟩
  · cases e
theorem RVs.pair {K : PySem.W.Frag} {F : Hp} {ι : List Addr} : ∀ {ws : List W} {vs : List V}, RVs K F ι ws vs → Paired (RV K F ι) ws vs
  | _, _, .nil => .nil
  | _, _, .cons r t => .cons r (RVs.pair t)
theorem RVs.unpair {K : PySem.W.Frag} {F : Hp} {ι : List Addr} : ∀ {ws : List W} {vs : List V}, Paired (RV K F ι) ws vs → RVs K F ι ws vs
  | _, _, .nil => .nil
  | _, _, .cons r t => .cons r (RVs.unpair t)
theorem zip_pair {α β : Type} {rel : α → β → Prop} : ∀ {ks : List (Str × α)} {bs : List β}, Paired rel (ks.map Prod.snd) bs → Paired (fun p q => p.1 = q.1 ∧ rel p.2 q.2) ks ((ks.map Prod.fst).zip bs)
  | [], _, r => by cases r; exact .nil
  | (x, a) :: ks, _, r => by
    cases r with
    | cons h t => exact .cons ⟨rfl, h⟩ (zip_pair t)
theorem zip_two {α β : Type} {rel : α → β → Prop} : ∀ {ks : List Str} {as : List α} {bs : List β}, Paired rel as bs → Paired (fun p q => p.1 = q.1 ∧ rel p.2 q.2) (ks.zip as) (ks.zip bs)
  | [], _, _, _ => .nil
  | _ :: _, _, _, .nil => .nil
  | k :: ks, _, _, .cons h t => .cons ⟨rfl, h⟩ (zip_two t)

/-- a dict of the module, text keys -/
def DicOk (K : PySem.W.Frag) (w : World) (mg : Str → Option Value) (x : Str) (kvs : List (Str × W)) : Prop := ∃ d es n, mg x = some (.ref d) ∧ KDict K w d es n ∧
  ∀ s, (∀ a, dicGet kvs s = some a → ∃ u v, PySem.W.nsIn K d s = some (some u) ∧ RelV v u ∧ ∀ F ι, RV K F ι a v) ∧ (dicGet kvs s = none → PySem.W.nsIn K d s = some none)

/-! ## a context that the core's readings hold in -/
structure Cn (X : Cx) (Z : WX) (D : Dn) (c : Oc) : Prop where
  calm : X.calm = true
  tk : Takes X Z
  N : X.N = c.N
  nd : X.N.Nodup
  gd : X.A.guards = some []
  un : X.A.units + 70 < cLine
  bt : ∀ b : Bt, X.mg b.nm = none
  ty : ∀ t : Ty, X.mg t.nm = none
  isi : X.mg "isinstance" = none
  rng : X.mg "range" = none
  enum : X.mg "enumerate" = none
  zip : X.mg "zip" = none
  fr : ∀ x ∈ frees, X.mg x = none
  cst : ∀ x w, cstV (D.cst x) = some w → ∃ v u, X.mg x = some u ∧ RelV v u ∧ ∀ F ι, RV X.K F ι w v
  dic : ∀ x kvs, D.cst x = some (.dic kvs) → DicOk X.K X.w X.mg x kvs
  fn : ∀ i x, c.fs i = some x → ∃ g fd ps k, X.mg x = some (.ref g) ∧ PySem.W.keepIn X.K (.ref g) = true ∧ Binds X.K fd ps [] ∧ D.par i = ps ∧ Room k X.A ∧ Fk X.prog X.w X.K X.mg X.base k g fd ps (spW X.K X.mg ps.length (D.call i)) ∧ KwOk c.kws i fd ps
  /-- what a def wants of its arguments' number -/
  ar : ∀ i ws h, D.call i ws h = .bad ∨ ws.length = (D.par i).length
/-- no exception may leave -/
abbrev nox : WX := fun _ _ _ _ => False
theorem Cn.blk {X : Cx} {Z : WX} {D : Dn} {c : Oc} (n : Cn X Z D c) (s : Shared) (H : Hp) (sc : Scope) (env : Env) (fp : List Addr) : Cn (X.blk s H sc env fp) nox D c where
  calm := n.calm
  tk := fun u s' ⟨_, _, _, _, _, _, _, _, _, _, _, _, _, _, _, _, w⟩ => w
  N := n.N
  nd := n.nd
  gd := n.gd
  un := n.un
  bt := n.bt
  ty := n.ty
  isi := n.isi
  rng := n.rng
  enum := n.enum
  zip := n.zip
  fr := n.fr
  cst := n.cst
  dic := n.dic
  fn := n.fn
  ar := n.ar

/-! ## truth -/
theorem tru_of {K : PySem.W.Frag} {F : Hp} {ι : List Addr} {H : Hp} {w : W} {v : V} {k : Bool} (s : ∀ a o, F a = some o → H a = some o) (r : RN K F ι H w v) (e : truW w = some k) : TruV K v H k := by
  have lem : ∀ {xs : List V} {ws : List W}, RVs K F ι ws xs → (!ws.isEmpty) = !xs.isEmpty := fun r => by cases r <;> rfl
  rcases r with r | ⟨ws, p, vs, rfl, rfl, e2, rv⟩ | ⟨ws, p, vs, rfl, rfl, e2, rv⟩
  rotate_left 2
  · cases e
  · cases r with
    | non => cases e; rfl
    | bl b => cases e; rfl
    | int i => cases e; rfl
    | str x =>
      have e : (match lineN x.length with | true => some ((x.length : Int) != 0) | false => none) = some k := e
      split at e
      · rename_i hl
        cases e
        exact ⟨lineN_ok hl, rfl⟩
      · cases e
    | ty n => cases e
    | tup q rv =>
      cases e
      exact .inr (.inl ⟨_, sqT_mono s q, lem rv⟩)
    | lst q rv =>
      cases e
      exact .inl ⟨_, .inl (.inl (s _ _ q)), lem rv⟩
    | emp q => cases e
    | scr q => cases e
    | ref q => cases e
  · cases e
    exact .inl ⟨_, .inl (.inl e2), lem rv⟩

/-! ## what is walked -/
/-- the iterator gives the values xs, wherever the heap goes -/
def Wk (K : PySem.W.Frag) (F : Hp) (ι : List Addr) (t : L2.It) (xs : List W) : Prop :=
  ∀ (i : Nat) (e1 : Ent) (F1 : Hp) (ι1 : List Addr) (sl : Sls) (h : Obs) (σ : VS) (H : Hp), Le F ι F1 ι1 → J K e1 F1 ι1 sl h σ H →
    (xs.length ≤ i → t.stop i H) ∧ ∀ w, xs[i]? = some w → t.go i H ∧ ∀ x H', t.yld i H x H' → ∃ F2 ι2, Le F1 ι1 F2 ι2 ∧ J K e1 F2 ι2 sl h σ H' ∧ RV K F2 ι2 w x
def tWk (X : Cx) (Z : WX) (m : Sls → Obs → R (List W)) : TI := fun σ H Q => ∃ e0 F ι sl h, J X.K e0 F ι sl h σ H ∧ Po (bx X Z e0) F ι sl σ (fun F ι xs t => Wk X.K F ι t xs) (m sl h) Q
section
variable {K : PySem.W.Frag} {F : Hp} {ι : List Addr} {ws : List W} {vs : List V} {a : Addr}
theorem wk_list (q : SqL K F a vs) (r : RVs K F ι ws vs) : Wk K F ι (Itl K a) ws := fun i e1 F1 ι1 sl h σ H l j => by
  have q1 : SqL K H a vs := sqL_mono j.hr.sub (sqL_mono l.f q)
  refine ⟨fun z => ⟨vs, q1, by rw [← r.length]; exact z⟩, fun w e => ?_⟩
  obtain ⟨v, e1, rv⟩ := r.get e
  refine ⟨⟨vs, v, q1, e1⟩, fun x H' y => ?_⟩
  obtain ⟨rfl, y⟩ := y
  have z := y vs q1
  rw [e1] at z
  cases z
  exact ⟨F1, ι1, .refl, j, rv.mono l⟩
theorem wk_tup (q : SqT K F a vs) (r : RVs K F ι ws vs) : Wk K F ι (Itt K a) ws := fun i e1 F1 ι1 sl h σ H l j => by
  have q1 : SqT K H a vs := sqT_mono j.hr.sub (sqT_mono l.f q)
  refine ⟨fun z => ⟨vs, q1, by rw [← r.length]; exact z⟩, fun w e => ?_⟩
  obtain ⟨v, e1, rv⟩ := r.get e
  refine ⟨⟨vs, v, q1, e1⟩, fun x H' y => ?_⟩
  obtain ⟨rfl, y⟩ := y
  have z := y vs q1
  rw [e1] at z
  cases z
  exact ⟨F1, ι1, .refl, j, rv.mono l⟩
theorem rngW_len (lo : Int) (n : Nat) : (rngW lo n).length = n := by
  induction n generalizing lo with
  | zero => rfl
  | succ n ih =>
    show (rngW (lo + 1) n).length + 1 = n + 1
    rw [ih]
theorem rngW_get (lo : Int) (n i : Nat) (h : i < n) : (rngW lo n)[i]? = some (.int (lo + i)) := by
  induction n generalizing lo i with
  | zero => omega
  | succ n ih =>
    cases i with
    | zero => simp [rngW]
    | succ i =>
      show (rngW (lo + 1) n)[i]? = _
      rw [ih (lo + 1) i (by omega)]
      congr 2
      omega
theorem wk_rng (lo : Int) (n : Nat) : Wk K F ι (Itr lo n) (rngW lo n) := fun i e1 F1 ι1 sl h σ H l j => by
  refine ⟨fun z => by rw [rngW_len] at z; exact z, fun w e => ?_⟩
  have hi : i < n := by
    have z := (List.getElem?_eq_some_iff.mp e).1
    rw [rngW_len] at z; exact z
  refine ⟨hi, fun x H' y => ?_⟩
  obtain ⟨rfl, rfl⟩ := y
  rw [rngW_get lo n i hi] at e
  cases e
  exact ⟨F1, ι1, .refl, j, .int _⟩
theorem enumW_len (k : Nat) (ws : List W) : (enumW k ws).length = ws.length := by
  induction ws generalizing k with
  | nil => rfl
  | cons w ws ih =>
    show (enumW (k + 1) ws).length + 1 = ws.length + 1
    rw [ih]
theorem enumW_get (k i : Nat) (ws : List W) (w : W) (e : (enumW k ws)[i]? = some w) : ∃ u, ws[i]? = some u ∧ w = .tup [.int ((k + i : Nat) : Int), u] := by
  induction ws generalizing k i with
  | nil => cases e
  | cons u ws ih =>
    cases i with
    | zero =>
      cases e
      exact ⟨u, rfl, rfl⟩
    | succ i =>
      obtain ⟨u', e1, e2⟩ := ih (k + 1) i e
      refine ⟨u', e1, e2.trans ?_⟩
      have z : k + 1 + i = k + (i + 1) := by omega
      rw [z]
theorem wk_enum (q : SqL K F a vs) (r : RVs K F ι ws vs) : Wk K F ι (Ite K a) (enumW 0 ws) := fun i e1 F1 ι1 sl h σ H l j => by
  have q1 : SqL K H a vs := sqL_mono j.hr.sub (sqL_mono l.f q)
  refine ⟨fun z => ⟨vs, q1, by rw [enumW_len] at z; rw [← r.length]; exact z⟩, fun w e => ?_⟩
  obtain ⟨u, e1, rfl⟩ := enumW_get 0 i ws w e
  obtain ⟨v, e2, rv⟩ := r.get e1
  refine ⟨⟨vs, v, q1, e2⟩, fun x H' y => ?_⟩
  · obtain ⟨T, y0, rfl, hT, rfl, y⟩ := y
    have z := y vs q1
    rw [e2] at z
    cases z
    have rr : RVs K F1 ι1 [.int ((0 + i : Nat) : Int), u] [.int ((i : Nat) : Int), v] := .cons (by rw [Nat.zero_add]; exact .int _) (.cons (rv.mono l) .nil)
    exact ⟨_, ι1, j.newLe (o := HO.tup [.int ((i : Nat) : Int), v]) hT, j.new hT, .tup (.inl (.inl upd_same)) (rr.mono (j.newLe hT))⟩
theorem zipW_some : ∀ (i : Nat) (ws us : List W) (w : W), (zipW ws us)[i]? = some w → ∃ x y, ws[i]? = some x ∧ us[i]? = some y ∧ w = .tup [x, y]
  | 0, a :: as, b :: bs, w, e => by cases e; exact ⟨a, b, rfl, rfl, rfl⟩
  | i + 1, a :: as, b :: bs, w, e => zipW_some i as bs w e
  | i, [], us, w, e => by
    have e : ([] : List W)[i]? = some w := by cases us <;> exact e
    simp at e
  | i, a :: as, [], w, e => by
    have e : ([] : List W)[i]? = some w := e
    simp at e
theorem zipW_len : ∀ (i : Nat) (ws us : List W), (zipW ws us).length ≤ i → ws.length ≤ i ∨ us.length ≤ i
  | i, [], us, _ => .inl (Nat.zero_le _)
  | i, a :: as, [], _ => .inr (Nat.zero_le _)
  | 0, a :: as, b :: bs, h => absurd (show (zipW as bs).length + 1 ≤ 0 from h) (by omega)
  | i + 1, a :: as, b :: bs, h => by
    have h : (zipW as bs).length + 1 ≤ i + 1 := h
    rcases zipW_len i as bs (by omega) with z | z
    · exact .inl (Nat.succ_le_succ z)
    · exact .inr (Nat.succ_le_succ z)
theorem wk_zip {us : List W} {xs : List V} {b : Addr} (q : SqL K F a vs) (r : RVs K F ι ws vs) (q' : SqL K F b xs) (r' : RVs K F ι us xs) : Wk K F ι (Itz K a b) (zipW ws us) := fun i e1 F1 ι1 sl h σ H l j => by
  have q1 : SqL K H a vs := sqL_mono j.hr.sub (sqL_mono l.f q)
  have q2 : SqL K H b xs := sqL_mono j.hr.sub (sqL_mono l.f q')
  refine ⟨fun z => ⟨vs, xs, q1, q2, by rw [← r.length, ← r'.length]; exact zipW_len i ws us z⟩, fun w e => ?_⟩
  obtain ⟨x, y, e1, e2, rfl⟩ := zipW_some i ws us w e
  obtain ⟨v, e3, rv⟩ := r.get e1
  obtain ⟨v2, e4, rv2⟩ := r'.get e2
  refine ⟨⟨vs, xs, v, v2, q1, q2, e3, e4⟩, fun x' H' y' => ?_⟩
  obtain ⟨T, y1, y2, rfl, hT, rfl, z1, z2⟩ := y'
  have z := z1 vs q1
  rw [e3] at z
  cases z
  have z := z2 xs q2
  rw [e4] at z
  cases z
  have rr : RVs K F1 ι1 [x, y] [v, v2] := .cons (rv.mono l) (.cons (rv2.mono l) .nil)
  exact ⟨_, ι1, j.newLe (o := HO.tup [v, v2]) hT, j.new hT, .tup (.inl (.inl upd_same)) (rr.mono (j.newLe hT))⟩
end
/-- a list or a tuple, as it comes -/
theorem pi_seq {X : Cx} {tg l : Expr} {tl : TE} (hl : PE X l tl) : PI X tg l (fun σ H Q => tl σ H fun x H1 => ∃ a, x = .ref a ∧ (((∃ xs, SqL X.K H1 a xs) ∧ Q (Itl X.K a) H1) ∨ ((∃ xs, SqT X.K H1 a xs) ∧ Q (Itt X.K a) H1))) := by
  refine ⟨fun pins s σ H Q I hq => thn (hl.run pins s σ H _ I hq) fun u s1 ⟨x, H1, I1, rx, a, e, q⟩ => ?_⟩
  subst e
  cases rx
  have new : ∀ b ∈ [s1.heap.objs.size], FpOk X pins H1 b := fun b hb => by
    have e : b = s1.heap.objs.size := by simpa using hb
    rw [e]
    exact I1.fpOk (Nat.le_refl _) (I1.hok.fresh (Nat.le_refl _))
  have kept : ∀ ob : Obj, Inv X pins σ H1 { s1 with heap := s1.heap.push ob } := fun ob => I1.kept (t' := s1.toks) fun b o e => Heap.get?_push_of_some _ e
  rcases q with ⟨⟨xs, hq⟩, q⟩ | ⟨⟨xs, hq⟩, q⟩
  · obtain ⟨its, _, pl, _⟩ := I1.list hq
    exact wpAny_pyIter_list pl.isList ⟨s1.heap.objs.size, _, _, _, H1, rfl, kept _, turn_list a _, ⟨_, Heap.get?_push_size _ rfl, rfl, rfl⟩, new, q⟩
  · obtain ⟨its, _, pl, _⟩ := I1.tuple hq
    exact wpAny_pyIter_tuple (show s1.heap.IsTuple a its.toArray from pl) ⟨s1.heap.objs.size, _, _, _, H1, rfl, kept _, turn_tuple a _, ⟨_, Heap.get?_push_size _ rfl, rfl, rfl⟩, new, q⟩
end Ev

namespace Ev
open PySem PySem.Spec PyProof.Rows L2

/-! ## new lists -/
/-- an answer that is a new list -/
def PoF (b : Bx) (F : Hp) (ι : List Addr) (sl : Sls) (σ : VS) (r : R (List W)) (Q : V → Hp → Prop) : Prop := match r with
  | .ok ws h' => ∀ F' ι' H' p us, Le F ι F' ι' → b.J F' ι' sl h' σ H' → Nw b.e0 F' ι' sl σ H' p us → RVs b.K F' ι' ws us → Q (.ref p) H'
  | .exc x h' => ∀ F' ι' H' cls d, Le F ι F' ι' → b.J F' ι' sl h' σ H' → RX b.K b.mg F' ι' x cls d → b.W cls d σ H'
  | .bad => False
def tF (X : Cx) (Z : WX) (m : Sls → Obs → R (List W)) : TE := fun σ H Q => ∃ e0 F ι sl h, J X.K e0 F ι sl h σ H ∧ PoF (bx X Z e0) F ι sl σ (m sl h) Q
section
variable {α β γ δ : Type} {b : Bx} {F F' F1 : Hp} {ι ι' ι1 : List Addr} {sl : Sls} {σ : VS}
theorem PoF.le {r : R (List W)} {Q : V → Hp → Prop} (p : PoF b F ι sl σ r Q) (l : Le F ι F1 ι1) : PoF b F1 ι1 sl σ r Q := by
  cases r with
  | ok a h => exact fun F' ι' H' v us l2 j q => p F' ι' H' v us (l.trans l2) j q
  | exc x h => exact fun F' ι' H' cls d l2 j q => p F' ι' H' cls d (l.trans l2) j q
  | bad => exact p
theorem PoF.bind {rel : Hp → List Addr → α → β → Prop} {r : R α} {f : α → Obs → R (List W)} {Q : V → Hp → Prop} {Q1 : β → Hp → Prop} (p : PoF b F ι sl σ (r.bind f) Q)
    (k : ∀ a h1 F1 ι1 H1 v, Le F ι F1 ι1 → b.J F1 ι1 sl h1 σ H1 → rel F1 ι1 a v → PoF b F1 ι1 sl σ (f a h1) Q → Q1 v H1) : Po b F ι sl σ rel r Q1 := by
  cases r with
  | ok a h => exact fun F1 ι1 H1 v l j q => k a h F1 ι1 H1 v l j q (PoF.le (show PoF b F ι sl σ (f a h) Q from p) l)
  | exc x h => exact p
  | bad => exact p
/-- .. given away -/
theorem PoF.of {k : Bool} {r : R (List W)} {Q : V → Hp → Prop} (p : Po b F ι sl σ (RKd b.K sl σ k) (r.bind fun ws h => .ok (.lst ws) h) Q) : PoF b F ι sl σ r Q := by
  cases r with
  | ok ws h =>
    intro F' ι' H' a us l j n rv
    obtain ⟨j2, l2⟩ := j.frz n
    exact p _ _ H' (.ref a) (l.trans l2) j2 (RKd.of (.lst upd_same (rv.mono l2)))
  | exc x h => exact p
  | bad => exact p
end

/-! ## a comprehension's targets -/
def tPut (X : Cx) (vs : List Nat) (put : W → Sls → Option Sls) : TG := fun v σ H Q => ∃ e0 F ι sl h w s1, J X.K e0 F ι sl h σ H ∧ RV X.K F ι w v ∧ put w sl = some s1 ∧
  ∀ σ1, J X.K e0 F ι s1 h σ1 H → L2.wipe σ1 vs = L2.wipe σ vs → wipeS s1 vs = wipeS sl vs → Q σ1 H
def tPuts (X : Cx) (vs : List Nat) (put : List W → Sls → Option Sls) : TGs := fun us σ H Q => ∃ e0 F ι sl h ws s1, J X.K e0 F ι sl h σ H ∧ RVs X.K F ι ws us ∧ put ws sl = some s1 ∧
  ∀ σ1, J X.K e0 F ι s1 h σ1 H → L2.wipe σ1 vs = L2.wipe σ vs → wipeS s1 vs = wipeS sl vs → Q σ1 H
section
variable {X : Cx} {e : Expr} {es : List Expr}
theorem PG.imp {t t' : TG} (h : PG X e t) (i : ∀ v σ H Q, t' v σ H Q → t v σ H Q) : PG X e t' := ⟨fun pins s σ H v u Q I r q => h.run pins s σ H v u Q I r (i v σ H Q q)⟩
theorem PG.never {t : TG} (n : ∀ v σ H Q, ¬ t v σ H Q) : PG X e t := ⟨fun pins s σ H v u Q I r q => absurd q (n v σ H Q)⟩
theorem PGs.imp {t t' : TGs} (h : PGs X es t) (i : ∀ v σ H Q, t' v σ H Q → t v σ H Q) : PGs X es t' := ⟨fun pins s σ H v u Q I r q => h.run pins s σ H v u Q I r (i v σ H Q q)⟩
theorem PI.imp {tg it : Expr} {t t' : TI} (h : PI X tg it t) (i : ∀ σ H Q, t' σ H Q → t σ H Q) : PI X tg it t' := ⟨fun pins s σ H Q I q => h.run pins s σ H Q I (i σ H Q q)⟩
end
def Tgs.len : Tgs → Nat
  | .nil => 0
  | .cons _ ts => ts.len + 1
theorem assignEach_un {env : Env} : ∀ (t : Tg) (es : List Expr), assignEach (t.un :: es) env = (false, assign t.un env) :: assignEach es env
  | .name .., _ => rfl
  | .tup .., _ => rfl
  | .sub .., _ => rfl
theorem each_len {env : Env} : ∀ (ts : Tgs), (assignEach ts.un env).length = ts.len
  | .nil => rfl
  | .cons t ts => by
    show (assignEach (t.un :: ts.un) env).length = ts.len + 1
    rw [assignEach_un, List.length_cons, each_len ts]
theorem each_star {env : Env} : ∀ (ts : Tgs), (assignEach ts.un env).findIdx? (·.1) = none
  | .nil => rfl
  | .cons t ts => by
    show (assignEach (t.un :: ts.un) env).findIdx? (·.1) = none
    rw [assignEach_un, List.findIdx?_cons, each_star ts]
    rfl
theorem put_len : ∀ {ts : Tgs} {ws : List W} {sl s1 : Sls}, ts.put ws sl = some s1 → ws.length = ts.len
  | .nil, [], _, _, _ => rfl
  | .nil, _ :: _, _, _, h => by cases h
  | .cons t ts, [], _, _, h => by cases h
  | .cons t ts, w :: ws, sl, s1, h => by
    have h : (match t.put w sl with | some s => ts.put ws s | none => none) = some s1 := h
    cases q : t.put w sl with
    | none => rw [q] at h; cases h
    | some s =>
      rw [q] at h
      exact congrArg (· + 1) (put_len h)
mutual
theorem Tg.pput {X : Cx} {c : Oc} (hc : X.calm = true) (hN : X.N = c.N) (nd : X.N.Nodup) {vs : List Nat} : ∀ (t : Tg), t.okC c X.env.scope vs = true → PG X t.un (tPut X vs t.put)
  | .name x i p, ok => by
    obtain ⟨h1, h2⟩ := and_ok (show (decide (c.N[i]? = some x) && (locB X.env.scope x && decide (i ∈ vs))) = true from ok)
    obtain ⟨h2, h3⟩ := and_ok h2
    have hl := locB_ok h2
    have hi : i ∈ vs := of_decide_eq_true h3
    refine PG.imp (pg_name nd (i := i) (by rw [hN]; exact of_decide_eq_true h1) (.inl hl) (.inr hl)) ?_
    rintro v σ H Q ⟨e0, F, ι, sl, h, w, s1, j, r, hp, k⟩
    cases hp
    exact k _ (j.setV r) (wipe_set hi) (wipeS_set hi)
  | .tup ts n p, ok => by
    refine PG.imp (pg_tup hc (Tgs.pput hc hN nd ts ok) (each_len ts) (each_star ts)) ?_
    rintro v σ H Q ⟨e0, F, ι, sl, h, w, s1, j, r, hp, k⟩
    cases w with
    | tup ws =>
      have hp : ts.put ws sl = some s1 := hp
      cases r with
      | tup sq rv => exact ⟨_, _, rfl, sqT_mono j.hr.sub sq, by rw [← rv.length]; exact put_len hp, e0, F, ι, sl, h, ws, s1, j, rv, hp, k⟩
    | _ => cases hp
  | .sub a i p, ok => by cases ok
theorem Tgs.pput {X : Cx} {c : Oc} (hc : X.calm = true) (hN : X.N = c.N) (nd : X.N.Nodup) {vs : List Nat} : ∀ (ts : Tgs), ts.okC c X.env.scope vs = true → PGs X ts.un (tPuts X vs ts.put)
  | .nil, ok => by
    refine PGs.imp pgs_nil ?_
    rintro us σ H Q ⟨e0, F, ι, sl, h, ws, s1, j, r, hp, k⟩
    cases ws with
    | nil =>
      cases r
      cases hp
      exact ⟨rfl, k _ j rfl rfl⟩
    | cons _ _ => cases hp
  | .cons t ts, ok => by
    obtain ⟨o1, o2⟩ := and_ok (show (t.okC c X.env.scope vs && ts.okC c X.env.scope vs) = true from ok)
    refine PGs.imp (pgs_cons (Tg.pput hc hN nd t o1) (Tgs.pput hc hN nd ts o2) (by rw [assignEach_un]; rfl)) ?_
    rintro us σ H Q ⟨e0, F, ι, sl, h, ws, s1, j, r, hp, k⟩
    cases ws with
    | nil => cases hp
    | cons w ws =>
      have hp : (match t.put w sl with | some s => ts.put ws s | none => none) = some s1 := hp
      cases q : t.put w sl with
      | none => rw [q] at hp; cases hp
      | some s =>
        rw [q] at hp
        cases r with
        | cons r1 rr =>
          refine ⟨_, _, rfl, e0, F, ι, sl, h, w, s, j, r1, q, fun σ1 j1 e1 e2 => ⟨e0, F, ι, s, h, ws, s1, j1, rr, hp, fun σ2 j2 e3 e4 => ?_⟩⟩
          exact k σ2 j2 (e3.trans e1) (e4.trans e2)
end

/-! ## a comprehension -/
theorem lc_rd {X : Cx} {Z : WX} {vs : List Nat} {mi : Sls → Obs → R (List W)} {put : W → Sls → Option Sls} {ct : Sls → Obs → R Bool} {me : Sls → Obs → R W} {σ : VS} {H : Hp} {Q : VK}
    (q : tF X Z (fun sl h => match noOwn sl vs with | true => (mi sl h).bind fun xs h => lcGo (fun x => put x (wipeS sl vs)) ct me xs [] h | false => .bad) σ H Q) :
    tLc (tWk X Z mi) (tPut X vs put) (tT X nox ct) (tE X nox false me) vs σ H Q := by
  obtain ⟨e0, F, ι, sl, h, j, p⟩ := q
  cases hno : noOwn sl vs with
  | false => simp only [hno] at p; exact False.elim p
  | true =>
    simp only [hno] at p
    refine ⟨e0, F, ι, sl, h, j, p.bind fun xs h1 F1 ι1 H1 t l1 j1 wk p1 => ?_⟩
    intro Dd hD
    obtain ⟨n0, nh, ns⟩ := j1.none0 hD
    let Go : Nat → Nat → Hp → Prop := fun i m H => m = xs.length - i ∧ i ≤ xs.length ∧ ∃ F2 ι2 h2 acc us, Le F1 ι1 F2 ι2 ∧ J X.K (e0.keep Dd (.lst us)) F2 ι2 (wipeS sl vs) h2 (L2.wipe σ vs) H ∧ RVs X.K F2 ι2 acc us ∧
      PoF (bx X Z e0) F2 ι2 sl σ (lcGo (fun x => put x (wipeS sl vs)) ct me (xs.drop i) acc h2) Q
    refine ⟨Go, ⟨xs.length, by simp, Nat.zero_le _, F1, ι1, h1, [], [], .refl, (j1.hold hD).wipe vs, .nil, p1⟩, ?_⟩
    rintro i m H2 ⟨rfl, hi, F2, ι2, h2, acc, us, l2, j2, ra, p2⟩
    have w2 := wk i _ F2 ι2 _ h2 _ H2 l2 j2
    by_cases hlt : i < xs.length
    · right
      have ei : xs[i]? = some xs[i] := List.getElem?_eq_getElem hlt
      obtain ⟨go, yl⟩ := w2.2 _ ei
      refine ⟨go, fun H => Go (i + 1) (xs.length - (i + 1)) H, fun H' q => ⟨_, by omega, q⟩, fun x H' y => ?_⟩
      obtain ⟨F3, ι3, l3, j3, rx⟩ := yl x H' y
      rw [List.drop_eq_getElem_cons hlt] at p2
      unfold lcGo at p2
      cases hp : put xs[i] (wipeS sl vs) with
      | none => simp only [hp] at p2; exact False.elim p2
      | some s1 =>
        simp only [hp] at p2
        refine ⟨_, F3, ι3, _, h2, _, s1, j3, rx, hp, fun σ2 j4 e1 e2 => ⟨e1.trans (wipe_wipe σ vs), ?_⟩⟩
        have e1' : L2.wipe σ2 vs = L2.wipe σ vs := e1.trans (wipe_wipe σ vs)
        have e2' : wipeS s1 vs = wipeS sl vs := e2.trans (wipeS_wipeS sl vs)
        refine ⟨_, F3, ι3, s1, h2, j4, ?_⟩
        cases hc : ct s1 h2 with
        | bad => simp only [hc] at p2; exact False.elim p2
        | exc x h3 => simp only [hc] at p2; exact False.elim p2
        | ok b h3 =>
          intro F4 ι4 H4 b' l4 j5 eb
          subst eb
          cases b with
          | false =>
            simp only [hc] at p2
            simp only [Bool.false_eq_true, if_false]
            have j6 := j5.wipe vs
            rw [e1', e2'] at j6
            exact ⟨rfl, hlt, F4, ι4, h3, acc, us, l2.trans (l3.trans l4), j6, ra.mono (l3.trans l4), p2.le (l3.trans l4)⟩
          | true =>
            simp only [hc] at p2
            simp only [if_true]
            refine ⟨_, F4, ι4, s1, h3, j5, ?_⟩
            cases he : me s1 h3 with
            | bad => simp only [he] at p2; exact False.elim p2
            | exc x h4 => simp only [he] at p2; exact False.elim p2
            | ok y h4 =>
              simp only [he] at p2
              intro F5 ι5 H5 v l5 j6 rv
              obtain ⟨q1, q2, q3, q4⟩ := j6.hd Dd _ upd_same
              cases hd : decide (acc.length < sizeLine) with
              | false => simp only [hd] at p2; exact False.elim p2
              | true =>
                simp only [hd] at p2
                have j7 := (j6.wipe vs).reHold (o' := .lst (us ++ [v])) n0
                rw [e1', e2'] at j7
                have l35 := l3.trans (l4.trans l5)
                exact ⟨us, q1, by rw [← ra.length]; exact of_decide_eq_true hd, rfl, hlt, F5, ι5, h4, acc ++ [y], us ++ [v], l2.trans l35, j7, (ra.mono l35).append (.cons rv .nil), p2.le l35⟩
    · left
      refine ⟨w2.1 (by omega), ?_⟩
      rw [List.drop_eq_nil_of_le (by omega)] at p2
      unfold lcGo at p2
      obtain ⟨j3, nw⟩ := j2.unhold n0 nh
      exact p2 F2 ι2 H2 Dd us .refl (j1.unwipe hno l2 j3) ⟨nw.at_, nw.f, nw.i, nw.o, nw.hd, ns⟩ ra
end Ev

set_option maxHeartbeats 1000000
namespace Ev
open PySem PySem.Spec PyProof.Rows L2

/-! ## names of built-ins -/
theorem bt_boot : ∀ b : Bt, bootBuiltins b.nm = some b.val := by
  intro b
  cases b <;> decide +kernel
theorem bt_name : ∀ b : Bt, b.nm ≠ "__name__" ∧ (b.nm == ("__debug__" : Str)) = false := by
  intro b
  cases b <;> exact ⟨by decide +kernel, by decide +kernel⟩
theorem ty_boot : ∀ t : Ty, t.isB = true → bootBuiltins t.nm = some (.type t.s) := by
  intro t
  cases t <;> first | (intro h; cases h; done) | (intro _; decide +kernel)
theorem ty_name : ∀ t : Ty, t.nm ≠ "__name__" ∧ (t.nm == ("__debug__" : Str)) = false := by
  intro t
  cases t <;> exact ⟨by decide +kernel, by decide +kernel⟩
section
variable {X : Cx} {x : Str} {p pos : Pos} {e : Expr} {es : List Expr} {t : TA}
/-- a built-in, function or class, called -/
theorem pe_bt (b : Bt) (n : X.calm = true) (g : X.A.guards = some []) (u : X.A.units + 70 < cLine) (hg : Gl X b.nm) (hm : X.mg b.nm = none) (ha : PA X (e :: es) t) (he : starEach (e :: es) X.env = (false, eval e X.env) :: starEach es X.env)
    (hpl : (backTo pos (starEach es X.env)).any (·.1) = false) : PE X (.Call (.Name b.nm p) (e :: es) [] pos) (tCB (rBlt X.K b) t) := by
  have c := blt_ok (X := X) b n g u
  have bb := bt_boot b
  obtain ⟨n1, n2⟩ := bt_name b
  cases hb : b.val with
  | builtin id =>
    rw [hb] at c bb
    exact pe_callB c hg hm bb ha n1 n2 he hpl
  | type id =>
    rw [hb] at c bb
    exact pe_callTy c hg hm bb ha n1 n2 he hpl
  | _ => cases b <;> cases hb
end
theorem isTy_ty {K : PySem.W.Frag} (a b : Ty) : PySem.W.kitOne K (.type a.s) (.type b.s) = some (isTy a b) := kit_ty (kit_is a b)
theorem isTy_two {K : PySem.W.Frag} (a b c : Ty) : PySem.W.kitAny K (.type a.s) [.type b.s, .type c.s] = some (isTy a b || isTy a c) := by
  refine kitAny_cons (isTy_ty a b) (fun h => ?_) (fun h => by rw [h]; rfl)
  rw [h, Bool.false_or]
  exact kitAny_cons (isTy_ty a c) (fun h => by rw [h]; exact kitAny_nil) (fun h => h)

/-- a dict's item -/
def rDic : R2 := fun x y H Q => ∃ a v, x = .ref a ∧ DGet H a y (some v) ∧ Q v H
theorem ix_dic {X : Cx} (hu : X.A.units + 1 < cLine) : IxR X rDic := by
  intro value slice pins s σ H x y v u Q I rx ry h hs
  obtain ⟨a, z, rfl, g, q⟩ := h
  cases rx
  exact tail_any (dict_typeIs I g) PySem.F.slot_dict_getitem.lookup (d_getItem hu I g ry fun w' s' I' r' => ⟨z, H, I', r', q⟩) hs
/-- a subscript -/
theorem ix_of {K : PySem.W.Frag} {e0 : Ent} {F : Hp} {ι : List Addr} {sl : Sls} {h : Obs} {σ : VS} {H : Hp} {x y w : W} {v u : V} {Q : VK} (j : J K e0 F ι sl h σ H) (r : RN K F ι H x v) (r2 : RV K F ι y u) (e : idxW x y = some w)
    (k : ∀ z, RV K F ι w z → Q z H) : rIx K v u H Q ∨ rDic v u H Q := by
  cases r2 with
  | int i =>
    left
    cases x with
    | lst ws =>
      obtain ⟨a, vs, rfl, ha, rv⟩ := r.lst j.hr.sub
      obtain ⟨z, e1, rz⟩ := rv.atI (i := i) e
      exact .inl ⟨a, vs, i, z, rfl, rfl, .inl (.inl ha), e1, k z rz⟩
    | tup ws =>
      have r1 := r.rv (fun _ z => by cases z)
      cases r1 with
      | tup sq rv =>
        obtain ⟨z, e1, rz⟩ := rv.atI (i := i) e
        exact .inr (.inl ⟨_, _, i, z, rfl, rfl, sqT_mono j.hr.sub sq, e1, k z rz⟩)
    | scr ns =>
      have r1 := r.rv (fun _ z => by cases z)
      cases r1 with
      | scr sq =>
        have e : (L2.atI ns i).map W.int = some w := e
        have e2 : L2.atI (ns.map W.int) i = some w := by
          unfold L2.atI at e ⊢
          rw [List.length_map]
          cases q : ixN ns.length i with
          | none => rw [q] at e; cases e
          | some m => rw [q] at e; show (ns.map W.int)[m]? = some w; rw [List.getElem?_map]; exact e
        obtain ⟨z, e1, rz⟩ := (RVs.ints (K := K) (F := F) (ι := ι) ns).atI (i := i) e2
        exact .inl ⟨_, _, i, z, rfl, rfl, sqL_mono j.hr.sub sq, e1, k z rz⟩
    | str s =>
      cases r.str
      have e : (match lineN s.length with | true => (L2.atI s.cps.toList i).map fun c => W.str ⟨#[c]⟩ | false => none) = some w := e
      split at e
      · rename_i hl
        cases q : L2.atI s.cps.toList i with
        | none => rw [q] at e; cases e
        | some c =>
          rw [q] at e
          cases e
          exact .inr (.inr ⟨s, i, c, rfl, rfl, lineN_ok hl, q, k _ (.str _)⟩)
      · cases e
    | _ => cases e
  | str s =>
    right
    cases x with
    | dic kvs =>
      obtain ⟨p, ks, rfl, hp, c⟩ := r.dic
      obtain ⟨z, e1, rz⟩ := (c.get (s := s)).1 w e
      exact ⟨p, z, rfl, .inl ⟨ks, .inr s, .inl hp, rfl, e1.symm⟩, k z rz⟩
    | _ => cases e
  | _ => cases e

/-! ## the readings hold -/
section
variable {X : Cx} {Z : WX} {D : Dn} {c : Oc}
/-- calls -/
theorem call_pe (n : Cn X Z D c) {i : Nat} {x : Str} {xp p : Pos} {es : Es} (hf : c.fs i = some x) (hg : glB X.env.scope x = true) (hd : nmB x = true) (ha : PA X es.un (tA X Z false (es.den D false))) :
    PE X (.Call (.Name x xp) es.un [] p) (tE X Z false fun σ h => (es.den D false σ h).bind fun ws h => D.call i ws h) := by
  obtain ⟨g, fd, ps, k, m1, m2, m3, m4, m5, m6, _⟩ := n.fn i x hf
  refine ⟨fun pins s σ H Q I q => ?_⟩
  refine wpAny_Call_Name_kw (ld_glob I (glB_ok hg) m1 ?_ (nmB_ok hd).1)
  obtain ⟨e0, F, ι, sl, h, j, q⟩ := q
  have step : ∀ {us : List Value} {s1 : Shared} {H1 : Hp} {vs : List V} {h1 : Obs} {F1 : Hp} {ι1 : List Addr} {ws : List W}, Inv X pins σ H1 s1 → Vals vs us → J X.K e0 F1 ι1 sl h1 σ H1 → RVs X.K F1 ι1 ws vs →
      Po (bx X Z e0) F1 ι1 sl σ (RKd X.K sl σ false) (D.call i ws h1) Q → wpAny (model X.prog X.w) X.A (call (.ref g) us) (EP X pins σ Q) X.xe s1 := fun {us s1 H1 vs h1 F1 ι1 ws} I1 r1 j1 rv q1 => by
    have hl : vs.length = ps.length := by
      rcases n.ar i ws h1 with z | z
      · rw [z] at q1; exact False.elim q1
      · rw [← rv.length, z, m4]
    have hb := m3 s1 us I1.kIn (by rw [List.append_nil, ← r1.length]; exact hl)
    rw [List.append_nil] at hb
    exact run_w n.tk m5 n.gd m6 I1 hb r1 hl j1 rv q1
  cases es with
  | nil => exact PySem.W.callWith_K0 I.kIn m2 (step (us := []) I .nil j .nil q)
  | cons e es =>
    refine PySem.W.callWith_K (h₀ := X.base) I.ok.mod.kin m2 (thn (ha.run p pins s σ H _ I ⟨e0, F, ι, sl, h, j, q.bind fun ws h1 F1 ι1 H1 vs l1 j1 r1 p1 => (⟨h1, F1, ι1, ws, j1, r1.rvs, p1⟩ :
      ∃ h1 F1 ι1 ws, J X.K e0 F1 ι1 sl h1 σ H1 ∧ RVs X.K F1 ι1 ws vs ∧ Po (bx X Z e0) F1 ι1 sl σ (RKd X.K sl σ false) (D.call i ws h1) Q)⟩) fun us s1 ⟨vs, H1, I1, r1, h1, F1, ι1, ws, j1, rv, q1⟩ => ⟨I1.kIn, step (us := us) I1 r1 j1 rv q1⟩)
      (star_un e es.un) (plain_un p es)
end
/-- keyword arguments -/
def tK (X : Cx) (Z : WX) (ns : List Str) (m : Sls → Obs → R (List (Str × W))) : TA := fun σ H Q => ∃ e0 F ι sl h, J X.K e0 F ι sl h σ H ∧ Po (bx X Z e0) F ι sl σ (fun F ι ks vs => ks.map Prod.fst = ns ∧ RVs X.K F ι (ks.map Prod.snd) vs) (m sl h) Q
theorem PK.imp {X : Cx} {ks : List Keyword} {t t' : TA} (h : PK X ks t) (i : ∀ σ H Q, t' σ H Q → t σ H Q) : PK X ks t' := ⟨fun pos pins s σ H Q I q => h.run pos pins s σ H Q I (i σ H Q q)⟩
theorem ks_each {env : Env} (p : Pos) : ∀ ks : Ks, (backToKw p (keywordEach ks.un env)).all (·.1.isSome) = true ∧ (backToKw p (keywordEach ks.un env)).filterMap (·.1) = ks.names ∧ (backToKw p (keywordEach ks.un env)).any (·.1.isNone) = false
  | .nil => ⟨rfl, rfl, rfl⟩
  | .cons x e q ks => by
    obtain ⟨h1, h2, h3⟩ := ks_each p ks
    have z : backToKw p (keywordEach (Ks.un (.cons x e q ks)) env) = (some x, (do let v ← eval e.un env; standAt p; pure v)) :: backToKw p (keywordEach ks.un env) := rfl
    rw [z]
    refine ⟨?_, ?_, ?_⟩
    · rw [List.all_cons, h1]; rfl
    · rw [List.filterMap_cons, h2]; rfl
    · rw [List.any_cons, h3]; rfl
theorem es_len {D : Dn} {k : Bool} : ∀ {es : Es} {σ : Sls} {h h' : Obs} {ws : List W}, es.den D k σ h = .ok ws h' → ws.length = es.len
  | .nil, σ, h, h', ws, z => by cases z; rfl
  | .cons e es, σ, h, h', ws, z => by
    have z : ((e.den D k σ h).bind fun w h => (es.den D k σ h).bind fun ws h => R.ok (w :: ws) h) = .ok ws h' := z
    cases q1 : e.den D k σ h with
    | ok w h1 =>
      rw [q1] at z
      have z : ((es.den D k σ h1).bind fun ws h => R.ok (w :: ws) h) = .ok ws h' := z
      cases q2 : es.den D k σ h1 with
      | ok us h2 =>
        rw [q2] at z
        cases z
        exact congrArg (· + 1) (es_len q2)
      | exc x h2 => rw [q2] at z; cases z
      | bad => rw [q2] at z; cases z
    | exc x h2 => rw [q1] at z; cases z
    | bad => rw [q1] at z; cases z
theorem Po.strong {α β : Type} {b : Bx} {F : Hp} {ι : List Addr} {sl : Sls} {σ : VS} {rel : Hp → List Addr → α → β → Prop} {r : R α} {Q : β → Hp → Prop} {C : α → Prop} (hc : ∀ a h, r = .ok a h → C a) (p : Po b F ι sl σ (fun F ι a v => rel F ι a v ∧ C a) r Q) : Po b F ι sl σ rel r Q := by
  cases r with
  | ok a h => exact fun F' ι' H' v l j q => p F' ι' H' v l j ⟨q, hc a h rfl⟩
  | exc x h => exact p
  | bad => exact p
theorem callK_pe {X : Cx} {Z : WX} {D : Dn} {c : Oc} (n : Cn X Z D c) {i : Nat} {x : Str} {xp p : Pos} {es : Es} {ks : Ks} (hf : c.fs i = some x) (hg : glB X.env.scope x = true) (hd : nmB x = true) (hk : (i, es.len, ks.names) ∈ c.kws) (ha : PA X es.un (tA X Z false (es.den D false))) (hb : PK X ks.un (tK X Z ks.names (ks.den D))) :
    PE X (.Call (.Name x xp) es.un ks.un p) (tE X Z false fun σ h => (es.den D false σ h).bind fun ws h => (ks.den D σ h).bind fun zs h => match kwPut (D.par i) ws zs with | some us => D.call i us h | none => .bad) := by
  obtain ⟨g, fd, ps, k, m1, m2, m3, m4, m5, m6, m7⟩ := n.fn i x hf
  refine ⟨fun pins s σ H Q I q => ?_⟩
  refine wpAny_Call_Name_kw (ld_glob I (glB_ok hg) m1 ?_ (nmB_ok hd).1)
  obtain ⟨e0, F, ι, sl, h, j, q⟩ := q
  obtain ⟨k1, k2, k3⟩ := ks_each (env := X.env) p ks
  have step : ∀ {us zs : List Value} {s1 : Shared} {H1 : Hp} {vs ys : List V} {h1 : Obs} {F1 : Hp} {ι1 : List Addr} {ws : List W} {kw : List (Str × W)}, Inv X pins σ H1 s1 → Vals vs us → Vals ys zs → us.length = es.len → J X.K e0 F1 ι1 sl h1 σ H1 → RVs X.K F1 ι1 ws vs → kw.map Prod.fst = ks.names → RVs X.K F1 ι1 (kw.map Prod.snd) ys →
      Po (bx X Z e0) F1 ι1 sl σ (RKd X.K sl σ false) (match kwPut (D.par i) ws kw with | some us => D.call i us h1 | none => .bad) Q → wpAny (model X.prog X.w) X.A (call (.ref g) us (ks.names.zip zs)) (EP X pins σ Q) X.xe s1 := fun {us zs s1 H1 vs ys h1 F1 ι1 ws kw} I1 r1 r2 hl j1 rv en ry q1 => by
    have lz : zs.length = ks.names.length := by rw [← r2.length, ← ry.length, List.length_map, ← en, List.length_map]
    obtain ⟨as, e1, bnd⟩ := m7 _ _ hk us zs hl lz
    cases hp : kwPut (D.par i) ws kw with
    | none => rw [hp] at q1; exact False.elim q1
    | some as1 =>
      rw [hp] at q1
      rw [m4] at hp
      obtain ⟨as2, e2, r3⟩ := kwPut_rel rv.pair (zip_pair ry.pair) hp
      rw [en] at e2
      obtain ⟨as3, e3, r4⟩ := kwPut_rel (rel := RelV) r1 (zip_two (ks := ks.names) r2) e2
      rw [e1] at e3
      cases e3
      have rw1 := RVs.unpair r3
      refine run_w n.tk m5 n.gd m6 I1 (bnd s1) r4 ?_ j1 rw1 q1
      have q1 : Po (bx X Z e0) F1 ι1 sl σ (RKd X.K sl σ false) (D.call i as1 h1) Q := q1
      rcases n.ar i as1 h1 with z | z
      · rw [z] at q1; exact False.elim q1
      · rw [← rw1.length, z, m4]
  have kws : ∀ {us : List Value} {s1 : Shared} {H1 : Hp} {vs : List V} {h1 : Obs} {F1 : Hp} {ι1 : List Addr} {ws : List W}, Inv X pins σ H1 s1 → Vals vs us → us.length = es.len → J X.K e0 F1 ι1 sl h1 σ H1 → RVs X.K F1 ι1 ws vs →
      Po (bx X Z e0) F1 ι1 sl σ (RKd X.K sl σ false) ((ks.den D sl h1).bind fun zs h => match kwPut (D.par i) ws zs with | some us => D.call i us h | none => .bad) Q →
      wpAny (model X.prog X.w) X.A (evalAll ((backToKw p (keywordEach ks.un X.env)).map (·.2))) (fun zs s2 => X.K.In s2.heap ∧ wpAny (model X.prog X.w) X.A (call (.ref g) us (((backToKw p (keywordEach ks.un X.env)).filterMap (·.1)).zip zs)) (EP X pins σ Q) X.xe s2) X.xe s1 := fun {us s1 H1 vs h1 F1 ι1 ws} I1 r1 hl j1 rv q1 => by
    rw [k2]
    refine thn (hb.run p pins s1 σ H1 _ I1 ⟨e0, F1, ι1, sl, h1, j1, q1.bind fun kw h2 F2 ι2 H2 ys l2 j2 r2 q2 => (⟨h2, F2, ι2, kw, j2, rv.mono l2, r2, q2⟩ :
      ∃ h2 F2 ι2 kw, J X.K e0 F2 ι2 sl h2 σ H2 ∧ RVs X.K F2 ι2 ws vs ∧ (kw.map Prod.fst = ks.names ∧ RVs X.K F2 ι2 (kw.map Prod.snd) ys) ∧ Po (bx X Z e0) F2 ι2 sl σ (RKd X.K sl σ false) (match kwPut (D.par i) ws kw with | some us => D.call i us h2 | none => .bad) Q)⟩) fun zs s2 ⟨ys, H2, I2, rz, h2, F2, ι2, kw, j2, rv2, ⟨en, ry⟩, q2⟩ => ⟨I2.kIn, step I2 r1 rz hl j2 rv2 en ry q2⟩
  cases es with
  | nil => exact PySem.W.callWith_KW0 (h₀ := X.base) I.ok.mod.kin m2 k1 (kws (us := []) I .nil rfl j .nil q) (by rw [k3]; rfl)
  | cons e es =>
    refine PySem.W.callWith_KW (h₀ := X.base) I.ok.mod.kin m2 k1 (thn (ha.run p pins s σ H _ I ⟨e0, F, ι, sl, h, j, Po.strong (C := fun ws => ws.length = es.len + 1) (fun a h' z => es_len z) (q.bind fun ws h1 F1 ι1 H1 vs l1 j1 r1 p1 => (⟨h1, F1, ι1, ws, j1, r1.1.rvs, r1.2, p1⟩ :
      ∃ h1 F1 ι1 ws, J X.K e0 F1 ι1 sl h1 σ H1 ∧ RVs X.K F1 ι1 ws vs ∧ ws.length = es.len + 1 ∧ Po (bx X Z e0) F1 ι1 sl σ (RKd X.K sl σ false) ((ks.den D sl h1).bind fun zs h => match kwPut (D.par i) ws zs with | some us => D.call i us h | none => .bad) Q))⟩)
      fun us s1 ⟨vs, H1, I1, r1, h1, F1, ι1, ws, j1, rv, hl, q1⟩ => kws (us := us) I1 r1 (by rw [← r1.length, ← rv.length]; exact hl) j1 rv q1) ?_ (star_un e es.un)
    show ((backTo p (starEach (e.un :: es.un) X.env)).any (·.1) || _) = false
    rw [k3, Bool.or_false]
    have z := plain_un (env := X.env) p (.cons e es)
    exact z
theorem lc_of {X : Cx} {Z : WX} {D : Dn} {c : Oc} (n : Cn X Z D c) {e : E} {tg : Tg} {it : It} {t : Eo} {vs : List (Str × Nat)} {sc : Scope} {p : Pos} (o1 : blkC c.N X.env.scope sc vs = true) (o4 : tg.okC c (relS sc X.env.scope) (ixs vs) = true)
    (hi : PI X tg.un it.un (tWk X Z (it.den D)))
    (ht : ∀ (s : Shared) (H : Hp) (C : Addr) (cl : List (Str × Addr)) (fp : List Addr), PTs (X.blk s H sc (compEnvC sc cl C X.env) fp) t.uns (tT (X.blk s H sc (compEnvC sc cl C X.env) fp) nox (t.tst D)))
    (he : ∀ (s : Shared) (H : Hp) (C : Addr) (cl : List (Str × Addr)) (fp : List Addr), PE (X.blk s H sc (compEnvC sc cl C X.env) fp) e.un (tE (X.blk s H sc (compEnvC sc cl C X.env) fp) nox false (e.den D false))) :
    PE X (E.un (.lc e tg it t vs sc p)) (tF X Z (fun σ h => match noOwn σ (ixs vs) with
      | true => (it.den D σ h).bind fun xs h => lcGo (fun x => tg.put x (wipeS σ (ixs vs))) (fun σ h => t.tst D σ h) (fun σ h => e.den D false σ h) xs [] h
      | false => .bad)) := by
  refine PE.imp (pe_lc (wi := tWk X Z (fun σ h => it.den D σ h)) (g := tPut X (ixs vs) tg.put) (tt := tT X nox (fun σ h => t.tst D σ h)) (te := tE X nox false (fun σ h => e.den D false σ h)) n.calm n.nd hi (blkOk_by (by rw [n.N]; exact o1))
    (fun s H C cl fp => Tg.pput (X := X.blk s H sc (compEnvC sc cl C X.env) fp) n.calm n.N n.nd tg o4) ht he (foldedI_un it)) ?_
  intro σ H Q q
  exact lc_rd q
theorem RVs.intsOf {K : PySem.W.Frag} {F : Hp} {ι : List Addr} : ∀ {ws : List W} {vs : List V} {ns : List Int}, RVs K F ι ws vs → Ev.intsOf ws = some ns → vs = ns.map V.int
  | _, _, _, .nil, e => by cases e; rfl
  | _, _, ns, .cons (w := w) (ws := ws) r t, e => by
    cases r with
    | int i =>
      have e : (Ev.intsOf ws).map (i :: ·) = some ns := e
      cases q : Ev.intsOf ws with
      | none => rw [q] at e; cases e
      | some ms =>
        rw [q] at e
        cases e
        rw [RVs.intsOf t q]
        rfl
    | _ => cases e
theorem in_kd {K : PySem.W.Frag} {d : Addr} {kvs : List (Str × W)} {s : Str} (look : (∀ a, dicGet kvs s = some a → ∃ u v, PySem.W.nsIn K d s = some (some u) ∧ RelV v u ∧ ∀ F ι, RV K F ι a v) ∧ (dicGet kvs s = none → PySem.W.nsIn K d s = some none)) :
    ∃ r, PySem.W.nsIn K d s = some r ∧ r.isSome = (dicGet kvs s).isSome := by
  cases q : dicGet kvs s with
  | none => exact ⟨none, look.2 q, rfl⟩
  | some a =>
    obtain ⟨u, v, e, _⟩ := look.1 a q
    exact ⟨some u, e, rfl⟩
theorem es_un_len : ∀ es : Es, es.un.length = es.len
  | .nil => rfl
  | .cons e es => congrArg (· + 1) (es_un_len es)
/-- the pairs of a display -/
def prs (X : Cx) (Z : WX) (D : Dn) : List (Str × Nat × Pos) → Es → List (TE × TE)
  | k :: ks, .cons e es => (tC (.str k.1), tE X Z false (e.den D false)) :: prs X Z D ks es
  | _, _ => []
def prV (ks : List (Str × Nat × Pos)) (vs : List V) : List (V × V) := ((ks.map fun k => k.1).zip vs).map fun p => (V.str p.1, p.2)
theorem prs_rd {X : Cx} {Z : WX} {D : Dn} {e0 : Ent} {sl : Sls} {σ : VS} : ∀ (ks : List (Str × Nat × Pos)) (es : Es), ks.length = es.len → ∀ {F : Hp} {ι : List Addr} {h : Obs} {H : Hp} {Q : List V → Hp → Prop} {Q' : List (V × V) → Hp → Prop}, J X.K e0 F ι sl h σ H →
    Po (bx X Z e0) F ι sl σ (fun F ι ws vs => RVs X.K F ι ws vs) (es.den D false sl h) Q → (∀ vs H2, vs.length = ks.length → Q vs H2 → Q' (prV ks vs) H2) → tPairs (prs X Z D ks es) σ H Q'
  | [], .nil, _, F, ι, h, H, Q, Q', j, p, f => f [] H rfl (p.ret j .nil)
  | k :: ks, .cons e es, hl, F, ι, h, H, Q, Q', j, p, f => by
    refine ⟨e0, F, ι, sl, h, j, Po.bind (rel2 := fun F ι ws vs => RVs X.K F ι ws vs) (Q := Q) p fun w h1 F1 ι1 H1 v l1 j1 r1 p1 => ?_⟩
    exact prs_rd ks es (Nat.succ.inj hl) (Q := fun vs H2 => Q (v :: vs) H2) j1 (Po.bind (rel2 := fun F ι ws vs => RVs X.K F ι ws vs) (Q := Q) p1 fun ws h2 F2 ι2 H2 vs l2 j2 r2 p2 => p2.ret j2 (.cons (r1.mono l2) r2))
      fun vs H2 hl q => f (v :: vs) H2 (by rw [List.length_cons, hl]; rfl) q
theorem dic_or (o : Option W) : (∃ kvs, o = some (.dic kvs)) ∨ ∀ kvs, o ≠ some (.dic kvs) := by
  cases o with
  | none => exact .inr fun _ z => by cases z
  | some w =>
    cases w with
    | dic kvs => exact .inl ⟨kvs, rfl⟩
    | _ => exact .inr fun _ z => by cases z
/-- a display's dict -/
theorem fold_rd {K : PySem.W.Frag} {F : Hp} {ι : List Addr} : ∀ (ks : List Str) {ws : List W} {vs : List V} {d : List (Str × W)} {t : List (L2.Key × V)}, RVs K F ι ws vs → RKv K F ι d t →
    RKv K F ι ((ks.zip ws).foldl (fun d p => dicPut d p.1 p.2) d) (mergeK t ((ks.zip vs).map fun p => (Sum.inr p.1, p.2)))
  | [], _, _, _, _, _, c => c
  | _ :: _, _, _, _, _, .nil, c => c
  | k :: ks, _, _, _, _, .cons r rr, c => fold_rd ks rr (c.put r)
mutual
theorem E.pe {D : Dn} {c : Oc} : ∀ (e : E) (X : Cx) (Z : WX) (n : Cn X Z D c) (k : Bool), e.okE c X.env.scope = true → PE X e.un (tE X Z k (e.den D k))
  | .name x i p, X, Z, n, k, ok => by
    obtain ⟨h1, h2⟩ := and_ok (show (decide (c.N[i]? = some x) && (visB X.env.scope x && nmB x)) = true from ok)
    obtain ⟨h2, h3⟩ := and_ok h2
    refine PE.imp (pe_var (by rw [n.N]; exact of_decide_eq_true h1) (visB_ok h2) (nmB_ok h3).1 (nmB_ok h3).2) ?_
    rintro σ H Q ⟨e0, F, ι, sl, h, j, q⟩
    obtain ⟨w, e, q⟩ := q.opt
    unfold slotV at e
    split at e
    · rename_i w' hw
      cases e
      obtain ⟨v, e1, rv⟩ := j.at_ i _ hw
      exact ⟨v, e1, q.ret j (RKd.of rv)⟩
    · cases e
  | .peek x i p, X, Z, n, k, ok => by
    obtain ⟨h1, h2⟩ := and_ok (show (decide (c.N[i]? = some x) && (visB X.env.scope x && nmB x)) = true from ok)
    obtain ⟨h2, h3⟩ := and_ok h2
    refine PE.imp (pe_var (by rw [n.N]; exact of_decide_eq_true h1) (visB_ok h2) (nmB_ok h3).1 (nmB_ok h3).2) ?_
    rintro σ H Q ⟨e0, F, ι, sl, h, j, q⟩
    cases k with
    | false => exact False.elim q
    | true =>
      have q : Po (bx X Z e0) F ι sl σ (RKd X.K sl σ true) (.opt (slotP sl i) h) Q := q
      obtain ⟨w, e, q⟩ := q.opt
      unfold slotP at e
      split at e
      · rename_i w' hw
        cases e
        obtain ⟨v, e1, rv⟩ := j.at_ i _ hw
        exact ⟨v, e1, q.ret j (RKd.of rv)⟩
      · rename_i ws hw
        cases e
        obtain ⟨a, vs, e1, e2, rv, _⟩ := j.at_ i _ hw
        exact ⟨.ref a, e1, q.ret j (.inr ⟨i, ws, a, rfl, rfl, hw, e1⟩)⟩
      · cases e
  | .cst x p, X, Z, n, k, ok => by
    obtain ⟨h1, h2⟩ := and_ok (show (glB X.env.scope x && nmB x) = true from ok)
    refine ⟨fun pins s σ H Q I q => ?_⟩
    obtain ⟨e0, F, ι, sl, h, j, q⟩ := q
    obtain ⟨w, e, q⟩ := q.opt
    obtain ⟨v, u, e1, e2, e3⟩ := n.cst x w e
    exact (pe_glob (glB_ok h1) e1 e2 (nmB_ok h2).1).run pins s σ H Q I (q.ret j (RKd.of (e3 F ι)))
  | .dget x xp i p, X, Z, n, k, ok => by
    obtain ⟨h1, h2⟩ := and_ok (show (glB X.env.scope x && (nmB x && i.okE c X.env.scope)) = true from ok)
    obtain ⟨h2, h3⟩ := and_ok h2
    have hi := E.pe i X Z n false h3
    rcases dic_or (D.cst x) with ⟨kvs, hx⟩ | hx
    · obtain ⟨d, es, m, hm, KD, look⟩ := n.dic x kvs hx
      refine PE.imp (pe_ix ix_kdict (pe_glob (v := .ref d) (glB_ok h1) hm rfl (nmB_ok h2).1) hi (fun o v => plainIx_un i o v)) ?_
      rintro σ H Q ⟨e0, F, ι, sl, h, j, q⟩
      simp only [E.den, hx] at q
      refine ⟨e0, F, ι, sl, h, j, q.bind fun y h1 F1 ι1 H1 v l1 j1 r1 q1 => ?_⟩
      cases r1 with
      | str s =>
        obtain ⟨w, e, q2⟩ := Po.opt q1
        obtain ⟨u, v, hn, rel, rv⟩ := (look s).1 w e
        exact ⟨d, s, v, rfl, rfl, ⟨es, m, u, KD.at_, KD.lit, hn, rel⟩, q2.ret j1 (RKd.of (rv F1 ι1))⟩
      | _ => exact False.elim q1
    · refine PE.never fun σ H Q ⟨e0, F, ι, sl, h, j, q⟩ => ?_
      simp only [E.den] at q
      exact q
  | .din ng a x xp p, X, Z, n, k, ok => by
    obtain ⟨h1, h2⟩ := and_ok (show (glB X.env.scope x && (nmB x && a.okE c X.env.scope)) = true from ok)
    obtain ⟨h2, h3⟩ := and_ok h2
    have ha := E.pe a X Z n false h3
    rcases dic_or (D.cst x) with ⟨kvs, hx⟩ | hx
    · obtain ⟨d, es, m, hm, KD, look⟩ := n.dic x kvs hx
      have pn : PE X (.Name x xp) (tC (.ref d)) := pe_glob (v := .ref d) (glB_ok h1) hm rfl (nmB_ok h2).1
      cases ng with
      | false =>
        refine PE.imp (pe_cmpR (op_in_kd KD) ha pn rfl) ?_
        rintro σ H Q ⟨e0, F, ι, sl, h, j, q⟩
        simp only [E.den, hx] at q
        refine ⟨e0, F, ι, sl, h, j, q.bind fun y h1 F1 ι1 H1 v l1 j1 r1 q1 => ?_⟩
        cases r1 with
        | str s =>
          obtain ⟨r, hr, er⟩ := in_kd (look s)
          exact ⟨s, r, rfl, rfl, hr, by rw [er]; exact Po.ret q1 j1 (RKd.of (by rw [Bool.bne_false]; exact .bl _))⟩
        | _ => exact False.elim q1
      | true =>
        refine PE.imp (pe_cmpR (op_notIn_kd KD) ha pn rfl) ?_
        rintro σ H Q ⟨e0, F, ι, sl, h, j, q⟩
        simp only [E.den, hx] at q
        refine ⟨e0, F, ι, sl, h, j, q.bind fun y h1 F1 ι1 H1 v l1 j1 r1 q1 => ?_⟩
        cases r1 with
        | str s =>
          obtain ⟨r, hr, er⟩ := in_kd (look s)
          exact ⟨s, r, rfl, rfl, hr, by rw [er]; exact Po.ret q1 j1 (RKd.of (by rw [Bool.bne_true]; exact .bl _))⟩
        | _ => exact False.elim q1
    · refine PE.never fun σ H Q ⟨e0, F, ι, sl, h, j, q⟩ => ?_
      simp only [E.den] at q
      exact q
  | .srt a p1 p2 p3 p4, X, Z, n, k, ok => by
    obtain ⟨o1, o2⟩ := and_ok (show (glB X.env.scope "sorted" && (glB X.env.scope "set" && a.okE c X.env.scope)) = true from ok)
    obtain ⟨o2, o3⟩ := and_ok o2
    refine PE.imp (pe_srt n.calm (glB_ok o1) (n.fr _ (by decide +kernel)) (glB_ok o2) (n.fr _ (by decide +kernel)) (E.pe a X Z n true o3) (star_un a [])) ?_
    rintro σ H Q ⟨e0, F, ι, sl, h, j, q⟩
    refine ⟨e0, F, ι, sl, h, j, Po.bind (r := a.den D true sl h) q fun x h1 F1 ι1 H1 v l1 j1 r1 q1 => ?_⟩
    obtain ⟨w, e, q2⟩ := q1.opt
    have rn := j1.now r1.op
    unfold srtW at e
    split at e
    · rename_i ws ew
      rw [ew] at rn
      obtain ⟨ad, vs, rfl, ha, rv⟩ := rn.lst j1.hr.sub
      split at e
      · rename_i ns en
        split at e
        · rename_i hl
          cases e
          have ev := rv.intsOf en
          subst ev
          exact ⟨ad, ns, rfl, .inl (.inl ha), of_decide_eq_true hl, fun p hp => q2 _ _ _ _ (j1.newLe hp) (j1.new hp) (RKd.of (.lst upd_same (RVs.ints _)))⟩
        · cases e
      · cases e
    · cases e
  | .dicH ks es p, X, Z, n, k, ok => by
    obtain ⟨h1, h2⟩ := and_ok (show (decide (ks.length = es.len) && (decide (1 ≤ ks.length) && (decide (ks.length ≤ 15) && es.okE c X.env.scope))) = true from ok)
    obtain ⟨h2, h3⟩ := and_ok h2
    obtain ⟨h3, h4⟩ := and_ok h3
    have hl : ks.length = es.len := of_decide_eq_true h1
    have h1' : 1 ≤ ks.length := of_decide_eq_true h2
    have h15 : ks.length ≤ 15 := of_decide_eq_true h3
    refine PE.imp (pe_disp (Es.pp es X Z n ks p hl h4) (by simp) (by rw [List.length_map, hl, es_un_len]) (fun z => by rw [List.map_eq_nil_iff.mp z] at h1'; simp at h1') (by rw [List.length_map]; exact h15)) ?_
    rintro σ H Q ⟨e0, F, ι, sl, h, j, q⟩
    intro a ha
    have j1 := j.hold (o := .dK []) ha
    obtain ⟨n0, nh, _⟩ := j.none0 ha
    have q : Po (bx X Z e0) F ι sl σ (RKd X.K sl σ k) ((es.den D false sl h).bind fun ws h => .ok (.ref h.length) (h ++ [.dic (((ks.map fun k => k.1).zip ws).foldl (fun d p => dicPut d p.1 p.2) [])])) Q := q
    refine prs_rd ks es hl (Q := fun vs H2 => H2 a = some (.dK []) ∧ Q (.ref a) (upd H2 a (.dK (mergeK [] (((ks.map fun k => k.1).zip vs).map fun p => (Sum.inr p.1, p.2)))))) j1 ?_ ?_
    · cases hr : es.den D false sl h with
      | bad => rw [hr] at q; exact q
      | exc x h1 =>
        rw [hr] at q
        exact fun F1 ι1 H1 cls dd l1 j2 r2 => q F1 ι1 H1 cls dd l1 (j2.unhold2 nh) r2
      | ok ws h1 =>
        rw [hr] at q
        intro F1 ι1 H1 vs l1 j2 r2
        refine ⟨(j2.hd a _ upd_same).1, ?_⟩
        have c := fold_rd (K := X.K) (ks.map fun k => k.1) r2 .nil
        have j3 := j2.adopt (b := .dic (((ks.map fun k => k.1).zip ws).foldl (fun d p => dicPut d p.1 p.2) [])) n0 nh ⟨_, rfl, c⟩
        refine q F1 _ _ (.ref a) ⟨l1.f, ?_⟩ j3 (RKd.of (.ref ?_))
        · obtain ⟨t, e⟩ := l1.i
          exact ⟨t ++ [a], by rw [e, List.append_assoc]⟩
        · rw [← j2.hr.len, List.getElem?_append_right (Nat.le_refl _), Nat.sub_self]
          rfl
    · rintro vs H2 e1 ⟨e2, e3⟩
      refine ⟨e2, ((ks.map fun k => k.1).zip vs).map fun p => (Sum.inr p.1, p.2), ?_, ?_, e3⟩
      · unfold prV
        rw [List.map_map]
        rfl
      · rw [List.length_map, List.length_zip, List.length_map]
        omega
  | .tr e, X, Z, n, k, ok => PE.never fun σ H Q ⟨e0, F, ι, sl, h, j, q⟩ => q
  | .int i a p, X, Z, n, k, ok => PE.imp pe_int fun σ H Q ⟨e0, F, ι, sl, h, j, q⟩ => q.ret j (RKd.of (.int i))
  | .str s a p, X, Z, n, k, ok => PE.imp pe_str fun σ H Q ⟨e0, F, ι, sl, h, j, q⟩ => q.ret j (RKd.of (.str s))
  | .bl b a p, X, Z, n, k, ok => PE.imp pe_bl fun σ H Q ⟨e0, F, ι, sl, h, j, q⟩ => q.ret j (RKd.of (.bl b))
  | .non a p, X, Z, n, k, ok => PE.imp pe_non fun σ H Q ⟨e0, F, ι, sl, h, j, q⟩ => q.ret j (RKd.of .non)
  | .tup es a p, X, Z, n, k, ok => by
    refine PE.imp (pe_tup (Es.pa es X Z n false ok)) ?_
    rintro σ H Q ⟨e0, F, ι, sl, h, j, q⟩
    refine ⟨e0, F, ι, sl, h, j, q.bind fun ws h1 F1 ι1 H1 vs l1 j1 r1 q1 => ?_⟩
    cases hl : lineN ws.length with
    | false => simp only [hl] at q1; exact False.elim q1
    | true =>
      simp only [hl] at q1
      refine ⟨by rw [← r1.rvs.length]; exact lineN_ok hl, fun a ha => ?_⟩
      exact q1 _ _ _ (.ref a) (j1.newLe (o := .tup vs) ha) (j1.new ha) (RKd.of (.tup (.inl (.inl upd_same)) (r1.rvs.mono (j1.newLe ha))))
  | .lst es p, X, Z, n, k, ok => by
    refine PE.imp (pe_lst (Es.pa es X Z n false ok)) ?_
    rintro σ H Q ⟨e0, F, ι, sl, h, j, q⟩
    refine ⟨e0, F, ι, sl, h, j, q.bind fun ws h1 F1 ι1 H1 vs l1 j1 r1 q1 => ?_⟩
    cases hl : lineN ws.length with
    | false => simp only [hl] at q1; exact False.elim q1
    | true =>
      simp only [hl] at q1
      refine ⟨by rw [← r1.rvs.length]; exact lineN_ok hl, fun a ha => ?_⟩
      exact q1 _ _ _ (.ref a) (j1.newLe (o := .lst vs) ha) (j1.new ha) (RKd.of (.lst upd_same (r1.rvs.mono (j1.newLe ha))))
  | .lstH es p, X, Z, n, k, ok => by
    refine PE.imp (pe_lst (Es.pa es X Z n false ok)) ?_
    rintro σ H Q ⟨e0, F, ι, sl, h, j, q⟩
    refine ⟨e0, F, ι, sl, h, j, q.bind fun ws h1 F1 ι1 H1 vs l1 j1 r1 q1 => ?_⟩
    cases hl : lineN ws.length with
    | false => simp only [hl] at q1; exact False.elim q1
    | true =>
      simp only [hl] at q1
      refine ⟨by rw [← r1.rvs.length]; exact lineN_ok hl, fun a ha => ?_⟩
      have j2 := j1.newH (ws := ws) ha r1.rvs
      refine q1 _ _ _ (.ref a) ⟨fun _ _ e => e, [a], rfl⟩ j2 (RKd.of (.ref ?_))
      rw [← j1.hr.len, List.getElem?_append_right (Nat.le_refl _), Nat.sub_self]
      rfl
  | .emp p, X, Z, n, k, ok => by
    refine PE.imp pe_dnewK ?_
    rintro σ H Q ⟨e0, F, ι, sl, h, j, q⟩
    intro a ha
    exact q _ _ _ (.ref a) (j.newLe (o := .dK []) ha) (j.new ha) (RKd.of (.emp upd_same))
  | .bin op a b p, X, Z, n, k, ok => by
    obtain ⟨o1, o2⟩ := and_ok (show (a.okE c X.env.scope && b.okE c X.env.scope) = true from ok)
    refine PE.imp (pe_op (bin_ok op) (E.pe a X Z n true o1) (E.pe b X Z n true o2)) ?_
    rintro σ H Q ⟨e0, F, ι, sl, h, j, q⟩
    refine ⟨e0, F, ι, sl, h, j, q.bind fun x h1 F1 ι1 H1 v l1 j1 r1 q1 => ⟨e0, F1, ι1, sl, h1, j1, q1.bind fun y h2 F2 ι2 H2 u l2 j2 r2 q2 => ?_⟩⟩
    obtain ⟨w, e, q3⟩ := q2.opt
    exact ⟨F2, ι2, h2, _, _, w, j2.hr, j2.now (r1.mono l2).op, j2.now r2.op, e, fun F' H' v x hr rv => q3 F' ι2 H' v x.le (j2.step x hr) (RKd.of rv)⟩
  | .neg a p, X, Z, n, k, ok => by
    refine PE.imp (pe_un un_neg (E.pe a X Z n false ok)) ?_
    rintro σ H Q ⟨e0, F, ι, sl, h, j, q⟩
    refine ⟨e0, F, ι, sl, h, j, q.bind fun x h1 F1 ι1 H1 v l1 j1 r1 q1 => ?_⟩
    cases r1 with
    | int i => exact ⟨i, rfl, q1.ret j1 (RKd.of (.int _))⟩
    | _ => exact False.elim q1
  | .not a p, X, Z, n, k, ok => PE.never fun σ H Q ⟨e0, F, ι, sl, h, j, q⟩ => q
  | .notV a p, X, Z, n, k, ok => by
    refine PE.imp (pe_notT (E.pe a X Z n true ok)) ?_
    rintro σ H Q ⟨e0, F, ι, sl, h, j, q⟩
    refine ⟨e0, F, ι, sl, h, j, q.bind fun x h1 F1 ι1 H1 v l1 j1 r1 q1 => ?_⟩
    obtain ⟨w, e, q2⟩ := q1.opt
    cases ht : truW (x.now h1) with
    | none => rw [ht] at e; cases e
    | some d =>
      rw [ht] at e
      cases e
      exact ⟨d, tru_of j1.hr.sub (j1.now r1.op) ht, q2.ret j1 (RKd.of (.bl _))⟩
  | .bop op es p, X, Z, n, k, ok => Es.pbo es X Z n k op p ok
  | .cmp op a b p, X, Z, n, k, ok => by
    obtain ⟨o1, o2⟩ := and_ok (show (a.okE c X.env.scope && b.okE c X.env.scope) = true from ok)
    have hu := n.un
    refine PE.imp (pe_cmpR (cmp_ok op (by omega)) (E.pe a X Z n true o1) (E.pe b X Z n true o2) (marks_un _ b)) ?_
    rintro σ H Q ⟨e0, F, ι, sl, h, j, q⟩
    refine ⟨e0, F, ι, sl, h, j, q.bind fun x h1 F1 ι1 H1 v l1 j1 r1 q1 => ⟨e0, F1, ι1, sl, h1, j1, q1.bind fun y h2 F2 ι2 H2 u l2 j2 r2 q2 => ?_⟩⟩
    obtain ⟨w, e, q3⟩ := q2.opt
    cases ht : cmpW op (x.now h2) (y.now h2) with
    | none => rw [ht] at e; cases e
    | some d =>
      rw [ht] at e
      cases e
      exact ⟨F2, ι2, h2, _, _, d, j2.hr, j2.now (r1.mono l2).op, j2.now r2.op, ht, q3.ret j2 (RKd.of (.bl d))⟩
  | .chain op op' a b d p, X, Z, n, k, ok => by
    obtain ⟨o1, o2⟩ := and_ok (show (a.okE c X.env.scope && (b.okE c X.env.scope && d.okE c X.env.scope)) = true from ok)
    obtain ⟨o2, o3⟩ := and_ok o2
    have hu := n.un
    refine PE.imp (pe_chain (cmp_ok op (by omega)) (cmp_ok op' (by omega)) (E.pe a X Z n false o1) (E.pe b X Z n false o2) (E.pe d X Z n false o3) (marks_un _ d)) ?_
    rintro σ H Q ⟨e0, F, ι, sl, h, j, q⟩
    refine ⟨e0, F, ι, sl, h, j, q.bind fun x h1 F1 ι1 H1 v l1 j1 r1 q1 => ⟨e0, F1, ι1, sl, h1, j1, q1.bind fun y h2 F2 ι2 H2 u l2 j2 r2 q2 => ?_⟩⟩
    cases ht : cmpW op x y with
    | none => simp only [ht] at q2; exact False.elim q2
    | some g =>
      refine ⟨F2, ι2, h2, x, y, g, j2.hr, .inl (r1.mono l2), .inl r2, ht, g, rfl, ?_⟩
      cases g with
      | false =>
        simp only [ht] at q2
        simp only [Bool.false_eq_true, if_false]
        exact q2.ret j2 (RKd.of (.bl false))
      | true =>
        simp only [ht] at q2
        simp only [if_true]
        refine ⟨e0, F2, ι2, sl, h2, j2, q2.bind fun z h3 F3 ι3 H3 t l3 j3 r3 q3 => ?_⟩
        obtain ⟨w, e, q4⟩ := q3.opt
        cases ht2 : cmpW op' y z with
        | none => rw [ht2] at e; cases e
        | some g2 =>
          rw [ht2] at e
          cases e
          exact ⟨F3, ι3, h3, y, z, g2, j3.hr, .inl (r2.mono l3), .inl r3, ht2, q4.ret j3 (RKd.of (.bl g2))⟩
  | .ife t a b p, X, Z, n, k, ok => by
    obtain ⟨o1, o2⟩ := and_ok (show (t.okE c X.env.scope && (a.okE c X.env.scope && b.okE c X.env.scope)) = true from ok)
    obtain ⟨o2, o3⟩ := and_ok o2
    refine PE.imp (pe_ifExp (E.pt t X Z n o1) (E.pe a X Z n false o2) (E.pe b X Z n false o3)) ?_
    rintro σ H Q ⟨e0, F, ι, sl, h, j, q⟩
    refine ⟨e0, F, ι, sl, h, j, q.bind fun x h1 F1 ι1 H1 v l1 j1 r1 q1 => ?_⟩
    subst r1
    cases x with
    | true =>
      simp only [if_true]
      exact ⟨e0, F1, ι1, sl, h1, j1, Po.imp q1 fun _ _ _ _ r => RKd.of r⟩
    | false =>
      simp only [Bool.false_eq_true, if_false]
      exact ⟨e0, F1, ι1, sl, h1, j1, Po.imp q1 fun _ _ _ _ r => RKd.of r⟩
  | .call i x xp es p, X, Z, n, k, ok => by
    obtain ⟨o1, o2⟩ := and_ok (show (decide (c.fs i = some x) && (glB X.env.scope x && (nmB x && es.okE c X.env.scope))) = true from ok)
    obtain ⟨o2, o3⟩ := and_ok o2
    obtain ⟨o3, o4⟩ := and_ok o3
    refine PE.imp (call_pe n (of_decide_eq_true o1) o2 o3 (Es.pa es X Z n false o4)) ?_
    rintro σ H Q ⟨e0, F, ι, sl, h, j, q⟩
    exact ⟨e0, F, ι, sl, h, j, Po.imp q fun _ _ _ _ r => RKd.of r⟩
  | .callK i x xp es ks p, X, Z, n, k, ok => by
    obtain ⟨o1, o2⟩ := and_ok (show (decide (c.fs i = some x) && (glB X.env.scope x && (nmB x && (decide ((i, es.len, ks.names) ∈ c.kws) && (es.okE c X.env.scope && ks.okE c X.env.scope))))) = true from ok)
    obtain ⟨o2, o3⟩ := and_ok o2
    obtain ⟨o3, o4⟩ := and_ok o3
    obtain ⟨o4, o5⟩ := and_ok o4
    obtain ⟨o5, o6⟩ := and_ok o5
    refine PE.imp (callK_pe n (of_decide_eq_true o1) o2 o3 (of_decide_eq_true o4) (Es.pa es X Z n false o5) (Ks.pk ks X Z n o6)) ?_
    rintro σ H Q ⟨e0, F, ι, sl, h, j, q⟩
    exact ⟨e0, F, ι, sl, h, j, Po.imp q fun _ _ _ _ r => RKd.of r⟩
  | .blt b xp es p, X, Z, n, k, ok => by
    obtain ⟨o1, o2⟩ := and_ok (show (glB X.env.scope b.nm && (!es.isNil && es.okE c X.env.scope)) = true from ok)
    obtain ⟨o2, o3⟩ := and_ok o2
    have ha := Es.pa es X Z n true o3
    cases es with
    | nil => cases o2
    | cons e es =>
      refine PE.imp (pe_bt b n.calm n.gd n.un (glB_ok o1) (n.bt b) ha (star_un e es.un) (plain_un p es)) ?_
      rintro σ H Q ⟨e0, F, ι, sl, h, j, q⟩
      refine ⟨e0, F, ι, sl, h, j, q.bind fun ws h1 F1 ι1 H1 vs l1 j1 r1 q1 => ?_⟩
      obtain ⟨w, e, q2⟩ := q1.opt
      exact ⟨F1, ι1, h1, _, w, j1.hr, r1.rns j1, e, fun F' H' v x hr rv => q2 F' ι1 H' v x.le (j1.step x hr) (RKd.of rv)⟩
  | .isi a t xp tp p, X, Z, n, k, ok => by
    obtain ⟨o1, o2⟩ := and_ok (show (glB X.env.scope "isinstance" && (glB X.env.scope t.nm && (t.isB && a.okE c X.env.scope))) = true from ok)
    obtain ⟨o2, o3⟩ := and_ok o2
    obtain ⟨o3, o4⟩ := and_ok o3
    have pt : PE X (.Name t.nm tp) (tC (.ty t.s)) := pe_bltn (glB_ok o2) (n.ty t) (ty_boot t o3) rfl (ty_name t).1 (ty_name t).2
    refine PE.imp (pe_callB call_isi (glB_ok o1) n.isi boot_isinstance (pa_cons (E.pe a X Z n false o4) (pa_cons pt pa_nil rfl) (star_un a _)) (by decide +kernel) (by decide +kernel) (star_un a _) rfl) ?_
    rintro σ H Q ⟨e0, F, ι, sl, h, j, q⟩
    refine ⟨e0, F, ι, sl, h, j, q.bind fun w h1 F1 ι1 H1 v l1 j1 r1 q1 => ?_⟩
    obtain ⟨w', e, q2⟩ := q1.opt
    cases ht : tyW h1 w with
    | none => rw [ht] at e; cases e
    | some y =>
      rw [ht] at e
      cases e
      exact ⟨v, _, _, _, _, rfl, .ty t.s, tyX_of j1.hr r1 ht, isTy_ty y t, q2.ret j1 (RKd.of (.bl _))⟩
  | .isiT a t p1 u p2 m xp tp p, X, Z, n, k, ok => by
    obtain ⟨o1, o2⟩ := and_ok (show (glB X.env.scope "isinstance" && (glB X.env.scope t.nm && (t.isB && (glB X.env.scope u.nm && (u.isB && a.okE c X.env.scope))))) = true from ok)
    obtain ⟨o2, o3⟩ := and_ok o2
    obtain ⟨o3, o4⟩ := and_ok o3
    obtain ⟨o4, o5⟩ := and_ok o4
    obtain ⟨o5, o6⟩ := and_ok o5
    have pt : PE X (.Name t.nm p1) (tC (.ty t.s)) := pe_bltn (glB_ok o2) (n.ty t) (ty_boot t o3) rfl (ty_name t).1 (ty_name t).2
    have pu : PE X (.Name u.nm p2) (tC (.ty u.s)) := pe_bltn (glB_ok o4) (n.ty u) (ty_boot u o5) rfl (ty_name u).1 (ty_name u).2
    have pp : PE X (.Tuple [.Name t.nm p1, .Name u.nm p2] m tp) (tTup (tCons (tC (.ty t.s)) (tCons (tC (.ty u.s)) tNil))) := pe_tup (pa_cons pt (pa_cons pu pa_nil rfl) rfl)
    refine PE.imp (pe_callB call_isiT (glB_ok o1) n.isi boot_isinstance (pa_cons (E.pe a X Z n false o6) (pa_cons pp pa_nil rfl) (star_un a _)) (by decide +kernel) (by decide +kernel) (star_un a _) rfl) ?_
    rintro σ H Q ⟨e0, F, ι, sl, h, j, q⟩
    refine ⟨e0, F, ι, sl, h, j, q.bind fun w h1 F1 ι1 H1 v l1 j1 r1 q1 => ?_⟩
    refine ⟨by show 2 ≤ sizeLine; rw [sizeLine_eq]; omega, fun T hT => ?_⟩
    have j2 := j1.loose (o := .tup [.ty t.s, .ty u.s]) hT
    obtain ⟨w', e, q2⟩ := q1.opt
    cases ht : tyW h1 w with
    | none => rw [ht] at e; cases e
    | some y =>
      rw [ht] at e
      cases e
      exact ⟨v, T, _, _, _, _, rfl, upd_same, .cons (.ty t.s) (.cons (.ty u.s) .nil), tyX_of j2.hr r1 ht, isTy_two y t u, q2.ret j2 (RKd.of (.bl _))⟩
  | .sub a i p, X, Z, n, k, ok => by
    obtain ⟨o1, o2⟩ := and_ok (show (a.okE c X.env.scope && i.okE c X.env.scope) = true from ok)
    have hu := n.un
    refine PE.imp (pe_ix (ix_seq.or (ix_dic (by omega))) (E.pe a X Z n true o1) (E.pe i X Z n false o2) (fun o v => plainIx_un i o v)) ?_
    rintro σ H Q ⟨e0, F, ι, sl, h, j, q⟩
    refine ⟨e0, F, ι, sl, h, j, q.bind fun x h1 F1 ι1 H1 v l1 j1 r1 q1 => ⟨e0, F1, ι1, sl, h1, j1, q1.bind fun y h2 F2 ι2 H2 u l2 j2 r2 q2 => ?_⟩⟩
    obtain ⟨w, e, q3⟩ := q2.opt
    exact ix_of j2 (j2.now (r1.mono l2).op) r2 e fun v rv => q3.ret j2 (RKd.of rv)
  | .slc a lo hi sp p, X, Z, n, k, ok => by
    obtain ⟨o1, o2⟩ := and_ok (show (a.okE c X.env.scope && (lo.okE c X.env.scope && hi.okE c X.env.scope)) = true from ok)
    obtain ⟨o2, o3⟩ := and_ok o2
    refine PE.imp (pe_slice (sl_list.or sl_tup) (E.pe a X Z n true o1) (Eo.po lo X Z n o2) (Eo.po hi X Z n o3)) ?_
    rintro σ H Q ⟨e0, F, ι, sl, h, j, q⟩
    refine ⟨e0, F, ι, sl, h, j, q.bind fun x h1 F1 ι1 H1 v l1 j1 r1 q1 => ⟨e0, F1, ι1, sl, h1, j1, q1.bind fun y h2 F2 ι2 H2 u l2 j2 r2 q2 => ⟨e0, F2, ι2, sl, h2, j2, q2.bind fun z h3 F3 ι3 H3 t l3 j3 r3 q3 => ?_⟩⟩⟩
    subst r2
    subst r3
    obtain ⟨w, e, q4⟩ := q3.opt
    have rn := j3.now ((r1.mono l2).mono l3).op
    cases hx : x.now h3 with
    | lst ws =>
      rw [hx] at e rn
      cases e
      obtain ⟨a, vs, rfl, ha, rv⟩ := rn.lst j3.hr.sub
      refine .inl ⟨a, vs, rfl, .inl (.inl ha), fun p hp => ?_⟩
      have rc := rv.cutR y z
      exact q4 _ _ _ (.ref p) (j3.newLe (o := .lst (cutV vs y z)) hp) (j3.new hp) (RKd.of (.lst upd_same (rc.mono (j3.newLe hp))))
    | tup ws =>
      rw [hx] at e rn
      have e : (match decide (HT.sIx ws.length 0 y = 0) && decide (HT.sIx ws.length ws.length z = ws.length) with | true => none | false => some (W.tup (cut ws y z))) = some w := e
      split at e
      · cases e
      · rename_i hw
        cases e
        have r := rn.rv (fun _ z => by cases z)
        cases r with
        | @tup _ a vs sq rv =>
          refine .inr ⟨a, vs, rfl, sqT_mono j3.hr.sub sq, fun ⟨z1, z2⟩ => ?_, fun p hp => ?_⟩
          · rw [← rv.length] at z1 z2
            rw [decide_eq_true z1, decide_eq_true z2] at hw
            cases hw
          · have rc := rv.cutR y z
            exact q4 _ _ _ (.ref p) (j3.newLe (o := .tup (cutV vs y z)) hp) (j3.new hp) (RKd.of (.tup (.inl (.inl upd_same)) (rc.mono (j3.newLe hp))))
    | _ => rw [hx] at e; cases e
  | .lc e tg it t vs sc p, X, Z, n, k, ok => by
    obtain ⟨o1, o2⟩ := and_ok (show (blkC c.N X.env.scope sc vs && (tgIt tg it && (it.okE c X.env.scope && (tg.okC c (relS sc X.env.scope) (ixs vs) && (e.okE c (relS sc X.env.scope) && t.okE c (relS sc X.env.scope)))))) = true from ok)
    obtain ⟨o2, o3⟩ := and_ok o2
    obtain ⟨o3, o4⟩ := and_ok o3
    obtain ⟨o4, o5⟩ := and_ok o4
    obtain ⟨o5, o6⟩ := and_ok o5
    refine PE.imp (lc_of (e := e) (sc := sc) (p := p) n o1 o4 (It.pi it X Z n tg o2 o3) (fun s H C cl fp => Eo.pt t (X.blk s H sc (compEnvC sc cl C X.env) fp) nox (n.blk ..) o6)
      (fun s H C cl fp => E.pe e (X.blk s H sc (compEnvC sc cl C X.env) fp) nox (n.blk ..) false o5)) ?_
    rintro σ H Q ⟨e0, F, ι, sl, h, j, q⟩
    exact ⟨e0, F, ι, sl, h, j, PoF.of q⟩
theorem Es.pa {D : Dn} {c : Oc} : ∀ (es : Es) (X : Cx) (Z : WX) (n : Cn X Z D c) (k : Bool), es.okE c X.env.scope = true → PA X es.un (tA X Z k (es.den D k))
  | .nil, X, Z, n, k, ok => PA.imp pa_nil fun σ H Q ⟨e0, F, ι, sl, h, j, q⟩ => q.ret j .nil
  | .cons e es, X, Z, n, k, ok => by
    obtain ⟨o1, o2⟩ := and_ok (show (e.okE c X.env.scope && es.okE c X.env.scope) = true from ok)
    refine PA.imp (pa_cons (E.pe e X Z n k o1) (Es.pa es X Z n k o2) (star_un e _)) ?_
    rintro σ H Q ⟨e0, F, ι, sl, h, j, q⟩
    exact ⟨e0, F, ι, sl, h, j, q.bind fun w h1 F1 ι1 H1 v l1 j1 r1 q1 => ⟨e0, F1, ι1, sl, h1, j1, q1.bind fun ws h2 F2 ι2 H2 us l2 j2 r2 q2 => q2.ret j2 (.cons (r1.mono l2) r2)⟩⟩
theorem Es.pp {D : Dn} {c : Oc} : ∀ (es : Es) (X : Cx) (Z : WX) (n : Cn X Z D c) (ks : List (Str × Nat × Pos)) (p : Pos), ks.length = es.len → es.okE c X.env.scope = true → PPs X p (ks.map fun k => some (.Constant (.str k.1) k.2.1 k.2.2)) es.un (prs X Z D ks es)
  | .nil, X, Z, n, [], p, hl, ok => pps_nil
  | .nil, X, Z, n, _ :: _, p, hl, ok => by cases hl
  | .cons e es, X, Z, n, [], p, hl, ok => by cases hl
  | .cons e es, X, Z, n, k :: ks, p, hl, ok => by
    obtain ⟨o1, o2⟩ := and_ok (show (e.okE c X.env.scope && es.okE c X.env.scope) = true from ok)
    exact pps_cons pe_str (E.pe e X Z n false o1) (Es.pp es X Z n ks p (Nat.succ.inj hl) o2)
theorem Ks.pk {D : Dn} {c : Oc} : ∀ (ks : Ks) (X : Cx) (Z : WX) (n : Cn X Z D c), ks.okE c X.env.scope = true → PK X ks.un (tK X Z ks.names (ks.den D))
  | .nil, X, Z, n, ok => PK.imp pk_nil fun σ H Q ⟨e0, F, ι, sl, h, j, q⟩ => q.ret j ⟨rfl, .nil⟩
  | .cons x e p ks, X, Z, n, ok => by
    obtain ⟨o1, o2⟩ := and_ok (show (e.okE c X.env.scope && ks.okE c X.env.scope) = true from ok)
    refine PK.imp (pk_cons (E.pe e X Z n false o1) (Ks.pk ks X Z n o2)) ?_
    rintro σ H Q ⟨e0, F, ι, sl, h, j, q⟩
    exact ⟨e0, F, ι, sl, h, j, q.bind fun w h1 F1 ι1 H1 v l1 j1 r1 q1 => ⟨e0, F1, ι1, sl, h1, j1, q1.bind fun ws h2 F2 ι2 H2 us l2 j2 r2 q2 => q2.ret j2 ⟨congrArg (x :: ·) r2.1, .cons (r1.mono l2) r2.2⟩⟩⟩
theorem Eo.po {D : Dn} {c : Oc} : ∀ (o : Eo) (X : Cx) (Z : WX) (n : Cn X Z D c), o.okE c X.env.scope = true → PO X o.un (tI X Z (o.den D))
  | .non, X, Z, n, ok => PO.imp po_none fun σ H Q ⟨e0, F, ι, sl, h, j, q⟩ => q.ret j rfl
  | .some e, X, Z, n, ok => by
    refine PO.imp (po_some (E.pe e X Z n false ok)) ?_
    rintro σ H Q ⟨e0, F, ι, sl, h, j, q⟩
    refine ⟨e0, F, ι, sl, h, j, q.bind fun x h1 F1 ι1 H1 v l1 j1 r1 q1 => ?_⟩
    cases r1 with
    | int i => exact ⟨i, rfl, q1.ret j1 rfl⟩
    | _ => exact False.elim q1
theorem Eo.pt {D : Dn} {c : Oc} : ∀ (o : Eo) (X : Cx) (Z : WX) (n : Cn X Z D c), o.okE c X.env.scope = true → PTs X o.uns (tT X Z (o.tst D))
  | .non, X, Z, n, ok => ⟨fun pins s σ H Q I ⟨e0, F, ι, sl, h, j, q⟩ => pts_nil.run pins s σ H Q I (q.ret j rfl)⟩
  | .some e, X, Z, n, ok => pts_one (E.pt e X Z n ok)
theorem Es.pbo {D : Dn} {c : Oc} : ∀ (es : Es) (X : Cx) (Z : WX) (n : Cn X Z D c) (k : Bool) (op : BoolOp) (p : Pos), es.okE c X.env.scope = true → PE X (.BoolOp op es.un p) (tE X Z k (es.bo D op))
  | .nil, X, Z, n, k, op, p, ok => PE.never fun σ H Q ⟨e0, F, ι, sl, h, j, q⟩ => q
  | .cons e .nil, X, Z, n, k, op, p, ok => by
    obtain ⟨o1, o2⟩ := and_ok (show (e.okE c X.env.scope && Es.okE c X.env.scope .nil) = true from ok)
    refine PE.imp (pe_one (E.pe e X Z n false o1)) ?_
    rintro σ H Q ⟨e0, F, ι, sl, h, j, q⟩
    exact ⟨e0, F, ι, sl, h, j, q.bind fun x h1 F1 ι1 H1 v l1 j1 r1 q1 => q1.ret j1 (RKd.of r1)⟩
  | .cons e (.cons e2 es), X, Z, n, k, op, p, ok => by
    obtain ⟨o1, o2⟩ := and_ok (show (e.okE c X.env.scope && Es.okE c X.env.scope (.cons e2 es)) = true from ok)
    have h1 := E.pe e X Z n false o1
    have h2 := Es.pbo (.cons e2 es) X Z n k op p o2
    cases op with
    | And =>
      refine PE.imp (pe_and h1 h2) ?_
      rintro σ H Q ⟨e0, F, ι, sl, h, j, q⟩
      refine ⟨e0, F, ι, sl, h, j, q.bind fun x h1 F1 ι1 H1 v l1 j1 r1 q1 => ?_⟩
      cases r1 with
      | bl b =>
        refine ⟨b, rfl, ?_⟩
        cases b with
        | true => exact ⟨e0, F1, ι1, sl, h1, j1, q1⟩
        | false => exact Po.ret (show Po (bx X Z e0) F1 ι1 sl σ (RKd X.K sl σ k) (.ok (.bl false) h1) Q from q1) j1 (RKd.of (.bl false))
      | _ => exact False.elim q1
    | Or =>
      refine PE.imp (pe_or h1 h2) ?_
      rintro σ H Q ⟨e0, F, ι, sl, h, j, q⟩
      refine ⟨e0, F, ι, sl, h, j, q.bind fun x h1 F1 ι1 H1 v l1 j1 r1 q1 => ?_⟩
      cases r1 with
      | bl b =>
        refine ⟨b, rfl, ?_⟩
        cases b with
        | false => exact ⟨e0, F1, ι1, sl, h1, j1, q1⟩
        | true => exact Po.ret (show Po (bx X Z e0) F1 ι1 sl σ (RKd X.K sl σ k) (.ok (.bl true) h1) Q from q1) j1 (RKd.of (.bl true))
      | _ => exact False.elim q1
theorem Es.pw {D : Dn} {c : Oc} : ∀ (es : Es) (X : Cx) (Z : WX) (n : Cn X Z D c) (op : BoolOp) (p : Pos), es.okE c X.env.scope = true → PW X (.BoolOp op es.un p) (tT X Z (es.bt D op))
  | .nil, X, Z, n, op, p, ok => ⟨fun wh pins s σ H Q I ⟨e0, F, ι, sl, h, j, q⟩ => False.elim q⟩
  | .cons e .nil, X, Z, n, op, p, ok => by
    obtain ⟨o1, o2⟩ := and_ok (show (e.okE c X.env.scope && Es.okE c X.env.scope .nil) = true from ok)
    have h1 := E.pt e X Z n o1
    have go : ∀ σ H Q, tT X Z (Es.bt D op (.cons e .nil)) σ H Q → tT X Z (fun σ h => e.tst D σ h) σ H Q := by
      rintro σ H Q ⟨e0, F, ι, sl, h, j, q⟩
      refine ⟨e0, F, ι, sl, h, j, q.bind fun x h1 F1 ι1 H1 v l1 j1 r1 q1 => ?_⟩
      subst r1
      exact q1.ret j1 rfl
    cases op with
    | And => exact PW.imp (pw_and1 h1) go
    | Or => exact PW.imp (pw_or1 h1) go
  | .cons e (.cons e2 es), X, Z, n, op, p, ok => by
    obtain ⟨o1, o2⟩ := and_ok (show (e.okE c X.env.scope && Es.okE c X.env.scope (.cons e2 es)) = true from ok)
    have h1 := E.pt e X Z n o1
    have h2 := Es.pw (.cons e2 es) X Z n op p o2
    cases op with
    | And =>
      refine PW.imp (pw_and h1 h2) ?_
      rintro σ H Q ⟨e0, F, ι, sl, h, j, q⟩
      refine ⟨e0, F, ι, sl, h, j, q.bind fun x h1 F1 ι1 H1 v l1 j1 r1 q1 => ?_⟩
      subst r1
      cases x with
      | true => exact ⟨e0, F1, ι1, sl, h1, j1, q1⟩
      | false => exact Po.ret (show Po (bx X Z e0) F1 ι1 sl σ (fun _ _ a v => a = v) (.ok false h1) Q from q1) j1 rfl
    | Or =>
      refine PW.imp (pw_or h1 h2) ?_
      rintro σ H Q ⟨e0, F, ι, sl, h, j, q⟩
      refine ⟨e0, F, ι, sl, h, j, q.bind fun x h1 F1 ι1 H1 v l1 j1 r1 q1 => ?_⟩
      subst r1
      cases x with
      | false => exact ⟨e0, F1, ι1, sl, h1, j1, q1⟩
      | true => exact Po.ret (show Po (bx X Z e0) F1 ι1 sl σ (fun _ _ a v => a = v) (.ok true h1) Q from q1) j1 rfl
theorem E.pt {D : Dn} {c : Oc} : ∀ (e : E) (X : Cx) (Z : WX) (n : Cn X Z D c), e.okE c X.env.scope = true → PT X e.un (tT X Z (e.tst D))
  | .tr e, X, Z, n, ok => by
    obtain ⟨o1, o2⟩ := and_ok (show (e.plainT && e.okE c X.env.scope) = true from ok)
    refine PT.imp (pt_truth (E.pe e X Z n true o2) (isTrue_un e o1)) ?_
    rintro σ H Q ⟨e0, F, ι, sl, h, j, q⟩
    refine ⟨e0, F, ι, sl, h, j, q.bind fun x h1 F1 ι1 H1 v l1 j1 r1 q1 => ?_⟩
    obtain ⟨d, e, q2⟩ := q1.opt
    exact ⟨d, tru_of j1.hr.sub (j1.now r1.op) e, q2.ret j1 rfl⟩
  | .not a p, X, Z, n, ok => by
    refine PT.imp (pt_not (E.pt a X Z n ok)) ?_
    rintro σ H Q ⟨e0, F, ι, sl, h, j, q⟩
    refine ⟨e0, F, ι, sl, h, j, q.bind fun x h1 F1 ι1 H1 v l1 j1 r1 q1 => ?_⟩
    subst r1
    exact q1.ret j1 rfl
  | .bop op es p, X, Z, n, ok => (Es.pw es X Z n op p ok).pt
  | .cmp op a b p, X, Z, n, ok => by
    obtain ⟨o1, o2⟩ := and_ok (show (a.okE c X.env.scope && b.okE c X.env.scope) = true from ok)
    have hu := n.un
    refine PT.imp (pt_cmpR (cmp_ok op (by omega)) (E.pe a X Z n true o1) (E.pe b X Z n true o2) (marks_un _ b)) ?_
    rintro σ H Q ⟨e0, F, ι, sl, h, j, q⟩
    refine ⟨e0, F, ι, sl, h, j, q.bind fun x h1 F1 ι1 H1 v l1 j1 r1 q1 => ⟨e0, F1, ι1, sl, h1, j1, q1.bind fun y h2 F2 ι2 H2 u l2 j2 r2 q2 => ?_⟩⟩
    obtain ⟨d, e, q3⟩ := q2.opt
    exact ⟨F2, ι2, h2, _, _, d, j2.hr, j2.now (r1.mono l2).op, j2.now r2.op, e, d, rfl, q3.ret j2 rfl⟩
  | .chain op op' a b d p, X, Z, n, ok => by
    obtain ⟨o1, o2⟩ := and_ok (show (a.okE c X.env.scope && (b.okE c X.env.scope && d.okE c X.env.scope)) = true from ok)
    obtain ⟨o2, o3⟩ := and_ok o2
    have hu := n.un
    refine PT.imp (pt_chain (cmp_ok op (by omega)) (cmp_ok op' (by omega)) (E.pe a X Z n false o1) (E.pe b X Z n false o2) (E.pe d X Z n false o3) (marks_un _ d)) ?_
    rintro σ H Q ⟨e0, F, ι, sl, h, j, q⟩
    refine ⟨e0, F, ι, sl, h, j, q.bind fun x h1 F1 ι1 H1 v l1 j1 r1 q1 => ⟨e0, F1, ι1, sl, h1, j1, q1.bind fun y h2 F2 ι2 H2 u l2 j2 r2 q2 => ?_⟩⟩
    cases ht : cmpW op x y with
    | none => simp only [ht] at q2; exact False.elim q2
    | some g =>
      refine ⟨F2, ι2, h2, x, y, g, j2.hr, .inl (r1.mono l2), .inl r2, ht, g, rfl, ?_⟩
      cases g with
      | false =>
        simp only [ht] at q2
        simp only [Bool.false_eq_true, if_false]
        exact ⟨false, rfl, q2.ret j2 rfl⟩
      | true =>
        simp only [ht] at q2
        simp only [if_true]
        refine ⟨e0, F2, ι2, sl, h2, j2, q2.bind fun z h3 F3 ι3 H3 t l3 j3 r3 q3 => ?_⟩
        obtain ⟨g2, e, q4⟩ := q3.opt
        exact ⟨F3, ι3, h3, y, z, g2, j3.hr, .inl (r2.mono l3), .inl r3, e, g2, rfl, q4.ret j3 rfl⟩
  | .din ng a x xp p, X, Z, n, ok => by
    obtain ⟨h1, h2⟩ := and_ok (show (glB X.env.scope x && (nmB x && a.okE c X.env.scope)) = true from ok)
    obtain ⟨h2, h3⟩ := and_ok h2
    have ha := E.pe a X Z n false h3
    rcases dic_or (D.cst x) with ⟨kvs, hx⟩ | hx
    · obtain ⟨d, es, m, hm, KD, look⟩ := n.dic x kvs hx
      have pn : PE X (.Name x xp) (tC (.ref d)) := pe_glob (v := .ref d) (glB_ok h1) hm rfl (nmB_ok h2).1
      cases ng with
      | false =>
        refine PT.imp (pt_cmpR (op_in_kd KD) ha pn rfl) ?_
        rintro σ H Q ⟨e0, F, ι, sl, h, j, q⟩
        simp only [E.tst, hx] at q
        refine ⟨e0, F, ι, sl, h, j, q.bind fun y h1 F1 ι1 H1 v l1 j1 r1 q1 => ?_⟩
        cases r1 with
        | str s =>
          obtain ⟨r, hr, er⟩ := in_kd (look s)
          exact ⟨s, r, rfl, rfl, hr, _, rfl, by rw [er]; exact Po.ret q1 j1 (by rw [Bool.bne_false])⟩
        | _ => exact False.elim q1
      | true =>
        refine PT.imp (pt_cmpR (op_notIn_kd KD) ha pn rfl) ?_
        rintro σ H Q ⟨e0, F, ι, sl, h, j, q⟩
        simp only [E.tst, hx] at q
        refine ⟨e0, F, ι, sl, h, j, q.bind fun y h1 F1 ι1 H1 v l1 j1 r1 q1 => ?_⟩
        cases r1 with
        | str s =>
          obtain ⟨r, hr, er⟩ := in_kd (look s)
          exact ⟨s, r, rfl, rfl, hr, _, rfl, by rw [er]; exact Po.ret q1 j1 (by rw [Bool.bne_true])⟩
        | _ => exact False.elim q1
    · refine PT.never fun σ H Q ⟨e0, F, ι, sl, h, j, q⟩ => ?_
      simp only [E.tst] at q
      exact q
  | .dget .., X, Z, n, ok | .srt .., X, Z, n, ok | .dicH .., X, Z, n, ok | .name .., X, Z, n, ok | .peek .., X, Z, n, ok | .cst .., X, Z, n, ok | .int .., X, Z, n, ok | .str .., X, Z, n, ok | .bl .., X, Z, n, ok | .non .., X, Z, n, ok | .tup .., X, Z, n, ok | .lst .., X, Z, n, ok | .lstH .., X, Z, n, ok | .emp .., X, Z, n, ok | .bin .., X, Z, n, ok | .neg .., X, Z, n, ok | .notV .., X, Z, n, ok | .ife .., X, Z, n, ok | .call .., X, Z, n, ok | .callK .., X, Z, n, ok | .blt .., X, Z, n, ok | .isi .., X, Z, n, ok | .isiT .., X, Z, n, ok | .sub .., X, Z, n, ok | .slc .., X, Z, n, ok | .lc .., X, Z, n, ok => PT.never fun σ H Q ⟨e0, F, ι, sl, h, j, q⟩ => q
theorem It.pi {D : Dn} {c : Oc} : ∀ (it : It) (X : Cx) (Z : WX) (n : Cn X Z D c) (tg : Tg), tgIt tg it = true → it.okE c X.env.scope = true → PI X tg.un it.un (tWk X Z (it.den D))
  | .seq e, X, Z, n, tg, tk, ok => by
    refine PI.imp (pi_seq (E.pe e X Z n false ok)) ?_
    rintro σ H Q ⟨e0, F, ι, sl, h, j, q⟩
    refine ⟨e0, F, ι, sl, h, j, q.bind fun x h1 F1 ι1 H1 v l1 j1 r1 q1 => ?_⟩
    obtain ⟨ws, e, q2⟩ := q1.opt
    cases r1 with
    | lst e1 rv =>
      cases e
      exact ⟨_, rfl, .inl ⟨⟨_, .inl (.inl (j1.hr.sub _ _ e1))⟩, q2.ret j1 (wk_list (.inl (.inl e1)) rv)⟩⟩
    | tup sq rv =>
      cases e
      exact ⟨_, rfl, .inr ⟨⟨_, sqT_mono j1.hr.sub sq⟩, q2.ret j1 (wk_tup sq rv)⟩⟩
    | scr sq =>
      cases e
      exact ⟨_, rfl, .inl ⟨⟨_, sqL_mono j1.hr.sub sq⟩, q2.ret j1 (wk_list sq (RVs.ints _))⟩⟩
    | _ => cases e
  | .rng xp es p, X, Z, n, tg, tk, ok => by
    obtain ⟨o1, o2⟩ := and_ok (show (glB X.env.scope "range" && es.okE c X.env.scope) = true from ok)
    have in_ok : ∀ {i : Int}, in62 i = true → -(2 ^ 62) ≤ i ∧ i < 2 ^ 62 := fun {i} hi => by
      obtain ⟨b1, b2⟩ := and_ok (show (decide (-(2 ^ 62) ≤ i) && decide (i < 2 ^ 62)) = true from hi)
      exact ⟨of_decide_eq_true b1, of_decide_eq_true b2⟩
    match es, o2 with
    | .nil, _ => exact ⟨fun pins s σ H Q I ⟨e0, F, ι, sl, h, j, q⟩ => False.elim q⟩
    | .cons e .nil, o2 =>
      obtain ⟨o2, _⟩ := and_ok (show (e.okE c X.env.scope && Es.okE c X.env.scope .nil) = true from o2)
      refine PI.imp (pi_range1 (glB_ok o1) n.rng (pa_cons (E.pe e X Z n false o2) pa_nil (star_un e _)) (star_un e _)) ?_
      rintro σ H Q ⟨e0, F, ι, sl, h, j, q⟩
      refine ⟨e0, F, ι, sl, h, j, q.bind fun x h1 F1 ι1 H1 v l1 j1 r1 q1 => ?_⟩
      cases r1 with
      | int i =>
        cases hi : in62 i with
        | false => simp only [rng1, hi] at q1; exact False.elim q1
        | true =>
          simp only [rng1, hi] at q1
          exact ⟨i, rfl, (in_ok hi).1, (in_ok hi).2, q1.ret j1 (wk_rng 0 _)⟩
      | _ => exact False.elim q1
    | .cons e (.cons e2 .nil), o2 =>
      obtain ⟨o2, o3⟩ := and_ok (show (e.okE c X.env.scope && Es.okE c X.env.scope (.cons e2 .nil)) = true from o2)
      obtain ⟨o3, _⟩ := and_ok (show (e2.okE c X.env.scope && Es.okE c X.env.scope .nil) = true from o3)
      refine PI.imp (pi_range2 (glB_ok o1) n.rng (pa_cons (E.pe e X Z n false o2) (pa_cons (E.pe e2 X Z n false o3) pa_nil (star_un e2 _)) (star_un e _)) (by rw [star_un, star_un]; rfl) (star_un e2 _)) ?_
      rintro σ H Q ⟨e0, F, ι, sl, h, j, q⟩
      refine ⟨e0, F, ι, sl, h, j, q.bind fun x h1 F1 ι1 H1 v l1 j1 r1 q1 => ⟨e0, F1, ι1, sl, h1, j1, q1.bind fun y h2 F2 ι2 H2 u l2 j2 r2 q2 => ?_⟩⟩
      cases r1 with
      | int i =>
        cases r2 with
        | int i2 =>
          cases hi : (in62 i && in62 i2) with
          | false => simp only [rng2, hi] at q2; exact False.elim q2
          | true =>
            obtain ⟨g1, g2⟩ := and_ok hi
            simp only [rng2, hi] at q2
            exact ⟨i, i2, rfl, ⟨(in_ok g1).1, (in_ok g1).2, (in_ok g2).1, (in_ok g2).2⟩, q2.ret j2 (wk_rng i _)⟩
        | _ => exact False.elim q2
      | _ => cases r2 <;> exact False.elim q2
    | .cons e (.cons e2 (.cons e3 es)), _ => exact ⟨fun pins s σ H Q I ⟨e0, F, ι, sl, h, j, q⟩ => False.elim q⟩
  | .enum xp e p, X, Z, n, tg, tk, ok => by
    obtain ⟨o1, o2⟩ := and_ok (show (glB X.env.scope "enumerate" && e.okE c X.env.scope) = true from ok)
    cases tg with
    | tup ts m tp =>
      refine PI.imp (pi_enum (glB_ok o1) n.enum (pa_cons (E.pe e X Z n false o2) pa_nil (star_un e _)) (star_un e _)) ?_
      rintro σ H Q ⟨e0, F, ι, sl, h, j, q⟩
      refine ⟨e0, F, ι, sl, h, j, q.bind fun x h1 F1 ι1 H1 v l1 j1 r1 q1 => ?_⟩
      cases r1 with
      | lst e1 rv => exact ⟨_, _, rfl, .inl (.inl (j1.hr.sub _ _ e1)), q1.ret j1 (wk_enum (.inl (.inl e1)) rv)⟩
      | _ => exact False.elim q1
    | _ => cases tk
  | .zip xp a b p, X, Z, n, tg, tk, ok => by
    obtain ⟨o1, o2⟩ := and_ok (show (glB X.env.scope "zip" && (a.okE c X.env.scope && b.okE c X.env.scope)) = true from ok)
    obtain ⟨o2, o3⟩ := and_ok o2
    cases tg with
    | tup ts m tp =>
      refine PI.imp (pi_zip (glB_ok o1) n.zip (pa_cons (E.pe a X Z n false o2) (pa_cons (E.pe b X Z n false o3) pa_nil (star_un b _)) (star_un a _)) (star_un a _) (by rw [star_un b]; rfl)) ?_
      rintro σ H Q ⟨e0, F, ι, sl, h, j, q⟩
      refine ⟨e0, F, ι, sl, h, j, q.bind fun x h1 F1 ι1 H1 v l1 j1 r1 q1 => ⟨e0, F1, ι1, sl, h1, j1, q1.bind fun y h2 F2 ι2 H2 u l2 j2 r2 q2 => ?_⟩⟩
      cases r1 with
      | lst e1 rv =>
        cases r2 with
        | lst e2 rv2 => exact ⟨_, _, _, _, rfl, .inl (.inl (j2.hr.sub _ _ (l2.f _ _ e1))), .inl (.inl (j2.hr.sub _ _ e2)), q2.ret j2 (wk_zip (.inl (.inl (l2.f _ _ e1))) (rv.mono l2) (.inl (.inl e2)) rv2)⟩
        | _ => exact False.elim q2
      | _ => cases r2 <;> exact False.elim q2
    | _ => cases tk
end
end Ev

set_option maxHeartbeats 1000000
namespace Ev
open PySem PySem.Spec PyProof.Rows L2

/-! ## what a statement is asked -/
def PoS (X : Cx) (Z : WX) (e0 : Ent) (F : Hp) (ι : List Addr) (r : Out) (G : Ends) : Prop := match r with
  | .nx s' h' => ∀ F' ι' σ' H', Le F ι F' ι' → J X.K e0 F' ι' s' h' σ' H' → G.nx σ' H'
  | .bk s' h' => ∀ F' ι' σ' H', Le F ι F' ι' → J X.K e0 F' ι' s' h' σ' H' → G.bk σ' H'
  | .ct s' h' => ∀ F' ι' σ' H', Le F ι F' ι' → J X.K e0 F' ι' s' h' σ' H' → G.ct σ' H'
  | .rt w h' => ∀ F' ι' s' σ' H' v, Le F ι F' ι' → J X.K e0 F' ι' s' h' σ' H' → RV X.K F' ι' w v → G.rt v H'
  | .exc x s' h' => ∀ F' ι' σ' H' cls d, Le F ι F' ι' → J X.K e0 F' ι' s' h' σ' H' → RX X.K X.mg F' ι' x cls d → Z cls d σ' H'
  | .bad => False
def tS (X : Cx) (Z : WX) (m : Sls → Obs → Out) : TS := fun G σ H => ∃ e0 F ι sl h, J X.K e0 F ι sl h σ H ∧ PoS X Z e0 F ι (m sl h) G
section
variable {X : Cx} {Z : WX} {e0 : Ent} {F F1 : Hp} {ι ι1 : List Addr} {sl : Sls} {σ : VS} {G : Ends} {β : Type}
theorem PoS.le {r : Out} (p : PoS X Z e0 F ι r G) (l : Le F ι F1 ι1) : PoS X Z e0 F1 ι1 r G := by
  cases r with
  | nx s' h' => exact fun F' ι' σ' H' l2 j => p F' ι' σ' H' (l.trans l2) j
  | bk s' h' => exact fun F' ι' σ' H' l2 j => p F' ι' σ' H' (l.trans l2) j
  | ct s' h' => exact fun F' ι' σ' H' l2 j => p F' ι' σ' H' (l.trans l2) j
  | rt w h' => exact fun F' ι' s' σ' H' v l2 j r => p F' ι' s' σ' H' v (l.trans l2) j r
  | exc x s' h' => exact fun F' ι' σ' H' cls d l2 j r => p F' ι' σ' H' cls d (l.trans l2) j r
  | bad => exact p
/-- a value, then the rest -/
theorem PoS.out {rel : Hp → List Addr → W → β → Prop} {r : R W} {f : W → Obs → Out} {Q1 : β → Hp → Prop} (p : PoS X Z e0 F ι (r.out sl f) G)
    (k : ∀ a h1 F1 ι1 H1 v, Le F ι F1 ι1 → J X.K e0 F1 ι1 sl h1 σ H1 → rel F1 ι1 a v → PoS X Z e0 F1 ι1 (f a h1) G → Q1 v H1) : Po (bx X Z e0) F ι sl σ rel r Q1 := by
  cases r with
  | ok a h => exact fun F1 ι1 H1 v l j q => k a h F1 ι1 H1 v l j q (PoS.le (show PoS X Z e0 F ι (f a h) G from p) l)
  | exc x h => exact fun F1 ι1 H1 cls d l j q => p F1 ι1 σ H1 cls d l j q
  | bad => exact p
/-- a test -/
theorem PoS.tst {r : R Bool} {f g : Obs → Out} {Q1 : Bool → Hp → Prop} (p : PoS X Z e0 F ι (match r with | .ok true h => f h | .ok false h => g h | .exc x h => .exc x sl h | .bad => .bad) G)
    (k : ∀ a h1 F1 ι1 H1, Le F ι F1 ι1 → J X.K e0 F1 ι1 sl h1 σ H1 → PoS X Z e0 F1 ι1 (match a with | true => f h1 | false => g h1) G → Q1 a H1) : Po (bx X Z e0) F ι sl σ (fun _ _ a v => a = v) r Q1 := by
  cases r with
  | ok a h =>
    intro F1 ι1 H1 v l j q
    subst q
    cases a with
    | true => exact k true h F1 ι1 H1 l j (PoS.le (show PoS X Z e0 F ι (f h) G from p) l)
    | false => exact k false h F1 ι1 H1 l j (PoS.le (show PoS X Z e0 F ι (g h) G from p) l)
  | exc x h => exact fun F1 ι1 H1 cls d l j q => p F1 ι1 σ H1 cls d l j q
  | bad => exact p
end
section
variable {X : Cx} {st : Stmt} {sts : List Stmt}
theorem PS.imp {t t' : TS} (h : PS X st t) (i : ∀ G σ H, t' G σ H → t G σ H) : PS X st t' := ⟨fun pins s σ H G I q => h.run pins s σ H G I (i G σ H q)⟩
theorem PS.never {t : TS} (n : ∀ G σ H, ¬ t G σ H) : PS X st t := ⟨fun pins s σ H G I q => absurd q (n G σ H)⟩
theorem PSs.imp {t t' : TS} (h : PSs X sts t) (i : ∀ G σ H, t' G σ H → t G σ H) : PSs X sts t' := ⟨fun pins s σ H G I q => h.run pins s σ H G I (i G σ H q)⟩
end

/-! ## what the syntax asks of a scope -/
def E.isLc : E → Bool
  | .tr e => e.isLc
  | .lc .. => true
  | _ => false
def E.isTup : E → Bool
  | .tr e => e.isTup
  | .tup .. => true
  | _ => false
def Tg.isName : Tg → Bool
  | .name .. => true
  | _ => false
def Tg.isTupT : Tg → Bool
  | .tup .. => true
  | _ => false
/-- one of the targets is no name -/
def Tgs.odd : Tgs → Bool
  | .nil => false
  | .cons t ts => !t.isName || ts.odd
def Tg.oddT : Tg → Bool
  | .tup ts _ _ => ts.odd
  | _ => false
def slotL (N : List Str) (sc : Scope) (x : Str) (i : Nat) : Bool := decide (N[i]? = some x) && locB sc x
mutual
def Tg.okT (c : Oc) (sc : Scope) : Tg → Bool
  | .name x i _ => slotL c.N sc x i
  | .tup ts _ _ => ts.okT c sc
  | .sub a i _ => a.okE c sc && i.okE c sc
def Tgs.okT (c : Oc) (sc : Scope) : Tgs → Bool
  | .nil => true
  | .cons t ts => t.okT c sc && ts.okT c sc
end
mutual
def S.okS (c : Oc) (sc : Scope) : S → Bool
  | .asg x i _ e _ => slotL c.N sc x i && e.okE c sc
  | .asgO x i _ e _ => slotL c.N sc x i && e.okE c sc
  | .par _ _ x i xp y j yp _ _ a b _ _ _ => slotL c.N sc x i && (slotL c.N sc y j && (decide (i ≠ j) && (decide (yp.line = xp.line) && ((!([a.un, b.un].all (foldedForSure 8)) && !([a.un, b.un].all (constantsAlone 8))) && (a.okE c sc && b.okE c sc)))))
  | .par3 x i xp y j yp z l zp _ _ a b d _ _ _ => slotL c.N sc x i && (slotL c.N sc y j && (slotL c.N sc z l && (decide (i ≠ j) && (decide (i ≠ l) && (decide (j ≠ l) && (decide (yp.line = xp.line) && (decide (zp.line = xp.line) && ((!([a.un, b.un, d.un].all (foldedForSure 8)) && !([a.un, b.un, d.un].all (constantsAlone 8))) && (a.okE c sc && (b.okE c sc && d.okE c sc))))))))))
  | .asgT t e _ => (!(t.isName && e.isLc) && (!(t.isTupT && e.isTup) || t.oddT)) && (t.okT c sc && e.okE c sc)
  | .pop t x i _ ap cp _ => (ap.endLine == cp.line) && (slotB c.N sc x i && t.okT c sc)
  | .app x i _ ap e cp _ => (ap.endLine == cp.line) && (slotB c.N sc x i && e.okE c sc)
  | .ext x i _ ap e cp _ => (ap.endLine == cp.line) && (slotB c.N sc x i && e.okE c sc)
  | .expr e _ => !e.isLc && e.okE c sc
  | .ret e _ => e.okE c sc
  | .retN _ => true
  | .ite t a b _ => t.okE c sc && (a.okS c sc && b.okS c sc)
  | .whl t b _ => t.okE c sc && b.okS c sc
  | .for t it b _ => tgIt t it && (t.okT c sc && (it.okE c sc && b.okS c sc))
  | .frz _ s => s.okS c sc
  | .opq _ => true
  | .pass _ => true | .brk _ => true | .cnt _ => true
def Ss.okS (c : Oc) (sc : Scope) : Ss → Bool
  | .nil => true
  | .cons s ss => s.okS c sc && ss.okS c sc
end
theorem slotL_ok {N : List Str} {sc : Scope} {x : Str} {i : Nat} (h : slotL N sc x i = true) : N[i]? = some x ∧ sc.names.lookup x = some .local := by
  obtain ⟨h1, h2⟩ := and_ok h
  exact ⟨of_decide_eq_true h1, locB_ok h2⟩
section
variable {env : Env}
theorem sw_un (t : Option Expr) (l : Nat) : ∀ (e : E), e.isLc = false → swapsWith e.un t l env = pure false
  | .tr e, h => sw_un t l e h
  | .lc .., h => by cases h
  | .name .., _ | .peek .., _ | .cst .., _ | .int .., _ | .str .., _ | .bl .., _ | .non .., _ | .tup .., _ | .lst .., _ | .lstH .., _ | .emp .., _ | .bin .., _ | .neg .., _ | .not .., _ | .notV .., _ | .bop .., _ | .cmp .., _ | .chain .., _ | .ife .., _ | .call .., _ | .callK .., _ | .blt .., _ | .isi .., _ | .isiT .., _ | .sub .., _ | .slc .., _ | .dget .., _ | .din .., _ | .dicH .., _ | .srt .., _ => rfl
theorem sw_tg (l : Nat) : ∀ (t : Tg) (e : E), (!(t.isName && e.isLc)) = true → swapsWithSole [t.un] e.un l env = pure false
  | .name x i p, e, h => show swapsWith e.un (some (.Name x p)) l env = pure false from sw_un (some (.Name x p)) l e (by
    cases q : e.isLc with
    | false => rfl
    | true =>
      have h : (!(true && e.isLc)) = true := h
      rw [q] at h
      cases h)
  | .tup ts k p, e, _ => show swapsWith e.un (some (Tg.un (.tup ts k p))) l env = pure false from sw_other l (Tg.un (.tup ts k p)) (fun _ _ z => by cases z) e
  | .sub a i p, e, _ => show swapsWith e.un (some (Tg.un (.sub a i p))) l env = pure false from sw_other l (Tg.un (.sub a i p)) (fun _ _ z => by cases z) e
where sw_other (l : Nat) (t : Expr) (ht : ∀ x p, t ≠ .Name x p) : ∀ e : E, swapsWith e.un (some t) l env = pure false
  | .tr e => sw_other l t ht e
  | .lc .. => by
    cases t <;> first | rfl | exact absurd rfl (ht _ _)
  | .name .. | .peek .. | .cst .. | .int .. | .str .. | .bl .. | .non .. | .tup .. | .lst .. | .lstH .. | .emp .. | .bin .. | .neg .. | .not .. | .notV .. | .bop .. | .cmp .. | .chain .. | .ife .. | .call .. | .callK .. | .blt .. | .isi .. | .isiT .. | .sub .. | .slc .. | .dget .. | .din .. | .dicH .. | .srt .. => rfl
theorem odd_len (f : Expr → Option Str) (hf : ∀ t : Tg, t.isName = false → f t.un = none) : ∀ ts : Tgs, (ts.un.filterMap f).length ≤ ts.un.length ∧ (ts.odd = true → (ts.un.filterMap f).length < ts.un.length)
  | .nil => ⟨Nat.le_refl _, fun h => by cases h⟩
  | .cons t ts => by
    obtain ⟨h1, h2⟩ := odd_len f hf ts
    have z : Tgs.un (.cons t ts) = t.un :: ts.un := rfl
    rw [z, List.filterMap_cons]
    cases q : t.isName with
    | false =>
      rw [hf t q]
      exact ⟨Nat.le_succ_of_le h1, fun _ => Nat.lt_succ_of_le h1⟩
    | true =>
      cases f t.un with
      | none => exact ⟨Nat.le_succ_of_le h1, fun _ => Nat.lt_succ_of_le h1⟩
      | some x =>
        refine ⟨Nat.succ_le_succ h1, fun h => Nat.succ_lt_succ (h2 ?_)⟩
        have h : (!t.isName || ts.odd) = true := h
        rw [q] at h
        simpa using h
theorem stores_odd (ts : Tgs) (k : Nat) (p : Pos) (h : ts.odd = true) : ∀ v : Expr, swappedStores [.Tuple ts.un k p] v env = pure none := by
  intro v
  cases v with
  | Tuple vs k2 p2 =>
    unfold swappedStores
    simp only
    split
    · rfl
    · split
      · rfl
      · split
        · rfl
        · rename_i hn
          exfalso
          have z := (odd_len (fun x => match x with | .Name id pos => if (env.kindOf id == some .local && pos.line == (Option.map (fun x => x.pos.line) ts.un.head?).getD 0) = true then some id else none | _ => none) (fun t q => by cases t <;> first | rfl | cases q) ts).2 h
          apply hn
          simp only [Bool.or_eq_true, bne_iff_ne, ne_eq]
          left
          exact Nat.ne_of_lt z
  | _ => rfl
theorem stores_un : ∀ (t : Tg) (e : E), (!(t.isTupT && e.isTup)) = true → swappedStores [t.un] e.un env = pure none
  | .name .., e, _ => rfl
  | .sub .., e, _ => rfl
  | .tup ts k p, e, h => no_tup ts.un k p e (by
    have h : (!(true && e.isTup)) = true := h
    cases q : e.isTup with
    | false => rfl
    | true => rw [q] at h; cases h)
where no_tup (ts : List Expr) (k : Nat) (p : Pos) : ∀ e : E, e.isTup = false → swappedStores [.Tuple ts k p] e.un env = pure none
  | .tr e, h => no_tup ts k p e h
  | .tup .., h => by cases h
  | .name .., _ | .peek .., _ | .cst .., _ | .int .., _ | .str .., _ | .bl .., _ | .non .., _ | .lst .., _ | .lstH .., _ | .emp .., _ | .bin .., _ | .neg .., _ | .not .., _ | .notV .., _ | .bop .., _ | .cmp .., _ | .chain .., _ | .ife .., _ | .call .., _ | .callK .., _ | .blt .., _ | .isi .., _ | .isiT .., _ | .sub .., _ | .slc .., _ | .lc .., _ | .dget .., _ | .din .., _ | .dicH .., _ | .srt .., _ => rfl
end

/-! ## new lists -/
section
variable {X : Cx} {Z : WX} {D : Dn} {c : Oc}
theorem E.plc (n : Cn X Z D c) {e : E} {tg : Tg} {it : It} {t : Eo} {vs : List (Str × Nat)} {sc : Scope} {p : Pos} (ok : E.okE c X.env.scope (.lc e tg it t vs sc p) = true) :
    PE X (E.un (.lc e tg it t vs sc p)) (tF X Z (fun σ h => match noOwn σ (ixs vs) with
      | true => (it.den D σ h).bind fun xs h => lcGo (fun x => tg.put x (wipeS σ (ixs vs))) (fun σ h => t.tst D σ h) (fun σ h => e.den D false σ h) xs [] h
      | false => .bad)) := by
  obtain ⟨o1, o2⟩ := and_ok (show (blkC c.N X.env.scope sc vs && (tgIt tg it && (it.okE c X.env.scope && (tg.okC c (relS sc X.env.scope) (ixs vs) && (e.okE c (relS sc X.env.scope) && t.okE c (relS sc X.env.scope)))))) = true from ok)
  obtain ⟨o2, o3⟩ := and_ok o2
  obtain ⟨o3, o4⟩ := and_ok o3
  obtain ⟨o4, o5⟩ := and_ok o4
  obtain ⟨o5, o6⟩ := and_ok o5
  exact lc_of (e := e) (sc := sc) (p := p) n o1 o4 (It.pi it X Z n tg o2 o3) (fun s H C cl fp => Eo.pt t (X.blk s H sc (compEnvC sc cl C X.env) fp) nox (n.blk ..) o6)
      (fun s H C cl fp => E.pe e (X.blk s H sc (compEnvC sc cl C X.env) fp) nox (n.blk ..) false o5)
/-- a list by a sum: new -/
theorem cat_new {e0 : Ent} {F : Hp} {ι : List Addr} {sl : Sls} {h : Obs} {σ : VS} {H : Hp} {x y : W} {v u : V} {ws : List W} (j : J X.K e0 F ι sl h σ H) (r1 : RN X.K F ι H x v) (r2 : RN X.K F ι H y u) (e : binW .add x y = some (.lst ws)) {Q : VK}
    (k : ∀ p vs, H p = none → RVs X.K F ι ws vs → Q (.ref p) (upd H p (.lst vs))) : rCat v u H Q := by
  have e : addW x y = some (.lst ws) := e
  cases x with
  | lst a =>
    cases y with
    | lst b =>
      have e : (match lineN (a.length + b.length) with | true => some (W.lst (a ++ b)) | false => none) = some (.lst ws) := e
      obtain ⟨p, xs, rfl, hp, rx⟩ := r1.lst j.hr.sub
      obtain ⟨q, ys, rfl, hq, ry⟩ := r2.lst j.hr.sub
      split at e
      · rename_i hl
        cases e
        refine ⟨p, q, xs, ys, rfl, rfl, hp, hq, by rw [← rx.length, ← ry.length]; exact lineN_ok hl, fun l hl => k l _ hl (rx.append ry)⟩
      · cases e
    | _ => cases e
  | int i => cases y <;> cases e
  | str s =>
    cases y with
    | str t =>
      have e : (match lineN (s.length + t.length) with | true => some (W.str (s ++ t)) | false => none) = some (.lst ws) := e
      split at e <;> cases e
    | _ => cases e
  | _ => cases e
theorem E.pf (n : Cn X Z D c) : ∀ (e : E), e.okE c X.env.scope = true → PE X e.un (tF X Z (e.fresh D))
  | .lst es p, ok => by
    refine PE.imp (pe_lst (Es.pa es X Z n false ok)) ?_
    rintro σ H Q ⟨e0, F, ι, sl, h, j, q⟩
    refine ⟨e0, F, ι, sl, h, j, PoF.bind q fun ws h1 F1 ι1 H1 vs l1 j1 r1 q1 => ?_⟩
    cases hl : lineN ws.length with
    | false => simp only [hl] at q1; exact False.elim q1
    | true =>
      simp only [hl] at q1
      refine ⟨by rw [← r1.rvs.length]; exact lineN_ok hl, fun a ha => ?_⟩
      exact q1 F1 ι1 _ a vs .refl (j1.loose ha) (j1.nw ha) r1.rvs
  | .bin .add a b p, ok => by
    obtain ⟨o1, o2⟩ := and_ok (show (a.okE c X.env.scope && b.okE c X.env.scope) = true from ok)
    refine PE.imp (pe_op op_cat (E.pe a X Z n true o1) (E.pe b X Z n true o2)) ?_
    rintro σ H Q ⟨e0, F, ι, sl, h, j, q⟩
    refine ⟨e0, F, ι, sl, h, j, PoF.bind q fun x h1 F1 ι1 H1 v l1 j1 r1 q1 => ⟨e0, F1, ι1, sl, h1, j1, PoF.bind q1 fun y h2 F2 ι2 H2 u l2 j2 r2 q2 => ?_⟩⟩
    cases hb : binW .add (x.now h2) (y.now h2) with
    | none => simp only [hb] at q2; exact False.elim q2
    | some w =>
      cases w with
      | lst ws =>
        simp only [hb] at q2
        exact cat_new j2 (j2.now (r1.mono l2).op) (j2.now r2.op) hb fun p vs hp rv => q2 F2 ι2 _ p vs .refl (j2.loose hp) (j2.nw hp) rv
      | _ => simp only [hb] at q2; exact False.elim q2
  | .blt .list xp es p, ok => by
    obtain ⟨o1, o2⟩ := and_ok (show (glB X.env.scope "list" && (!es.isNil && es.okE c X.env.scope)) = true from ok)
    obtain ⟨o2, o3⟩ := and_ok o2
    have ha := Es.pa es X Z n true o3
    cases es with
    | nil => cases o2
    | cons e es =>
      refine PE.imp (pe_callTy call_list_of (glB_ok o1) (n.bt .list) (bt_boot .list) ha (bt_name .list).1 (bt_name .list).2 (star_un e es.un) (plain_un p es)) ?_
      rintro σ H Q ⟨e0, F, ι, sl, h, j, q⟩
      refine ⟨e0, F, ι, sl, h, j, PoF.bind q fun ws h1 F1 ι1 H1 vs l1 j1 r1 q1 => ?_⟩
      have rn := r1.rns j1
      cases hb : bltW .list (ws.map (W.now h1)) with
      | none => simp only [hb] at q1; exact False.elim q1
      | some w =>
        obtain ⟨a, ea, eb⟩ := on1_ok (f := listW) hb
        rw [ea] at rn
        obtain ⟨v, rfl, rv⟩ := rn.one
        have fin : ∀ {us : List W}, a.items = some us → w = .lst us → ∃ p vs, v = .ref p ∧ (SqL X.K H1 p vs ∨ SqT X.K H1 p vs) ∧ ∀ l, H1 l = none → Q (.ref l) (upd H1 l (.lst vs)) := fun {us} hi ew => by
          subst ew
          simp only [hb] at q1
          obtain ⟨p, vs, rfl, sq, rvs⟩ := rv.items j1.hr.sub hi
          exact ⟨p, vs, rfl, sq, fun l hl => q1 F1 ι1 _ l vs .refl (j1.loose hl) (j1.nw hl) rvs⟩
        unfold listW at eb
        split at eb
        · cases eb
          obtain ⟨p, vs, rfl, sq, k⟩ := fin rfl rfl
          exact ⟨p, vs, rfl, sq, k⟩
        · cases eb
          obtain ⟨p, vs, rfl, sq, k⟩ := fin rfl rfl
          exact ⟨p, vs, rfl, sq, k⟩
        · cases eb
  | .slc a lo hi sp p, ok => by
    obtain ⟨o1, o2⟩ := and_ok (show (a.okE c X.env.scope && (lo.okE c X.env.scope && hi.okE c X.env.scope)) = true from ok)
    obtain ⟨o2, o3⟩ := and_ok o2
    refine PE.imp (pe_slice sl_list (E.pe a X Z n true o1) (Eo.po lo X Z n o2) (Eo.po hi X Z n o3)) ?_
    rintro σ H Q ⟨e0, F, ι, sl, h, j, q⟩
    have q : PoF (bx X Z e0) F ι sl σ ((a.den D true sl h).bind fun x h => (lo.den D sl h).bind fun l h => (hi.den D sl h).bind fun u h => (R.opt (slcW (x.now h) l u) h).bind fun w h => match w with | .lst ws => .ok ws h | _ => .bad) Q := by
      have z : ∀ {α β γ : Type} (r : R α) (f : α → Obs → R β) (g : β → Obs → R γ), (r.bind f).bind g = r.bind fun a h => (f a h).bind g := fun r f g => by cases r <;> rfl
      have q : PoF (bx X Z e0) F ι sl σ (((a.den D true sl h).bind fun x h => (lo.den D sl h).bind fun l h => (hi.den D sl h).bind fun u h => R.opt (slcW (x.now h) l u) h).bind fun w h => match w with | .lst ws => .ok ws h | _ => .bad) Q := q
      simp only [z] at q
      exact q
    refine ⟨e0, F, ι, sl, h, j, PoF.bind q fun x h1 F1 ι1 H1 v l1 j1 r1 q1 => ⟨e0, F1, ι1, sl, h1, j1, PoF.bind q1 fun y h2 F2 ι2 H2 u l2 j2 r2 q2 => ⟨e0, F2, ι2, sl, h2, j2, PoF.bind q2 fun z h3 F3 ι3 H3 t l3 j3 r3 q3 => ?_⟩⟩⟩
    subst r2
    subst r3
    have rn := j3.now ((r1.mono l2).mono l3).op
    cases hx : x.now h3 with
    | lst ws =>
      rw [hx] at rn
      simp only [hx] at q3
      obtain ⟨a, vs, rfl, ha, rv⟩ := rn.lst j3.hr.sub
      exact ⟨a, vs, rfl, .inl (.inl ha), fun p hp => q3 F3 ι3 _ p _ .refl (j3.loose hp) (j3.nw hp) (rv.cutR y z)⟩
    | tup ws =>
      simp only [hx, slcW] at q3
      cases hd : (decide (HT.sIx ws.length 0 y = 0) && decide (HT.sIx ws.length ws.length z = ws.length)) <;> (simp only [hd] at q3; exact False.elim q3)
    | _ => simp only [hx] at q3; exact False.elim q3
  | .lc e tg it t vs sc p, ok => PE.imp (E.plc n ok) fun σ H Q q => q
  | .bin .sub .., ok | .bin .mul .., ok | .bin .fdiv .., ok | .bin .mod .., ok | .bin .pow .., ok => PE.never fun σ H Q ⟨e0, F, ι, sl, h, j, q⟩ => q
  | .blt .len .., ok | .blt .abs .., ok | .blt .max .., ok | .blt .min .., ok | .blt .int .., ok | .blt .divmod .., ok | .blt .repr .., ok | .blt .all .., ok | .blt .tuple .., ok => PE.never fun σ H Q ⟨e0, F, ι, sl, h, j, q⟩ => q
  | .tr .., ok | .name .., ok | .peek .., ok | .cst .., ok | .int .., ok | .str .., ok | .bl .., ok | .non .., ok | .tup .., ok | .lstH .., ok | .emp .., ok | .neg .., ok | .not .., ok | .notV .., ok | .bop .., ok | .cmp .., ok | .chain .., ok | .ife .., ok | .call .., ok | .callK .., ok | .isi .., ok | .isiT .., ok | .sub .., ok | .dget .., ok | .din .., ok | .dicH .., ok | .srt .., ok => PE.never fun σ H Q ⟨e0, F, ι, sl, h, j, q⟩ => q
end
/-! ## targets -/
def tTg (X : Cx) (m : W → Sls → Obs → R Sls) : TG := fun v σ H Q => ∃ e0 F ι sl h w, J X.K e0 F ι sl h σ H ∧ RV X.K F ι w v ∧ match m w sl h with
  | .ok s1 h1 => ∀ F1 ι1 σ1 H1, Le F ι F1 ι1 → J X.K e0 F1 ι1 s1 h1 σ1 H1 → Q σ1 H1
  | _ => False
def tTgs (X : Cx) (m : List W → Sls → Obs → R Sls) : TGs := fun vs σ H Q => ∃ e0 F ι sl h ws, J X.K e0 F ι sl h σ H ∧ RVs X.K F ι ws vs ∧ match m ws sl h with
  | .ok s1 h1 => ∀ F1 ι1 σ1 H1, Le F ι F1 ι1 → J X.K e0 F1 ι1 s1 h1 σ1 H1 → Q σ1 H1
  | _ => False
theorem asub_un {env : Env} (o : Expr) (p : Pos) (v : Value) : ∀ (i : E), assign (.Subscript o i.un p) env v = (do
      let a ← holding [v] (eval o env)
      let b ← holding [v, a] (eval i.un env)
      standAt p
      holding [v, a, b] (setItem a b v)
      release [v, a, b] [])
  | .tr e => asub_un o p v e
  | .name .. | .peek .. | .cst .. | .int .. | .str .. | .bl .. | .non .. | .tup .. | .lst .. | .lstH .. | .emp .. | .bin .. | .neg .. | .not .. | .notV .. | .bop .. | .cmp .. | .chain .. | .ife .. | .call .. | .callK .. | .blt .. | .isi .. | .isiT .. | .sub .. | .slc .. | .lc .. | .dget .. | .din .. | .dicH .. | .srt .. => rfl
/-- o[i] = v, a list or a dict -/
def rSet : V → V → V → Hp → (Hp → Prop) → Prop := fun o i v H Q => rSetL o i v H Q ∨ ∃ a H', o = .ref a ∧ DPut H a i v H' ∧ Q H'
theorem set_any {X : Cx} (hu : X.A.units + 1 < cLine) : PSet X rSet := by
  intro pins s σ H o i v ov iv u Q I ro ri rv h
  rcases h with h | ⟨a, H', rfl, g, q⟩
  · exact set_list pins s σ H o i v ov iv u Q I ro ri rv h
  · cases ro
    exact d_setItem hu I g ri rv fun s' I' => ⟨H', I', q⟩
theorem tgs_len {D : Dn} : ∀ {ts : Tgs} {ws : List W} {sl s1 : Sls} {h h1 : Obs}, ts.den D ws sl h = .ok s1 h1 → ws.length = ts.len
  | .nil, [], _, _, _, _, _ => rfl
  | .nil, _ :: _, _, _, _, _, z => by cases z
  | .cons t ts, [], _, _, _, _, z => by cases z
  | .cons t ts, w :: ws, sl, s1, h, h1, z => by
    have z : (match t.den D w sl h with | .ok s h => ts.den D ws s h | _ => .bad) = R.ok s1 h1 := z
    cases q : t.den D w sl h with
    | ok s h2 =>
      rw [q] at z
      exact congrArg (· + 1) (tgs_len z)
    | exc x h2 => rw [q] at z; cases z
    | bad => rw [q] at z; cases z
section
variable {X : Cx} {Z : WX} {D : Dn} {c : Oc}
mutual
theorem Tg.pg (n : Cn X Z D c) : ∀ (t : Tg), t.okT c X.env.scope = true → PG X t.un (tTg X (t.den D))
  | .name x i p, ok => by
    obtain ⟨h1, h2⟩ := slotL_ok ok
    refine PG.imp (pg_name n.nd (i := i) (by rw [n.N]; exact h1) (.inl h2) (.inr h2)) ?_
    rintro v σ H Q ⟨e0, F, ι, sl, h, w, j, r, k⟩
    exact k F ι _ H .refl (j.setV r)
  | .tup ts m p, ok => by
    refine PG.imp (pg_tup n.calm (Tgs.pg n ts ok) (each_len ts) (each_star ts)) ?_
    rintro v σ H Q ⟨e0, F, ι, sl, h, w, j, r, k⟩
    cases r with
    | @tup ws a vs sq rv =>
      refine ⟨_, _, rfl, sqT_mono j.hr.sub sq, ?_, e0, F, ι, sl, h, ws, j, rv, k⟩
      have k : (match ts.den D ws sl h with | .ok s1 h1 => ∀ F1 ι1 σ1 H1, Le F ι F1 ι1 → J X.K e0 F1 ι1 s1 h1 σ1 H1 → Q σ1 H1 | _ => False) := k
      rw [← rv.length]
      cases q : ts.den D ws sl h with
      | ok s1 h1 => exact tgs_len q
      | exc x h1 => rw [q] at k; exact False.elim k
      | bad => rw [q] at k; exact False.elim k
    | _ => exact False.elim k
  | .sub a i p, ok => by
    obtain ⟨o1, o2⟩ := and_ok (show (a.okE c X.env.scope && i.okE c X.env.scope) = true from ok)
    have hu := n.un
    refine PG.imp (pg_sub (E.pe a X Z n false o1) (E.pe i X Z n false o2) (set_any (by omega)) (fun v => asub_un a.un p v i)) ?_
    rintro v σ H Q ⟨e0, F, ι, sl, h, w, j, r, k⟩
    have fin : Tg.den D (.sub a i p) w sl h = .bad → False := fun e => by rw [e] at k; exact k
    refine ⟨e0, F, ι, sl, h, j, ?_⟩
    cases q1 : a.den D false sl h with
    | exc x h1 => exact (fin (by simp only [Tg.den, q1])).elim
    | bad => exact (fin (by simp only [Tg.den, q1])).elim
    | ok x h1 =>
      intro F1 ι1 H1 v1 l1 j1 r1
      cases r1 with
      | @ref nn ad e1 =>
        refine ⟨e0, F1, ι1, sl, h1, j1, ?_⟩
        cases q2 : i.den D false sl h1 with
        | exc x h2 => exact (fin (by simp only [Tg.den, q1, q2])).elim
        | bad => exact (fin (by simp only [Tg.den, q1, q2])).elim
        | ok y h2 =>
          intro F2 ι2 H2 v2 l2 j2 r2
          cases q3 : h2[nn]? with
          | none => exact (fin (by simp only [Tg.den, q1, q2, q3])).elim
          | some o =>
            have e2 := l2.at e1
            obtain ⟨fn, ob⟩ := j2.hr.ob nn ad _ e2 q3
            cases o with
            | lst ws =>
              cases r2 with
              | int m =>
                obtain ⟨xs, hx, rx⟩ := ob
                cases q4 : ixN ws.length m with
                | none => exact (fin (by simp only [Tg.den, q1, q2, q3, q4])).elim
                | some jj =>
                  simp only [Tg.den, q1, q2, q3, q4] at k
                  refine .inl ⟨ad, xs, m, jj, rfl, rfl, hx, by rw [← rx.length]; exact q4, ?_⟩
                  exact k F2 ι2 σ _ (l1.trans l2) (j2.mutH e2 fn (by rw [hx]; simp) (rx.set (r.mono (l1.trans l2)) jj))
              | _ => exact (fin (by simp only [Tg.den, q1, q2, q3])).elim
            | dic kvs =>
              cases r2 with
              | str s =>
                obtain ⟨ks, hx, rx⟩ := ob
                cases q4 : decide (kvs.length < sizeLine) with
                | false => exact (fin (by simp only [Tg.den, q1, q2, q3, q4])).elim
                | true =>
                  simp only [Tg.den, q1, q2, q3, q4] at k
                  refine .inr ⟨ad, _, rfl, .inl ⟨ks, .inr s, hx, rfl, by rw [← rx.length]; exact of_decide_eq_true q4, rfl⟩, ?_⟩
                  exact k F2 ι2 σ _ (l1.trans l2) (j2.mutB (b := .dic (dicPut kvs s w)) e2 fn (by rw [hx]; simp) ⟨_, rfl, rx.put (r.mono (l1.trans l2))⟩)
              | _ => exact (fin (by simp only [Tg.den, q1, q2, q3])).elim
      | _ => exact (fin (by simp only [Tg.den, q1])).elim
theorem Tgs.pg (n : Cn X Z D c) : ∀ (ts : Tgs), ts.okT c X.env.scope = true → PGs X ts.un (tTgs X (ts.den D))
  | .nil, ok => by
    refine PGs.imp pgs_nil ?_
    rintro vs σ H Q ⟨e0, F, ι, sl, h, ws, j, r, k⟩
    cases r with
    | nil => exact ⟨rfl, k F ι σ H .refl j⟩
    | cons _ _ => exact False.elim k
  | .cons t ts, ok => by
    obtain ⟨o1, o2⟩ := and_ok (show (t.okT c X.env.scope && ts.okT c X.env.scope) = true from ok)
    refine PGs.imp (pgs_cons (Tg.pg n t o1) (Tgs.pg n ts o2) (by rw [assignEach_un]; rfl)) ?_
    rintro vs σ H Q ⟨e0, F, ι, sl, h, ws, j, r, k⟩
    cases r with
    | nil => exact False.elim k
    | @cons w v ws us r1 rr =>
      refine ⟨_, _, rfl, e0, F, ι, sl, h, w, j, r1, ?_⟩
      have k : (match (match t.den D w sl h with | .ok s h => ts.den D ws s h | _ => .bad) with | .ok s1 h1 => ∀ F1 ι1 σ1 H1, Le F ι F1 ι1 → J X.K e0 F1 ι1 s1 h1 σ1 H1 → Q σ1 H1 | _ => False) := k
      cases q : t.den D w sl h with
      | ok s1 h1 =>
        rw [q] at k
        intro F1 ι1 σ1 H1 l1 j1
        refine ⟨e0, F1, ι1, s1, h1, ws, j1, rr.mono l1, ?_⟩
        have k : (match ts.den D ws s1 h1 with | .ok s1 h1 => ∀ F1 ι1 σ1 H1, Le F ι F1 ι1 → J X.K e0 F1 ι1 s1 h1 σ1 H1 → Q σ1 H1 | _ => False) := k
        cases q2 : ts.den D ws s1 h1 with
        | ok s2 h2 =>
          rw [q2] at k
          exact fun F2 ι2 σ2 H2 l2 j2 => k F2 ι2 σ2 H2 (l1.trans l2) j2
        | exc x h2 => rw [q2] at k; exact k
        | bad => rw [q2] at k; exact k
      | exc x h1 => rw [q] at k; exact k
      | bad => rw [q] at k; exact k
end
end
end Ev

set_option maxHeartbeats 1000000
namespace Ev
open PySem PySem.Spec PyProof.Rows L2

/-! ## what a name is given -/
def PoV (X : Cx) (Z : WX) (e0 : Ent) (F : Hp) (ι : List Addr) (sl : Sls) (σ : VS) (r : R Sl) (Q : V → Hp → Prop) : Prop := match r with
  | .ok (.val w) h' => ∀ F' ι' H' v, Le F ι F' ι' → J X.K e0 F' ι' sl h' σ H' → RV X.K F' ι' w v → Q v H'
  | .ok (.own ws) h' => ∀ F' ι' H' p us, Le F ι F' ι' → J X.K e0 F' ι' sl h' σ H' → Nw e0 F' ι' sl σ H' p us → RVs X.K F' ι' ws us → Q (.ref p) H'
  | .exc x h' => ∀ F' ι' H' cls d, Le F ι F' ι' → J X.K e0 F' ι' sl h' σ H' → RX X.K X.mg F' ι' x cls d → Z cls d σ H'
  | _ => False
def tV (X : Cx) (Z : WX) (m : Sls → Obs → R Sl) : TE := fun σ H Q => ∃ e0 F ι sl h, J X.K e0 F ι sl h σ H ∧ PoV X Z e0 F ι sl σ (m sl h) Q
section
variable {X : Cx} {Z : WX} {D : Dn} {c : Oc}
theorem E.pv (n : Cn X Z D c) (o : Bool) (e : E) (ok : e.okE c X.env.scope = true) : PE X e.un (tV X Z (e.give D o)) := by
  cases o with
  | true =>
    refine PE.imp (E.pf n e ok) ?_
    rintro σ H Q ⟨e0, F, ι, sl, h, j, q⟩
    refine ⟨e0, F, ι, sl, h, j, ?_⟩
    have q : PoV X Z e0 F ι sl σ ((e.fresh D sl h).bind fun ws h => .ok (.own ws) h) Q := q
    cases hr : e.fresh D sl h with
    | ok ws h1 => rw [hr] at q; exact q
    | exc x h1 => rw [hr] at q; exact q
    | bad => rw [hr] at q; exact q
  | false =>
    refine PE.imp (E.pe e X Z n false ok) ?_
    rintro σ H Q ⟨e0, F, ι, sl, h, j, q⟩
    refine ⟨e0, F, ι, sl, h, j, ?_⟩
    have q : PoV X Z e0 F ι sl σ ((e.den D false sl h).bind fun w h => .ok (.val w) h) Q := q
    cases hr : e.den D false sl h with
    | ok ws h1 => rw [hr] at q; exact q
    | exc x h1 => rw [hr] at q; exact q
    | bad => rw [hr] at q; exact q
/-- the slot's new state -/
theorem PoV.of {e0 : Ent} {F : Hp} {ι : List Addr} {sl : Sls} {σ : VS} {r : R Sl} {Q : V → Hp → Prop} {i : Nat} (k : ∀ s h' F' ι' H' v, r = .ok s h' → Le F ι F' ι' → J X.K e0 F' ι' (sl.set i s) h' (σ.set i (some v)) H' → Q v H')
    (x : ∀ y h' F' ι' H' cls d, r = .exc y h' → Le F ι F' ι' → J X.K e0 F' ι' sl h' σ H' → RX X.K X.mg F' ι' y cls d → Z cls d σ H') (nb : r ≠ .bad) (nn : ∀ h', r ≠ .ok .non h') : PoV X Z e0 F ι sl σ r Q := by
  cases r with
  | ok s h' =>
    cases s with
    | non => exact absurd rfl (nn h')
    | val w => exact fun F' ι' H' v l j q => k _ h' F' ι' H' v rfl l (j.setV q)
    | own ws => exact fun F' ι' H' p us l j n q => k _ h' F' ι' H' (.ref p) rfl l (j.setO n q)
  | exc y h' => exact fun F' ι' H' cls d l j q => x y h' F' ι' H' cls d rfl l j q
  | bad => exact absurd rfl nb
theorem give_non {o : Bool} {e : E} {sl : Sls} {h h' : Obs} : e.give D o sl h ≠ .ok .non h' := by
  intro z
  cases o with
  | true =>
    have z : ((e.fresh D sl h).bind fun ws h => R.ok (Sl.own ws) h) = .ok .non h' := z
    cases q : e.fresh D sl h <;> (rw [q] at z; cases z)
  | false =>
    have z : ((e.den D false sl h).bind fun w h => R.ok (Sl.val w) h) = .ok .non h' := z
    cases q : e.den D false sl h <;> (rw [q] at z; cases z)

/-! ## name = value -/
theorem asg_ps (n : Cn X Z D c) (o : Bool) {x : Str} {i : Nat} {xp p : Pos} {e : E} (ok : (slotL c.N X.env.scope x i && e.okE c X.env.scope) = true) :
    PS X (.Assign [.Name x xp] e.un p) (fun G σ H => tV X Z (e.give D o) σ H fun v H1 => G.nx (σ.set i (some v)) H1) := by
  obtain ⟨o1, o2⟩ := and_ok ok
  obtain ⟨h1, h2⟩ := slotL_ok o1
  have plain : swapsWith e.un (some (.Name x xp)) p.line X.env = pure false → PS X (.Assign [.Name x xp] e.un p) (fun G σ H => tV X Z (e.give D o) σ H fun v H1 => G.nx (σ.set i (some v)) H1) := fun hs =>
    PS.imp (ps_set n.nd (i := i) (by rw [n.N]; exact h1) (.inl h2) (E.pv n o e o2) hs (.inr h2)) fun G σ H q => q
  have go : ∀ e' : E, e'.un = e.un → e'.isLc = false → swapsWith e.un (some (.Name x xp)) p.line X.env = pure false := fun e' h1 h2 => by rw [← h1]; exact sw_un _ _ e' h2
  have lc : ∀ e' : E, e'.okE c X.env.scope = true → (∀ (σ : VS) (H : Hp) (Q : VK), tV X Z (e.give D o) σ H Q → tV X Z (e'.give D o) σ H Q) → e'.un = e.un → PS X (.Assign [.Name x xp] e.un p) (fun G σ H => tV X Z (e.give D o) σ H fun v H1 => G.nx (σ.set i (some v)) H1) := fun e' ok' im hu => by
    cases e' with
    | lc e1 tg it t vs sc q =>
      rw [← hu]
      refine ⟨fun pins s σ H G I hq => ?_⟩
      have kd := I.ok.kind
      have bk : X.env.blockKind = .function := by unfold Env.blockKind; rw [kd]; rfl
      have hs : swapsWith (E.un (.lc e1 tg it t vs sc q)) (some (.Name x xp)) p.line X.env = pure (xp.line == q.line && !sc.names.any fun (n, k) => n == x && (k == .local || k == .cell)) := by
        show pure (X.env.blockKind == .function && X.env.kindOf x == some .local && xp.line == q.line && !sc.names.any fun (n, k) => n == x && (k == .local || k == .cell)) = _
        have hk : X.env.kindOf x = some .local := h2
        rw [bk, hk]
        rfl
      cases hb : (xp.line == q.line && !sc.names.any fun (n, k) => n == x && (k == .local || k == .cell)) with
      | false =>
        rw [hb] at hs
        exact (PS.imp (ps_set n.nd (i := i) (by rw [n.N]; exact h1) (.inl h2) (E.pv n o _ ok') hs (.inr h2)) fun G σ H q => im σ H _ q).run pins s σ H G I hq
      | true =>
        rw [hb] at hs
        obtain ⟨o1, o2⟩ := and_ok (show (blkC c.N X.env.scope sc vs && (tgIt tg it && (it.okE c X.env.scope && (tg.okC c (relS sc X.env.scope) (ixs vs) && (e1.okE c (relS sc X.env.scope) && t.okE c (relS sc X.env.scope)))))) = true from ok')
        obtain ⟨o2, o3⟩ := and_ok o2
        obtain ⟨o3, o4⟩ := and_ok o3
        obtain ⟨o4, o5⟩ := and_ok o4
        obtain ⟨o5, o6⟩ := and_ok o5
        refine (PS.imp (t' := fun G σ H => tV X Z (e.give D o) σ H fun v H1 => G.nx (σ.set i (some v)) H1) (ps_setLc (i := i) (wi := tWk X Z (fun σ h => it.den D σ h)) (g := tPut X (ixs vs) tg.put) (tt := tT X nox (fun σ h => t.tst D σ h)) (te := tE X nox false (fun σ h => e1.den D false σ h)) n.calm n.nd (by rw [n.N]; exact h1) h2 hs (It.pi it X Z n tg o2 o3) (blkOk_by (by rw [n.N]; exact o1))
          (fun s H C cl fp => Tg.pput (X := X.blk s H sc (compEnvC sc cl C X.env) fp) n.calm n.N n.nd tg o4) (fun s H C cl fp => Eo.pt t (X.blk s H sc (compEnvC sc cl C X.env) fp) nox (n.blk ..) o6)
          (fun s H C cl fp => E.pe e1 (X.blk s H sc (compEnvC sc cl C X.env) fp) nox (n.blk ..) false o5) (foldedI_un it)) ?_).run pins s σ H G I hq
        intro G σ H hq
        obtain ⟨e0, F, ι, sl, h, j, hq⟩ := im σ H _ hq
        refine lc_rd ⟨e0, F, ι, sl, h, j, ?_⟩
        have up : PoF (bx X Z e0) F ι sl σ (E.fresh D (.lc e1 tg it t vs sc q) sl h) (fun v H1 => G.nx (σ.set i (some v)) H1) := by
          cases o with
          | true =>
            have hq : PoV X Z e0 F ι sl σ ((E.fresh D (.lc e1 tg it t vs sc q) sl h).bind fun ws h => .ok (.own ws) h) (fun v H1 => G.nx (σ.set i (some v)) H1) := hq
            cases hr : E.fresh D (.lc e1 tg it t vs sc q) sl h with
            | ok ws h1 => rw [hr] at hq; exact hq
            | exc x h1 => rw [hr] at hq; exact hq
            | bad => rw [hr] at hq; exact hq
          | false =>
            refine PoF.of (k := false) ?_
            have hq : PoV X Z e0 F ι sl σ (((E.fresh D (.lc e1 tg it t vs sc q) sl h).bind fun ws h => .ok (.lst ws) h).bind fun w h => .ok (.val w) h) (fun v H1 => G.nx (σ.set i (some v)) H1) := hq
            cases hr : E.fresh D (.lc e1 tg it t vs sc q) sl h with
            | ok ws h1 => rw [hr] at hq; exact hq
            | exc x h1 => rw [hr] at hq; exact hq
            | bad => rw [hr] at hq; exact hq
        exact up
    | tr e2 => exact PS.never (fun G σ H q => by
        obtain ⟨e0, F, ι, sl, h, j, q⟩ := im σ H _ q
        cases o <;> exact q)
    | _ => exact plain (go _ hu rfl)
  exact lc e o2 (fun _ _ _ q => q) rfl

/-! ## two names, two values -/
theorem not_ok {b : Bool} (h : (!b) = true) : b = false := by
  cases b with
  | false => rfl
  | true => cases h
theorem swap_two {env : Env} {x y : Str} {xp yp tp ep : Pos} {k1 k2 : Nat} {a b : Expr} (hk : env.scope.kind = .function) (hx : env.scope.names.lookup x = some .local) (hy : env.scope.names.lookup y = some .local) (hne : x ≠ y) (hl : yp.line = xp.line)
    (hf : [a, b].all (foldedForSure 8) = false) (hc : [a, b].all (constantsAlone 8) = false) (hs : ([a, b].any fun | .Starred .. => true | _ => false) = false) :
    swappedStores [.Tuple [.Name x xp, .Name y yp] k1 tp] (.Tuple [a, b] k2 ep) env = pure (some [x, y]) := by
  have bk : env.blockKind = .function := by unfold Env.blockKind; rw [hk]; rfl
  have kx : env.kindOf x = some .local := hx
  have ky : env.kindOf y = some .local := hy
  have e1 : (x == y) = false := beq_false_of_ne hne
  have e2 : (y == x) = false := beq_false_of_ne (Ne.symm hne)
  unfold swappedStores
  simp only [bk, hs]
  simp only [List.filterMap_cons, List.filterMap_nil, List.head?_cons, Option.map_some, Option.getD_some, kx, ky, Expr.pos, hl, beq_self_eq_true, Bool.and_self, if_true]
  simp [hf, hc, e1, e2, List.eraseDups_cons, bk]
  intro z
  simp only [List.any_cons, List.any_nil, Bool.or_false, Bool.or_eq_false_iff] at hs
  rcases z with z | z
  · exact Bool.noConfusion (hs.1.symm.trans z)
  · exact Bool.noConfusion (hs.2.symm.trans z)
theorem swap_three {env : Env} {x y z : Str} {xp yp zp tp ep : Pos} {k1 k2 : Nat} {a b c : Expr} (hk : env.scope.kind = .function) (hx : env.scope.names.lookup x = some .local) (hy : env.scope.names.lookup y = some .local) (hz : env.scope.names.lookup z = some .local)
    (h1 : x ≠ y) (h2 : x ≠ z) (h3 : y ≠ z) (hl : yp.line = xp.line) (hl2 : zp.line = xp.line)
    (hf : [a, b, c].all (foldedForSure 8) = false) (hc : [a, b, c].all (constantsAlone 8) = false) (hs : ([a, b, c].any fun | .Starred .. => true | _ => false) = false) :
    swappedStores [.Tuple [.Name x xp, .Name y yp, .Name z zp] k1 tp] (.Tuple [a, b, c] k2 ep) env = pure (some [x, y, z]) := by
  have bk : env.blockKind = .function := by unfold Env.blockKind; rw [hk]; rfl
  have kx : env.kindOf x = some .local := hx
  have ky : env.kindOf y = some .local := hy
  have kz : env.kindOf z = some .local := hz
  have n1 : ∀ {u v : Str}, u ≠ v → (u == v) = false := fun h => beq_false_of_ne h
  have e1 := n1 h1
  have e2 := n1 (Ne.symm h1)
  have e3 := n1 h2
  have e4 := n1 (Ne.symm h2)
  have e5 := n1 h3
  have e6 := n1 (Ne.symm h3)
  unfold swappedStores
  simp only [bk, hs]
  simp only [List.filterMap_cons, List.filterMap_nil, List.head?_cons, Option.map_some, Option.getD_some, kx, ky, kz, Expr.pos, hl, hl2, beq_self_eq_true, Bool.and_self, if_true]
  simp [hf, hc, e1, e2, e3, e4, e5, e6, List.eraseDups_cons, bk]
  intro w
  simp only [List.any_cons, List.any_nil, Bool.or_false, Bool.or_eq_false_iff] at hs
  rcases w with w | w | w
  · exact Bool.noConfusion (hs.1.symm.trans w)
  · exact Bool.noConfusion (hs.2.1.symm.trans w)
  · exact Bool.noConfusion (hs.2.2.symm.trans w)
theorem no_star : ∀ (e : E), (match e.un with | .Starred .. => true | _ => false) = false
  | .tr e => no_star e
  | .name .. | .peek .. | .cst .. | .int .. | .str .. | .bl .. | .non .. | .tup .. | .lst .. | .lstH .. | .emp .. | .bin .. | .neg .. | .not .. | .notV .. | .bop .. | .cmp .. | .chain .. | .ife .. | .call .. | .callK .. | .blt .. | .isi .. | .isiT .. | .sub .. | .slc .. | .lc .. | .dget .. | .din .. | .dicH .. | .srt .. => rfl

/-! ## statements -/
structure Cs (X : Cx) (Z : WX) (D : Dn) (c : Oc) : Prop extends Cn X Z D c where
  po : PassesOwn (model X.prog X.w) X.A X.env X.xe
section
variable {X : Cx} {Z : WX} {D : Dn} {c : Oc}
/-- x, y = a, b -/
theorem par_ps (n : Cn X Z D c) {o1 o2 : Bool} {x y : Str} {i k : Nat} {xp yp tp ep p : Pos} {k1 k2 : Nat} {a b : E} (ok : S.okS c X.env.scope (.par o1 o2 x i xp y k yp k1 tp a b k2 ep p) = true) :
    PS X (S.un (.par o1 o2 x i xp y k yp k1 tp a b k2 ep p)) (tS X Z (S.den D (.par o1 o2 x i xp y k yp k1 tp a b k2 ep p))) := by
  obtain ⟨g1, ok⟩ := and_ok (show (slotL c.N X.env.scope x i && (slotL c.N X.env.scope y k && (decide (i ≠ k) && (decide (yp.line = xp.line) && ((!([a.un, b.un].all (foldedForSure 8)) && !([a.un, b.un].all (constantsAlone 8))) && (a.okE c X.env.scope && b.okE c X.env.scope)))))) = true from ok)
  obtain ⟨g2, ok⟩ := and_ok ok
  obtain ⟨g3, ok⟩ := and_ok ok
  obtain ⟨g4, ok⟩ := and_ok ok
  obtain ⟨g5, ok⟩ := and_ok ok
  obtain ⟨g5, g6⟩ := and_ok g5
  obtain ⟨g7, g8⟩ := and_ok ok
  obtain ⟨x1, x2⟩ := slotL_ok g1
  obtain ⟨y1, y2⟩ := slotL_ok g2
  have hik : i ≠ k := of_decide_eq_true g3
  have hxy : x ≠ y := fun z => hik (nodup_ix n.nd (by rw [n.N]; exact x1) (by rw [n.N, z]; exact y1))
  refine ⟨fun pins s σ H G I hq => ?_⟩
  have hs : ([a.un, b.un].any fun | .Starred .. => true | _ => false) = false := by
    have z1 := no_star a
    have z2 := no_star b
    simp only [List.any_cons, List.any_nil, Bool.or_false, Bool.or_eq_false_iff]
    exact ⟨z1, z2⟩
  have hw := swap_two (xp := xp) (yp := yp) (tp := tp) (ep := ep) (k1 := k1) (k2 := k2) (a := a.un) (b := b.un) I.ok.kind x2 y2 hxy (of_decide_eq_true g4) (not_ok g5) (not_ok g6) hs
  refine (PS.imp (t' := tS X Z (S.den D (.par o1 o2 x i xp y k yp k1 tp a b k2 ep p))) (ps_par (i := i) (j := k) n.calm n.nd (by rw [n.N]; exact x1) (by rw [n.N]; exact y1) hik x2 y2 (pa_cons (E.pv n o1 a g7) (pa_cons (E.pv n o2 b g8) pa_nil (star_un b _)) (star_un a _)) hw) ?_).run pins s σ H G I hq
  rintro G σ H ⟨e0, F, ι, sl, h, j, q⟩
  have q : PoS X Z e0 F ι (match a.give D o1 sl h with
    | .ok s1 h => (match b.give D o2 sl h with
      | .ok s2 h => .nx ((sl.set i s1).set k s2) h
      | .exc x h => .exc x sl h
      | .bad => .bad)
    | .exc x h => .exc x sl h
    | .bad => .bad) G := q
  refine ⟨e0, F, ι, sl, h, j, ?_⟩
  cases ha : a.give D o1 sl h with
  | bad => rw [ha] at q; exact False.elim q
  | exc y h1 =>
    rw [ha] at q
    exact fun F1 ι1 H1 cls d l1 j1 r1 => q F1 ι1 σ H1 cls d l1 j1 r1
  | ok s1 h1 =>
    rw [ha] at q
    have q : PoS X Z e0 F ι (match b.give D o2 sl h1 with
      | .ok s2 h => .nx ((sl.set i s1).set k s2) h
      | .exc x h => .exc x sl h
      | .bad => .bad) G := q
    cases s1 with
    | non => exact absurd ha give_non
    | val w =>
      intro F1 ι1 H1 v l1 j1 r1
      refine ⟨e0, F1, ι1, sl, h1, j1, ?_⟩
      cases hb : b.give D o2 sl h1 with
      | bad => rw [hb] at q; exact False.elim q
      | exc y h2 =>
        rw [hb] at q
        exact fun F2 ι2 H2 cls d l2 j2 r2 => q F2 ι2 σ H2 cls d (l1.trans l2) j2 r2
      | ok s2 h2 =>
        rw [hb] at q
        cases s2 with
        | non => exact absurd hb give_non
        | val w2 => exact fun F2 ι2 H2 v2 l2 j2 r2 => ⟨v, v2, rfl, q F2 ι2 _ H2 (l1.trans l2) ((j2.setV (r1.mono l2)).setV r2)⟩
        | own us => exact fun F2 ι2 H2 p2 vs l2 j2 n2 r2 => ⟨v, .ref p2, rfl, q F2 ι2 _ H2 (l1.trans l2) ((j2.setV (r1.mono l2)).setO n2.setV r2)⟩
    | own us1 =>
      intro F1 ι1 H1 p1 vs1 l1 j1 n1 r1
      have j1' := j1.holdN n1
      have back : ∀ {F2 : Hp} {ι2 : List Addr} {h2 : Obs} {H2 : Hp}, J X.K { e0 with hold := upd e0.hold p1 (.lst vs1) } F2 ι2 sl h2 σ H2 → J X.K e0 F2 ι2 sl h2 σ H2 ∧ Nw e0 F2 ι2 sl σ H2 p1 vs1 := fun {F2 ι2 h2 H2} j2 => J.unhold n1.o n1.hd j2
      refine ⟨_, F1, ι1, sl, h1, j1', ?_⟩
      cases hb : b.give D o2 sl h1 with
      | bad => rw [hb] at q; exact False.elim q
      | exc y h2 =>
        rw [hb] at q
        exact fun F2 ι2 H2 cls d l2 j2 r2 => q F2 ι2 σ H2 cls d (l1.trans l2) (back j2).1 r2
      | ok s2 h2 =>
        rw [hb] at q
        cases s2 with
        | non => exact absurd hb give_non
        | val w2 => exact fun F2 ι2 H2 v2 l2 j2 r2 => ⟨.ref p1, v2, rfl, q F2 ι2 _ H2 (l1.trans l2) (((back j2).1.setO (back j2).2 (r1.mono l2)).setV r2)⟩
        | own us =>
            intro F2 ι2 H2 p2 vs l2 j2 n2 r2
            have hne : p1 ≠ p2 := fun z => by
              have z2 : upd e0.hold p1 (.lst vs1) p2 = none := n2.hd
              rw [← z, upd_same] at z2
              cases z2
            have hd2 : e0.hold p2 = none := by
              have z2 : upd e0.hold p1 (.lst vs1) p2 = none := n2.hd
              rw [upd_ne (Ne.symm hne)] at z2
              exact z2
            have n2' : Nw e0 F2 ι2 sl σ H2 p2 vs := ⟨n2.at_, n2.f, n2.i, n2.o, hd2, n2.sl⟩
            exact ⟨.ref p1, .ref p2, rfl, q F2 ι2 _ H2 (l1.trans l2) (((back j2).1.setO (back j2).2 (r1.mono l2)).setO (n2'.setO hne) r2)⟩
/-- x, y, z = a, b, c -/
theorem par3_ps (n : Cn X Z D c) {x y z : Str} {i k l : Nat} {xp yp zp tp ep p : Pos} {k1 k2 : Nat} {a b d : E} (ok : S.okS c X.env.scope (.par3 x i xp y k yp z l zp k1 tp a b d k2 ep p) = true) :
    PS X (S.un (.par3 x i xp y k yp z l zp k1 tp a b d k2 ep p)) (tS X Z (S.den D (.par3 x i xp y k yp z l zp k1 tp a b d k2 ep p))) := by
  obtain ⟨g1, ok⟩ := and_ok (show (slotL c.N X.env.scope x i && (slotL c.N X.env.scope y k && (slotL c.N X.env.scope z l && (decide (i ≠ k) && (decide (i ≠ l) && (decide (k ≠ l) && (decide (yp.line = xp.line) && (decide (zp.line = xp.line) && ((!([a.un, b.un, d.un].all (foldedForSure 8)) && !([a.un, b.un, d.un].all (constantsAlone 8))) && (a.okE c X.env.scope && (b.okE c X.env.scope && d.okE c X.env.scope))))))))))) = true from ok)
  obtain ⟨g2, ok⟩ := and_ok ok
  obtain ⟨g3, ok⟩ := and_ok ok
  obtain ⟨g4, ok⟩ := and_ok ok
  obtain ⟨g5, ok⟩ := and_ok ok
  obtain ⟨g6, ok⟩ := and_ok ok
  obtain ⟨g7, ok⟩ := and_ok ok
  obtain ⟨g8, ok⟩ := and_ok ok
  obtain ⟨g9, ok⟩ := and_ok ok
  obtain ⟨g9, g10⟩ := and_ok g9
  obtain ⟨o1, ok⟩ := and_ok ok
  obtain ⟨o2, o3⟩ := and_ok ok
  obtain ⟨x1, x2⟩ := slotL_ok g1
  obtain ⟨y1, y2⟩ := slotL_ok g2
  obtain ⟨z1, z2⟩ := slotL_ok g3
  have hik : i ≠ k := of_decide_eq_true g4
  have hil : i ≠ l := of_decide_eq_true g5
  have hkl : k ≠ l := of_decide_eq_true g6
  have hxy : x ≠ y := fun z => hik (nodup_ix n.nd (by rw [n.N]; exact x1) (by rw [n.N, z]; exact y1))
  have hxz : x ≠ z := fun z => hil (nodup_ix n.nd (by rw [n.N]; exact x1) (by rw [n.N, z]; exact z1))
  have hyz : y ≠ z := fun z => hkl (nodup_ix n.nd (by rw [n.N]; exact y1) (by rw [n.N, z]; exact z1))
  refine ⟨fun pins s σ H G I hq => ?_⟩
  have hs : ([a.un, b.un, d.un].any fun | .Starred .. => true | _ => false) = false := by
    have s1 := no_star a
    have s2 := no_star b
    have s3 := no_star d
    simp only [List.any_cons, List.any_nil, Bool.or_false, Bool.or_eq_false_iff]
    exact ⟨s1, s2, s3⟩
  have hw := swap_three (xp := xp) (yp := yp) (zp := zp) (tp := tp) (ep := ep) (k1 := k1) (k2 := k2) (a := a.un) (b := b.un) (c := d.un) I.ok.kind x2 y2 z2 hxy hxz hyz (of_decide_eq_true g7) (of_decide_eq_true g8) (not_ok g9) (not_ok g10) hs
  refine (PS.imp (t' := tS X Z (S.den D (.par3 x i xp y k yp z l zp k1 tp a b d k2 ep p))) (ps_par3 (i := i) (j := k) (l := l) n.calm n.nd (by rw [n.N]; exact x1) (by rw [n.N]; exact y1) (by rw [n.N]; exact z1) hik hil hkl x2 y2 z2
    (pa_cons (E.pe a X Z n false o1) (pa_cons (E.pe b X Z n false o2) (pa_cons (E.pe d X Z n false o3) pa_nil (star_un d _)) (star_un b _)) (star_un a _)) hw) ?_).run pins s σ H G I hq
  rintro G σ H ⟨e0, F, ι, sl, h, j, q⟩
  refine ⟨e0, F, ι, sl, h, j, PoS.out q fun u h1 F1 ι1 H1 v1 l1 j1 r1 q1 => ⟨e0, F1, ι1, sl, h1, j1, PoS.out q1 fun v h2 F2 ι2 H2 v2 l2 j2 r2 q2 => ⟨e0, F2, ι2, sl, h2, j2, PoS.out q2 fun w h3 F3 ι3 H3 v3 l3 j3 r3 q3 => ?_⟩⟩⟩
  exact ⟨v1, v2, v3, rfl, q3 F3 ι3 _ H3 .refl (((j3.setV (r1.mono (l2.trans l3))).setV (r2.mono l3)).setV r3)⟩
/-- a loop -/
theorem whl_rd {G : Ends} {σ : VS} {H : Hp} {tst : Sls → Obs → R Bool} {body : Sls → Obs → Out} {m0 : Nat} {e0 : Ent} {F : Hp} {ι : List Addr} {sl : Sls} {h : Obs} (j : J X.K e0 F ι sl h σ H) (q : PoS X Z e0 F ι (whlGo tst body m0 sl h) G) :
    tWhile (tT X Z tst) (tS X Z body) G σ H := by
  refine ⟨fun m σ H => ∃ F1 ι1 sl h, J X.K e0 F1 ι1 sl h σ H ∧ PoS X Z e0 F1 ι1 (whlGo tst body m sl h) G, ⟨m0, F, ι, sl, h, j, q⟩, ?_⟩
  rintro m σ H ⟨F, ι, sl, h, j, q⟩
  cases m with
  | zero => exact False.elim q
  | succ m =>
    refine ⟨e0, F, ι, sl, h, j, PoS.tst (f := fun h => match body sl h with
      | .nx σ h => whlGo tst body m σ h
      | .ct σ h => whlGo tst body m σ h
      | .bk σ h => .nx σ h
      | .rt w h => .rt w h
      | .exc x σ h => .exc x σ h
      | .bad => .bad) (g := fun h => .nx sl h) (G := G) ?_ fun a h1 F1 ι1 H1 l1 j1 q1 => ?_⟩
    · have q : PoS X Z e0 F ι (match tst sl h with
        | .ok true h => (match body sl h with
          | .nx σ h => whlGo tst body m σ h
          | .ct σ h => whlGo tst body m σ h
          | .bk σ h => .nx σ h
          | .rt w h => .rt w h
          | .exc x σ h => .exc x σ h
          | .bad => .bad)
        | .ok false h => .nx sl h
        | .exc x h => .exc x sl h
        | .bad => .bad) G := q
      cases ht : tst sl h with
      | ok b h1 =>
        rw [ht] at q
        cases b <;> exact q
      | exc x h1 => rw [ht] at q; exact q
      | bad => rw [ht] at q; exact q
    · cases a with
      | false =>
        simp only [Bool.false_eq_true, if_false]
        exact q1 F1 ι1 σ H1 .refl j1
      | true =>
        simp only [if_true]
        refine ⟨fun σ' H' => ∃ F1 ι1 sl h, J X.K e0 F1 ι1 sl h σ' H' ∧ PoS X Z e0 F1 ι1 (whlGo tst body m sl h) G, fun σ' H' w => ⟨m, Nat.lt_succ_self m, w⟩, e0, F1, ι1, sl, h1, j1, ?_⟩
        simp only at q1
        cases hb : body sl h1 with
        | nx s2 h2 => rw [hb] at q1; exact fun F2 ι2 σ2 H2 l2 j2 => ⟨F2, ι2, s2, h2, j2, q1.le l2⟩
        | ct s2 h2 => rw [hb] at q1; exact fun F2 ι2 σ2 H2 l2 j2 => ⟨F2, ι2, s2, h2, j2, q1.le l2⟩
        | bk s2 h2 => rw [hb] at q1; exact q1
        | rt w h2 => rw [hb] at q1; exact q1
        | exc x s2 h2 => rw [hb] at q1; exact q1
        | bad => rw [hb] at q1; exact q1
theorem for_rd {G : Ends} {σ : VS} {H : Hp} {mi : Sls → Obs → R (List W)} {put : W → Sls → Obs → R Sls} {body : Sls → Obs → Out} {e0 : Ent} {F : Hp} {ι : List Addr} {sl : Sls} {h : Obs} (j : J X.K e0 F ι sl h σ H)
    (q : PoS X Z e0 F ι (match mi sl h with | .ok xs h => forGo put body xs sl h | .exc x h => .exc x sl h | .bad => .bad) G) : tFor (tWk X Z mi) (tTg X put) (tS X Z body) G σ H := by
  refine ⟨e0, F, ι, sl, h, j, ?_⟩
  cases hm : mi sl h with
  | bad => rw [hm] at q; exact False.elim q
  | exc x h1 =>
    rw [hm] at q
    exact fun F1 ι1 H1 cls d l1 j1 r1 => q F1 ι1 σ H1 cls d l1 j1 r1
  | ok xs h1 =>
    rw [hm] at q
    have q : PoS X Z e0 F ι (forGo put body xs sl h1) G := q
    intro F1 ι1 H1 t l1 j1 wk
    refine ⟨fun i m σ H => m = xs.length - i ∧ i ≤ xs.length ∧ ∃ F2 ι2 sl h, Le F1 ι1 F2 ι2 ∧ J X.K e0 F2 ι2 sl h σ H ∧ PoS X Z e0 F2 ι2 (forGo put body (xs.drop i) sl h) G, ⟨xs.length, by simp, Nat.zero_le _, F1, ι1, sl, h1, .refl, j1, q.le l1⟩, ?_⟩
    rintro i m σ2 H2 ⟨rfl, hi, F2, ι2, s2, h2, l2, j2, q2⟩
    have w2 := wk i e0 F2 ι2 s2 h2 σ2 H2 l2 j2
    by_cases hlt : i < xs.length
    · right
      have ei : xs[i]? = some xs[i] := List.getElem?_eq_getElem hlt
      obtain ⟨go, yl⟩ := w2.2 _ ei
      refine ⟨go, fun σ' H' => xs.length - (i + 1) = xs.length - (i + 1) ∧ i + 1 ≤ xs.length ∧ ∃ F2 ι2 sl h, Le F1 ι1 F2 ι2 ∧ J X.K e0 F2 ι2 sl h σ' H' ∧ PoS X Z e0 F2 ι2 (forGo put body (xs.drop (i + 1)) sl h) G, fun σ' H' w => ⟨_, by omega, w⟩, fun x H' y => ?_⟩
      obtain ⟨F3, ι3, l3, j3, rx⟩ := yl x H' y
      rw [List.drop_eq_getElem_cons hlt] at q2
      refine ⟨e0, F3, ι3, s2, h2, xs[i], j3, rx, ?_⟩
      have q2 : PoS X Z e0 F2 ι2 (match put xs[i] s2 h2 with
        | .ok σ h => (match body σ h with
          | .nx σ h => forGo put body (xs.drop (i + 1)) σ h
          | .ct σ h => forGo put body (xs.drop (i + 1)) σ h
          | .bk σ h => .nx σ h
          | .rt w h => .rt w h
          | .exc x σ h => .exc x σ h
          | .bad => .bad)
        | _ => .bad) G := q2
      cases hp : put xs[i] s2 h2 with
      | exc z h3 => rw [hp] at q2; exact False.elim q2
      | bad => rw [hp] at q2; exact False.elim q2
      | ok s3 h3 =>
        rw [hp] at q2
        intro F4 ι4 σ4 H4 l4 j4
        refine ⟨e0, F4, ι4, s3, h3, j4, ?_⟩
        have l24 := l3.trans l4
        have q2 : PoS X Z e0 F2 ι2 (match body s3 h3 with
          | .nx σ h => forGo put body (xs.drop (i + 1)) σ h
          | .ct σ h => forGo put body (xs.drop (i + 1)) σ h
          | .bk σ h => .nx σ h
          | .rt w h => .rt w h
          | .exc x σ h => .exc x σ h
          | .bad => .bad) G := q2
        replace q2 := q2.le l24
        cases hb : body s3 h3 with
        | nx s5 h5 => rw [hb] at q2; exact fun F5 ι5 σ5 H5 l5 j5 => ⟨rfl, hlt, F5, ι5, s5, h5, l2.trans (l24.trans l5), j5, q2.le l5⟩
        | ct s5 h5 => rw [hb] at q2; exact fun F5 ι5 σ5 H5 l5 j5 => ⟨rfl, hlt, F5, ι5, s5, h5, l2.trans (l24.trans l5), j5, q2.le l5⟩
        | bk s5 h5 => rw [hb] at q2; exact q2
        | rt w h5 => rw [hb] at q2; exact q2
        | exc z s5 h5 => rw [hb] at q2; exact q2
        | bad => rw [hb] at q2; exact q2
    · left
      rw [List.drop_eq_nil_of_le (by omega)] at q2
      exact ⟨w2.1 (by omega), q2 F2 ι2 σ2 H2 .refl j2⟩
/-- a list of one's own, looked up for a method -/
theorem own_at {e0 : Ent} {F : Hp} {ι : List Addr} {sl : Sls} {h : Obs} {σ : VS} {H : Hp} {i : Nat} {ws : List W} (j : J X.K e0 F ι sl h σ H) (e : sl[i]? = some (.own ws)) :
    ∃ p vs, σ[i]? = some (some (.ref p)) ∧ H p = some (.lst vs) ∧ RVs X.K F ι ws vs ∧ tyV X.K "list" (.ref p) H := by
  obtain ⟨p, vs, q1, q2, rv, _⟩ := j.at_ i _ e
  exact ⟨p, vs, q1, q2, rv, .inl ⟨rfl, _, .inl (.inl q2)⟩⟩
theorem few_one {env : Env} (cp : Pos) (e : E) : ((backTo cp (starEach [e.un] env)).all (fun x => !x.1) && (backToKw cp (keywordEach [] env)).all (fun x => x.1.isSome)
      && decide ([e.un].length + ([] : List Keyword).length + (if ([] : List Keyword).isEmpty then 0 else 1) < 30)) = true := by
  rw [star_un e []]
  rfl
mutual
theorem S.ps : ∀ (s : S) (n : Cs X Z D c), s.okS c X.env.scope = true → PS X s.un (tS X Z (s.den D))
  | .asg x i xp e p, n, ok => by
    refine PS.imp (asg_ps n.toCn false ok) ?_
    rintro G σ H ⟨e0, F, ι, sl, h, j, q⟩
    refine ⟨e0, F, ι, sl, h, j, ?_⟩
    have q : PoS X Z e0 F ι ((e.den D false sl h).out sl fun w h => .nx (sl.set i (.val w)) h) G := q
    show PoV X Z e0 F ι sl σ ((e.den D false sl h).bind fun w h => .ok (.val w) h) _
    cases hr : e.den D false sl h with
    | ok w h1 => rw [hr] at q; exact fun F1 ι1 H1 v l1 j1 r1 => q F1 ι1 _ H1 l1 (j1.setV r1)
    | exc y h1 => rw [hr] at q; exact fun F1 ι1 H1 cls d l1 j1 r1 => q F1 ι1 _ H1 cls d l1 j1 r1
    | bad => rw [hr] at q; exact q
  | .asgO x i xp e p, n, ok => by
    refine PS.imp (asg_ps n.toCn true ok) ?_
    rintro G σ H ⟨e0, F, ι, sl, h, j, q⟩
    refine ⟨e0, F, ι, sl, h, j, ?_⟩
    have q : PoS X Z e0 F ι (match e.fresh D sl h with | .ok ws h => .nx (sl.set i (.own ws)) h | .exc x h => .exc x sl h | .bad => .bad) G := q
    show PoV X Z e0 F ι sl σ ((e.fresh D sl h).bind fun ws h => .ok (.own ws) h) _
    cases hr : e.fresh D sl h with
    | ok w h1 => rw [hr] at q; exact fun F1 ι1 H1 p us l1 j1 n1 r1 => q F1 ι1 _ H1 l1 (j1.setO n1 r1)
    | exc y h1 => rw [hr] at q; exact fun F1 ι1 H1 cls d l1 j1 r1 => q F1 ι1 _ H1 cls d l1 j1 r1
    | bad => rw [hr] at q; exact q
  | .par .., n, ok => par_ps n.toCn ok
  | .par3 .., n, ok => par3_ps n.toCn ok
  | .asgT t e p, n, ok => by
    obtain ⟨o1, o2⟩ := and_ok (show ((!(t.isName && e.isLc) && (!(t.isTupT && e.isTup) || t.oddT)) && (t.okT c X.env.scope && e.okE c X.env.scope)) = true from ok)
    obtain ⟨a1, a2⟩ := and_ok o1
    obtain ⟨o2, o3⟩ := and_ok o2
    have a3 : swappedStores [t.un] e.un X.env = pure none := by
      rcases Bool.or_eq_true_iff.mp a2 with z | z
      · exact stores_un t e z
      · cases t with
        | tup ts k p => exact stores_odd ts k p z _
        | _ => cases z
    refine PS.imp (ps_asg (E.pe e X Z n.toCn false o3) (Tg.pg n.toCn t o2) (sw_tg _ t e a1) a3 (by rw [assignEach_un]; rfl)) ?_
    rintro G σ H ⟨e0, F, ι, sl, h, j, q⟩
    refine ⟨e0, F, ι, sl, h, j, PoS.out q fun w h1 F1 ι1 H1 v l1 j1 r1 q1 => ⟨e0, F1, ι1, sl, h1, w, j1, r1, ?_⟩⟩
    cases hr : t.den D w sl h1 with
    | ok s2 h2 => rw [hr] at q1; exact q1
    | exc y h1 => rw [hr] at q1; exact q1
    | bad => rw [hr] at q1; exact q1
  | .pop t x i xp ap cp p, n, ok => by
    obtain ⟨o1, o2⟩ := and_ok (show ((ap.endLine == cp.line) && (slotB c.N X.env.scope x i && t.okT c X.env.scope)) = true from ok)
    obtain ⟨o2, o3⟩ := and_ok o2
    obtain ⟨h1, h2⟩ := and_ok (show (decide (c.N[i]? = some x) && (visB X.env.scope x && nmB x)) = true from o2)
    obtain ⟨h2, h3⟩ := and_ok h2
    have ho : PE X (.Name x xp) (tVar i) := pe_var (by rw [n.N]; exact of_decide_eq_true h1) (visB_ok h2) (nmB_ok h3).1 (nmB_ok h3).2
    have he := pe_bm0 (apos := ap) (cpos := cp) PySem.F.plainAttrs_list PySem.F.slot_list_pop PySem.F.type_list_pop mt_pop ho rfl o1
    refine PS.imp (ps_asg he (Tg.pg n.toCn t o3) (by cases t <;> rfl) (by cases t <;> rfl) (by rw [assignEach_un]; rfl)) ?_
    rintro G σ H ⟨e0, F, ι, sl, h, j, q⟩
    have q : PoS X Z e0 F ι (match sl[i]? with
      | some (.own ws) => (match ws[ws.length - 1]? with
        | some w => tgo (t.den D w (sl.set i (.own ws.dropLast)) h)
        | none => .bad)
      | _ => .bad) G := q
    split at q
    · rename_i ws e
      obtain ⟨a, vs, q1, q2, rv, ty⟩ := own_at j e
      refine ⟨.ref a, q1, ty, a, vs, ?_⟩
      split at q
      · rename_i w ew
        obtain ⟨v, e2, rw_⟩ := rv.get ew
        refine ⟨v, rfl, rfl, q2, by rw [← rv.length]; exact e2, e0, F, ι, _, h, w, j.mutO e q1 rv.dropLast, rw_, ?_⟩
        cases hr : t.den D w (sl.set i (.own ws.dropLast)) h with
        | ok s2 h2 => rw [hr] at q; exact q
        | exc y h1 => rw [hr] at q; exact q
        | bad => rw [hr] at q; exact q
      · exact False.elim q
    · exact False.elim q
  | .app x i xp ap e cp p, n, ok => by
    obtain ⟨o1, o2⟩ := and_ok (show ((ap.endLine == cp.line) && (slotB c.N X.env.scope x i && e.okE c X.env.scope)) = true from ok)
    obtain ⟨o2, o3⟩ := and_ok o2
    obtain ⟨h1, h2⟩ := and_ok (show (decide (c.N[i]? = some x) && (visB X.env.scope x && nmB x)) = true from o2)
    obtain ⟨h2, h3⟩ := and_ok h2
    have ho : PE X (.Name x xp) (tVar i) := pe_var (by rw [n.N]; exact of_decide_eq_true h1) (visB_ok h2) (nmB_ok h3).1 (nmB_ok h3).2
    have he := pe_bm (apos := ap) (cpos := cp) PySem.F.plainAttrs_list PySem.F.slot_list_append PySem.F.type_list_append mt_append ho (pa_cons (E.pe e X Z n.toCn false o3) pa_nil (star_un e _)) rfl (few_one cp e) o1 (star_un e _) rfl
    refine PS.imp (ps_expr he) ?_
    rintro G σ H ⟨e0, F, ι, sl, h, j, q⟩
    have q : PoS X Z e0 F ι (match sl[i]? with
      | some (.own ws) => (e.den D false sl h).out sl fun w h => (match decide (ws.length < sizeLine) with
        | true => .nx (sl.set i (.own (ws ++ [w]))) h
        | false => .bad)
      | _ => .bad) G := q
    split at q
    · rename_i ws e1
      obtain ⟨a, vs, q1, q2, rv, ty⟩ := own_at j e1
      refine ⟨.ref a, q1, ty, e0, F, ι, sl, h, j, PoS.out q fun w h1 F1 ι1 H1 v l1 j1 r1 q3 => ?_⟩
      obtain ⟨a', vs', z1, z2, rv', _⟩ := own_at j1 e1
      rw [q1] at z1
      cases z1
      cases hd : decide (ws.length < sizeLine) with
      | false => simp only [hd] at q3; exact False.elim q3
      | true =>
        simp only [hd] at q3
        exact ⟨a, vs', v, rfl, rfl, z2, by rw [← rv'.length]; exact of_decide_eq_true hd, q3 F1 ι1 σ _ .refl (j1.mutO e1 q1 (rv'.append (.cons r1 .nil)))⟩
    · exact False.elim q
  | .ext x i xp ap e cp p, n, ok => by
    obtain ⟨o1, o2⟩ := and_ok (show ((ap.endLine == cp.line) && (slotB c.N X.env.scope x i && e.okE c X.env.scope)) = true from ok)
    obtain ⟨o2, o3⟩ := and_ok o2
    obtain ⟨h1, h2⟩ := and_ok (show (decide (c.N[i]? = some x) && (visB X.env.scope x && nmB x)) = true from o2)
    obtain ⟨h2, h3⟩ := and_ok h2
    have ho : PE X (.Name x xp) (tVar i) := pe_var (by rw [n.N]; exact of_decide_eq_true h1) (visB_ok h2) (nmB_ok h3).1 (nmB_ok h3).2
    have he := pe_bm (apos := ap) (cpos := cp) PySem.F.plainAttrs_list PySem.F.slot_list_extend PySem.F.type_list_extend mt_extend ho (pa_cons (E.pe e X Z n.toCn false o3) pa_nil (star_un e _)) rfl (few_one cp e) o1 (star_un e _) rfl
    refine PS.imp (ps_expr he) ?_
    rintro G σ H ⟨e0, F, ι, sl, h, j, q⟩
    have q : PoS X Z e0 F ι (match sl[i]? with
      | some (.own ws) => (e.den D false sl h).out sl fun w h => (match w with
        | .lst us => (match lineN (ws.length + us.length) with
          | true => .nx (sl.set i (.own (ws ++ us))) h
          | false => .bad)
        | _ => .bad)
      | _ => .bad) G := q
    split at q
    · rename_i ws e1
      obtain ⟨a, vs, q1, q2, rv, ty⟩ := own_at j e1
      refine ⟨.ref a, q1, ty, e0, F, ι, sl, h, j, PoS.out q fun w h1 F1 ι1 H1 v l1 j1 r1 q3 => ?_⟩
      obtain ⟨a', vs', z1, z2, rv', _⟩ := own_at j1 e1
      rw [q1] at z1
      cases z1
      cases r1 with
      | @lst us b ys eb ry =>
        cases hd : lineN (ws.length + us.length) with
        | false => simp only [hd] at q3; exact False.elim q3
        | true =>
          simp only [hd] at q3
          exact ⟨a, b, vs', ys, rfl, rfl, z2, j1.hr.sub _ _ eb, by rw [← rv'.length, ← ry.length]; exact lineN_ok hd, q3 F1 ι1 σ _ .refl (j1.mutO e1 q1 (rv'.append ry))⟩
      | _ => exact False.elim q3
    · exact False.elim q
  | .expr e p, n, ok => by
    obtain ⟨o1, o2⟩ := and_ok (show (!e.isLc && e.okE c X.env.scope) = true from ok)
    refine PS.imp (ps_expr (E.pe e X Z n.toCn false o2) (sw_un none _ e (by simpa using o1))) ?_
    rintro G σ H ⟨e0, F, ι, sl, h, j, q⟩
    exact ⟨e0, F, ι, sl, h, j, PoS.out q fun w h1 F1 ι1 H1 v l1 j1 r1 q1 => q1 F1 ι1 σ H1 .refl j1⟩
  | .ret e p, n, ok => by
    refine PS.imp (ps_ret (E.pe e X Z n.toCn false ok)) ?_
    rintro G σ H ⟨e0, F, ι, sl, h, j, q⟩
    exact ⟨e0, F, ι, sl, h, j, PoS.out q fun w h1 F1 ι1 H1 v l1 j1 r1 q1 => q1 F1 ι1 sl σ H1 v .refl j1 r1⟩
  | .retN p, n, ok => PS.imp ps_retN fun G σ H ⟨e0, F, ι, sl, h, j, q⟩ => q F ι sl σ H .non .refl j .non
  | .ite t a b p, n, ok => by
    obtain ⟨o1, o2⟩ := and_ok (show (t.okE c X.env.scope && (a.okS c X.env.scope && b.okS c X.env.scope)) = true from ok)
    obtain ⟨o2, o3⟩ := and_ok o2
    refine PS.imp (ps_if (E.pt t X Z n.toCn o1) (Ss.pss a n o2) (Ss.pss b n o3)) ?_
    rintro G σ H ⟨e0, F, ι, sl, h, j, q⟩
    refine ⟨e0, F, ι, sl, h, j, PoS.tst (f := fun h => a.den D sl h) (g := fun h => b.den D sl h) (G := G) q fun k h1 F1 ι1 H1 l1 j1 q1 => ?_⟩
    cases k with
    | true => exact ⟨e0, F1, ι1, sl, h1, j1, q1⟩
    | false => exact ⟨e0, F1, ι1, sl, h1, j1, q1⟩
  | .whl t b p, n, ok => by
    obtain ⟨o1, o2⟩ := and_ok (show (t.okE c X.env.scope && b.okS c X.env.scope) = true from ok)
    refine PS.imp (ps_while n.po (E.pt t X Z n.toCn o1) (Ss.pss b n o2)) ?_
    rintro G σ H ⟨e0, F, ι, sl, h, j, q⟩
    exact whl_rd j q
  | .for t it b p, n, ok => by
    obtain ⟨o1, o2⟩ := and_ok (show (tgIt t it && (t.okT c X.env.scope && (it.okE c X.env.scope && b.okS c X.env.scope))) = true from ok)
    obtain ⟨o2, o3⟩ := and_ok o2
    obtain ⟨o3, o4⟩ := and_ok o3
    refine PS.imp (ps_for n.po n.calm (It.pi it X Z n.toCn t o1 o3) (Tg.pg n.toCn t o2) (Ss.pss b n o4) (foldedI_un it)) ?_
    rintro G σ H ⟨e0, F, ι, sl, h, j, q⟩
    exact for_rd j q
  | .frz is s, n, ok => by
    refine PS.imp (S.ps s n ok) ?_
    rintro G σ H ⟨e0, F, ι, sl, h, j, q⟩
    obtain ⟨F1, l1, j1⟩ := j.frzS is
    exact ⟨e0, F1, ι, _, h, j1, PoS.le (show PoS X Z e0 F ι (s.den D (frzS is sl) h) G from q) l1⟩
  | .opq st, n, ok => PS.never fun G σ H ⟨e0, F, ι, sl, h, j, q⟩ => q
  | .pass p, n, ok => PS.imp ps_pass fun G σ H ⟨e0, F, ι, sl, h, j, q⟩ => q F ι σ H .refl j
  | .brk p, n, ok => PS.imp ps_break fun G σ H ⟨e0, F, ι, sl, h, j, q⟩ => q F ι σ H .refl j
  | .cnt p, n, ok => PS.imp ps_continue fun G σ H ⟨e0, F, ι, sl, h, j, q⟩ => q F ι σ H .refl j
theorem Ss.pss : ∀ (ss : Ss) (n : Cs X Z D c), ss.okS c X.env.scope = true → PSs X ss.un (tS X Z (ss.den D))
  | .nil, n, ok => PSs.imp pss_nil fun G σ H ⟨e0, F, ι, sl, h, j, q⟩ => q F ι σ H .refl j
  | .cons s ss, n, ok => by
    obtain ⟨o1, o2⟩ := and_ok (show (s.okS c X.env.scope && ss.okS c X.env.scope) = true from ok)
    refine PSs.imp (pss_cons (S.ps s n o1) (Ss.pss ss n o2)) ?_
    rintro G σ H ⟨e0, F, ι, sl, h, j, q⟩
    refine ⟨e0, F, ι, sl, h, j, ?_⟩
    have q : PoS X Z e0 F ι (match s.den D sl h with | .nx σ h => ss.den D σ h | o => o) G := q
    cases hr : s.den D sl h with
    | nx s1 h1 => rw [hr] at q; exact fun F1 ι1 σ1 H1 l1 j1 => ⟨e0, F1, ι1, s1, h1, j1, PoS.le (show PoS X Z e0 F ι (ss.den D s1 h1) G from q) l1⟩
    | bk s1 h1 => rw [hr] at q; exact q
    | ct s1 h1 => rw [hr] at q; exact q
    | rt w h1 => rw [hr] at q; exact q
    | exc x s1 h1 => rw [hr] at q; exact q
    | bad => rw [hr] at q; exact q
end
end
end
end Ev

set_option maxHeartbeats 1000000
namespace Ev
open PySem PySem.Spec PyProof.Rows L2

/-! ## a def by its body -/
section
variable {P : Program} {w : World} {K : PySem.W.Frag} {mg : Str → Option Value} {base : Heap}
theorem fk_of {k : Nat} {f : Addr} {nm qn : Str} {pars : Arguments} {body : List Stmt} {sc : Scope} {dV kV doc pm cdv ct oc : Value} {an od : Option Addr} {osl : Array (Option Value)} {N ps : List Str} {sp : Sp}
    (look : K.lookup f = some ⟨oc, od, .func (PySem.W.fnOf nm qn pars body sc dV kV doc pm an cdv ct), osl⟩) (code : PySem.W.codeIn K cdv qn = true) (S : FnScope N ps sc) (many : ∀ vs H Q Z, sp vs H Q Z → vs.length = ps.length)
    (bd : ∀ (A : Around) (up : List Env) (s : Shared) (H : Hp) (vs : List V) (Q : VK) (Z : XK), Room k (A.deeper (envOfC qn sc s.heap.objs.size f cdv)) → (A.deeper (envOfC qn sc s.heap.objs.size f cdv)).guards = some [] → sp vs H Q Z →
      ∃ t, PSs (cxOf (CX P w) P w K mg base N qn sc f cdv A up s H Z) body t ∧ t { nx := fun _ H' => Q .non H', rt := Q } (L2.start N vs) H) :
    Fk P w K mg base (k + 1) f (PySem.W.fnOf nm qn pars body sc dV kV doc pm an cdv ct) ps sp := ⟨by
  intro A up s H a us vs Q Z room grd ent bnd rel asked
  have many' := many _ _ _ _ asked
  have kept : ∀ b o, base.get? b = some o → s.heap.get? b = some o := fun b o e => (ent.bs b o e).1
  have inK : K.In s.heap := ent.mod.kin.keeps kept
  have kinds : ∀ y ∈ ps.zip us, sc.names.lookup y.1 = some .local ∨ (sc.names.lookup y.1 = some .cell ∧ ((cellsFrom (s.heap.objs.size + 1) sc.names []).lookup y.1).isSome = true) := fun y hy => by
    obtain ⟨y1, y2⟩ := y
    exact (S.par y1 (List.of_mem_zip hy).1).imp id fun q => ⟨q, PySem.W.cellsFrom_some _ _ _ (.inl q)⟩
  refine codeAny_call_function room.depth (inK _ _ look) rfl S.co S.gen rfl (PySem.W.codeRec_of inK code) (bnd _ _ _ _ (wpAny_newFunctionEnv_cells S.kind kinds fun env he s1 x => ?_))
  subst he
  obtain ⟨t, ht, hq⟩ := bd A up s H vs Q Z (room.deeper _) grd asked
  have I : Inv (cxOf (CX P w) P w K mg base N qn sc f cdv A up s H Z) [] (L2.start N vs) H s1 := inv_start S room.hd ent many' rel x
  refine ⟨(ent.mod.nolimit.keeps kept).keeps x.toInCall.keep, codeAny_func (wpAny_mono (ht.run [] s1 (L2.start N vs) H _ I hq) (fun fl s' out => ?_) fun _ _ out => out)⟩
  cases fl with
  | ret u =>
    obtain ⟨v, σ', H', I', rv, q⟩ := out
    exact ⟨v, H', I'.os, I'.bare, I'.base, I'.hok, rv, q⟩
  | next =>
    obtain ⟨σ', H', I', q⟩ := out
    exact ⟨.non, H', I'.os, I'.bare, I'.base, I'.hok, rfl, q⟩
  | brk =>
    obtain ⟨_, _, _, q⟩ := out
    exact False.elim q
  | cont =>
    obtain ⟨_, _, _, q⟩ := out
    exact False.elim q⟩

/-! ## all defs of a program -/
/-- a def as it stands in the module -/
structure DefOk (K : PySem.W.Frag) (mg : Str → Option Value) (fs : Nat → Option Str) (kws : List (Nat × Nat × List Str)) (i : Nat) (d : Df) : Prop where
  ex : ∃ (g : Addr) (pars : Arguments) (sc : Scope) (fd : FuncData), mg d.nm = some (.ref g) ∧ FunD K d.nm d.nm pars d.body.un sc [] [] g fd ∧ Binds K fd (d.N.take d.np) [] ∧ FnScope d.N (d.N.take d.np) sc ∧ d.body.okS ⟨d.N, fs, kws⟩ sc = true ∧ KwOk kws i fd (d.N.take d.np)
  np : d.np ≤ d.N.length
structure Sys (K : PySem.W.Frag) (w : World) (mg : Str → Option Value) (pg : Pg) (kws : List (Nat × Nat × List Str)) : Prop where
  bt : ∀ b : Bt, mg b.nm = none
  ty : ∀ t : Ty, mg t.nm = none
  isi : mg "isinstance" = none
  rng : mg "range" = none
  enum : mg "enumerate" = none
  zip : mg "zip" = none
  fr : ∀ x ∈ frees, mg x = none
  cst : ∀ x a, cstV (pg.cst x) = some a → ∃ v u, mg x = some u ∧ RelV v u ∧ ∀ F ι, RV K F ι a v
  dic : ∀ x kvs, pg.cst x = some (.dic kvs) → DicOk K w mg x kvs
  df : ∀ (i : Nat) (d : Df), pg.defs[i]? = some d → DefOk K mg (fun (i : Nat) => (pg.defs[i]?).map Df.nm) kws i d
theorem startS_start {ws : List W} {vs : List V} {F : Hp} {ι : List Addr} {N : List Str} {h : Obs} {H : Hp} (hr : HR K F ι h H) (rv : RVs K F ι ws vs) (hl : ws.length ≤ N.length) : J K ⟨F, ι, H, fun _ => none⟩ F ι (startS N.length ws) h (L2.start N vs) H where
  hr := hr
  xt := .refl
  len := by
    unfold startS L2.start
    rw [List.length_append, List.length_append, List.length_map, List.length_map, List.length_replicate, List.length_replicate, rv.length]
  at_ := fun i s e => by
    unfold startS at e
    unfold L2.start
    by_cases hi : i < ws.length
    · rw [List.getElem?_append_left (by simpa using hi), List.getElem?_map] at e
      cases q : ws[i]? with
      | none => rw [q] at e; cases e
      | some w =>
        rw [q] at e
        cases e
        obtain ⟨v, e1, r⟩ := rv.get q
        exact ⟨v, by rw [List.getElem?_append_left (by rw [List.length_map, ← rv.length]; exact hi), List.getElem?_map, e1]; rfl, r⟩
    · rw [List.getElem?_append_right (by simpa using hi), List.getElem?_replicate] at e
      split at e
      · cases e; trivial
      · cases e
  ap := fun i j us us' p e1 _ _ _ => by
    unfold startS at e1
    by_cases hi : i < ws.length
    · rw [List.getElem?_append_left (by simpa using hi), List.getElem?_map] at e1
      cases q : ws[i]? with
      | none => rw [q] at e1; cases e1
      | some w => rw [q] at e1; cases e1
    · rw [List.getElem?_append_right (by simpa using hi), List.getElem?_replicate] at e1
      split at e1 <;> cases e1
  hd := fun a o e => by cases e
theorem T_len (pg : Pg) (k i : Nat) (ws : List W) (h : Obs) : pg.T k i ws h = .bad ∨ (∀ d, pg.defs[i]? = some d → d.np ≤ d.N.length) → pg.T k i ws h = .bad ∨ ws.length = (pg.par i).length := by
  rintro (z | z)
  · exact .inl z
  · cases k with
    | zero => exact .inl rfl
    | succ k =>
      cases q : pg.defs[i]? with
      | none => left; show (match pg.defs[i]? with | some d => d.run ⟨pg.T k, pg.cst, pg.par⟩ ws h | none => .bad) = _; rw [q]
      | some d =>
        cases hd : decide (ws.length = d.np) with
        | false =>
          left
          show (match pg.defs[i]? with | some d => d.run ⟨pg.T k, pg.cst, pg.par⟩ ws h | none => .bad) = _
          rw [q]
          show d.run ⟨pg.T k, pg.cst, pg.par⟩ ws h = _
          unfold Df.run
          rw [hd]
        | true =>
          right
          show ws.length = (match pg.defs[i]? with | some d => d.N.take d.np | none => []).length
          rw [q]
          show ws.length = (d.N.take d.np).length
          rw [List.length_take, of_decide_eq_true hd]
          have := z d q
          omega
/-- THE RULE: every def of the text does what the reading says, as deep as there is room -/
theorem Sys.fk {pg : Pg} {kws : List (Nat × Nat × List Str)} (S : Sys K w mg pg kws) : ∀ (k i : Nat) (d : Df), pg.defs[i]? = some d → ∀ g fd, mg d.nm = some (.ref g) → (∃ pars sc, FunD K d.nm d.nm pars d.body.un sc [] [] g fd ∧ FnScope d.N (d.N.take d.np) sc ∧ d.body.okS ⟨d.N, fun i => (pg.defs[i]?).map Df.nm, kws⟩ sc = true) →
    Fk P w K mg base k g fd (d.N.take d.np) (spW K mg (d.N.take d.np).length (pg.T k i))
  | 0, i, d, hd, g, fd, hg, _ => ⟨fun A up s H a us vs Q Z _ _ _ _ _ ⟨F, ι, h, ws, _, _, _, q⟩ => False.elim q⟩
  | k + 1, i, d, hd, g, fd, hg, ⟨pars, sc, F, SC, ok⟩ => by
    obtain ⟨oc, od, dV, kV, doc, pm, an, cdv, ct, osl, rfl, look, code, _, _⟩ := F.ex
    refine fk_of look code SC (fun vs H Q Z ⟨_, _, _, _, e, _⟩ => e) fun A up s H vs Q Z room grd asked => ?_
    obtain ⟨F0, ι0, h0, ws, hl, hr, rv, q⟩ := asked
    have np := (S.df i d hd).np
    have n : Cs (cxOf (CX P w) P w K mg base d.N d.nm sc g cdv A up s H Z) (fun cls dd _ H => Z cls dd H) ⟨pg.T k, pg.cst, pg.par⟩ ⟨d.N, fun i => (pg.defs[i]?).map Df.nm, kws⟩ :=
      { calm := rfl
        tk := takes_of rfl rfl rfl rfl
        N := rfl
        nd := SC.nd
        gd := grd
        un := by have := room.un; show (A.deeper (envOfC d.nm sc s.heap.objs.size g cdv)).units + 70 < cLine; omega
        bt := S.bt
        ty := S.ty
        isi := S.isi
        rng := S.rng
        enum := S.enum
        zip := S.zip
        fr := S.fr
        cst := S.cst
        dic := S.dic
        fn := fun i x hx => by
          cases q : pg.defs[i]? with
          | none =>
            have hx : (pg.defs[i]?).map Df.nm = some x := hx
            rw [q] at hx; cases hx
          | some e =>
            have hx : (pg.defs[i]?).map Df.nm = some x := hx
            rw [q] at hx
            cases hx
            obtain ⟨g', pars', sc', fd', m1, m2, m3, m4, m5, m6⟩ := (S.df i e q).ex
            refine ⟨g', fd', e.N.take e.np, k, m1, m2.kp, m3, ?_, room, Sys.fk S k i e q g' fd' m1 ⟨pars', sc', m2, m4, m5⟩, m6⟩
            show (match pg.defs[i]? with | some d => d.N.take d.np | none => []) = _
            rw [q]
        ar := fun i ws h => T_len pg k i ws h (.inr fun d q => (S.df i d q).np)
        po := passes_of rfl }
    refine ⟨_, Ss.pss d.body n ok, ⟨F0, ι0, H, fun _ => none⟩, F0, ι0, startS d.N.length ws, h0, ?_, ?_⟩
    · refine startS_start hr rv ?_
      rw [rv.length, hl, List.length_take]
      omega
    · have q : (match (match pg.defs[i]? with | some d => d.run ⟨pg.T k, pg.cst, pg.par⟩ ws h0 | none => .bad) with
        | .ok w h' => ∀ F' ι' H' v, Xt F0 ι0 H F' ι' H' → HR K F' ι' h' H' → RV K F' ι' w v → Q v H'
        | .exc x h' => ∀ F' ι' H' cls dd, Xt F0 ι0 H F' ι' H' → HR K F' ι' h' H' → RX K mg F' ι' x cls dd → Z cls dd H'
        | .bad => False) := q
      rw [hd] at q
      have q : (match d.run ⟨pg.T k, pg.cst, pg.par⟩ ws h0 with
        | .ok w h' => ∀ F' ι' H' v, Xt F0 ι0 H F' ι' H' → HR K F' ι' h' H' → RV K F' ι' w v → Q v H'
        | .exc x h' => ∀ F' ι' H' cls dd, Xt F0 ι0 H F' ι' H' → HR K F' ι' h' H' → RX K mg F' ι' x cls dd → Z cls dd H'
        | .bad => False) := q
      unfold Df.run at q
      cases hn : decide (ws.length = d.np) with
      | false => rw [hn] at q; exact False.elim q
      | true =>
        rw [hn] at q
        simp only at q
        cases hb : d.body.den ⟨pg.T k, pg.cst, pg.par⟩ (startS d.N.length ws) h0 with
        | nx s1 h1 => simp only [hb] at q; exact fun F1 ι1 σ1 H1 l1 j1 => q F1 ι1 H1 .non j1.xt j1.hr .non
        | rt u h1 => simp only [hb] at q; exact fun F1 ι1 s1 σ1 H1 v l1 j1 r1 => q F1 ι1 H1 v j1.xt j1.hr r1
        | exc x s1 h1 => simp only [hb] at q; exact fun F1 ι1 σ1 H1 cls dd l1 j1 r1 => q F1 ι1 H1 cls dd j1.xt j1.hr r1
        | bk s1 h1 => simp only [hb] at q
        | ct s1 h1 => simp only [hb] at q
        | bad => simp only [hb] at q
end

/-! ## a law's end -/
theorem law_end {P : Program} {w : World} {K : PySem.W.Frag} {mg mb : Str → Option Value} {k : Nat} {fa a : Addr} {fd : FuncData} {x : Str} {sp : Sp} {s : Shared} {vs : List Value} {ns : List Int}
    (inK : K.In s.heap) (glo : s.heap.Ns mainGlobals mg) (blt : s.heap.Ns builtinsNs mb) (boot : ∀ x : Str, x ≠ "__name__" → mb x = bootBuiltins x) (lim : s.heap.NoLimit) (gens : s.gens = #[])
    (at_ : s.heap.get? a = some { cls := .type "list", data := .seq vs.toArray }) (ia : IntsAre vs ns) (short : ns.length ≤ sizeLine) (room : Room k callerA)
    (fk : ∀ base : Heap, Fk P w K mg base k fa fd [x] sp) (bnd : ∀ (s : Shared) (u : Value), BindsTo s fd ⟨[u], []⟩ [(x, u)])
    (asked : ∀ H : Hp, Only H → SqL K H a (ns.map V.int) → sp [.ref a] H (fun v _ => v = .bl true) fun _ _ _ => False) :
    codeAny (model P w) callerA (.call (.ref fa) ⟨[.ref a], []⟩) (fun r s' => r = .ok (.ret (.bool true)) ∧ OldK s.heap s'.heap ∧ s'.os = s.os ∧ AllBare s'.gens) s := by
  have rel := vals_ints ia
  have go : ∀ H : Hp, Only H → SqL K H a (ns.map V.int) → HOk P w H s.heap → (∀ b u, H b = some u → b = a ∧ K.lookup a = none) →
      codeAny (model P w) callerA (.call (.ref fa) ⟨[.ref a], []⟩) (fun r s' => r = .ok (.ret (.bool true)) ∧ OldK s.heap s'.heap ∧ s'.os = s.os ∧ AllBare s'.gens) s := by
    intro H only sq hok one
    have nodict : ∀ {b : Addr} {o : Obj} {es : Array DictEntry} {ep : Nat}, s.heap.get? b = some o → o.data = .dict es ep → H b = none := fun {b o es ep} e d => by
      cases q : H b with
      | none => rfl
      | some u =>
        rw [(one b u q).1, at_] at e
        cases e
        cases d
    have ns_ : ∀ {b : Addr} {m : Str → Option Value}, s.heap.Ns b m → (hidT s.heap H).Ns b m := fun {b m} z => by
      obtain ⟨o, es, ep, e, d, r⟩ := z
      exact ⟨o, es, ep, hidT_get e (nodict e d), d, r⟩
    have inB : K.In (hidT s.heap H) := fun b o e => hidT_get (inK b o e) (by
      cases q : H b with
      | none => rfl
      | some u =>
        obtain ⟨z1, z2⟩ := one b u q
        rw [z1, z2] at e; cases e)
    have ent : Env0 P w K mg (hidT s.heap H) callerA [] s H := ⟨rfl, ⟨inB, ns_ glo, ⟨mb, ns_ blt, boot⟩, by
        obtain ⟨mc, h1, h2⟩ := lim
        exact ⟨mc, ns_ h1, h2⟩⟩, fun b o e => of_hidT e, Nat.le_of_eq (hidT_size _ _), trivial, fun b hb => (by simp [frs] at hb), hok, .of_eq gens⟩
    refine codeAny_mono ((fk (hidT s.heap H)).run callerA [] s H ⟨[.ref a], []⟩ [.ref a] [.ref a] _ _ room rfl ent (bnd s (.ref a)) (.cons rfl .nil) (asked H only sq)) fun r s' out => ?_
    match r, out with
    | .error e, out =>
      obtain ⟨_, _, _, _, _, _, _, _, _, _, _, _, z⟩ := out
      exact False.elim z
    | .ok .next, out => exact False.elim out
    | .ok .brk, out => exact False.elim out
    | .ok .cont, out => exact False.elim out
    | .ok (.ret u), out =>
      obtain ⟨v, H', os, bare, un, hok', rv, rfl⟩ := out
      cases rv
      refine ⟨rfl, OldK.of_keep fun b o e => ?_, os, bare⟩
      rcases only b with z | ⟨ob, xs, z⟩
      · exact un.keep b o e z (by simp [frs]) (by simp)
      · have e1 := (hok b _ z).1
        have e2 := (hok' b _ (un.frzs b ob _ z)).1
        rw [e] at e1
        rw [e2, ← e1]
  cases look : K.lookup a with
  | some o =>
    have e := inK a o look
    rw [at_] at e
    cases e
    exact go (fun _ => none) (fun _ => .inl rfl) (.inr ⟨_, vs.toArray, _, look, rfl, rfl, rfl, by rw [List.size_toArray, ia.length]; exact short, by simpa using rel⟩) (fun b u z => by cases z) fun b u z => by cases z
  | none =>
    have one : ∀ b u, (upd (fun _ => none) a (HO.frz { cls := .type "list", data := .seq vs.toArray } (.lst (ns.map V.int)))) b = some u → b = a := fun b u z => by
      by_cases hb : b = a
      · exact hb
      · rw [upd_ne hb] at z; cases z
    refine go (upd (fun _ => none) a (.frz { cls := .type "list", data := .seq vs.toArray } (.lst (ns.map V.int)))) (fun b => ?_) (.inl (.inr ⟨_, upd_same⟩)) (fun b u z => ?_) fun b u z => ⟨one b u z, look⟩
    · by_cases hb : b = a
      · exact .inr ⟨_, _, by rw [hb]; exact upd_same⟩
      · exact .inl (upd_ne hb)
    · have e := one b u z
      subst e
      rw [upd_same] at z
      cases z
      exact ⟨at_, by rw [List.length_map]; exact short, vs, _, rel, at_⟩
/-- the goal that the head leaves, from the reading of the law's def -/
theorem walk_end {l : PySem.W.OpenLaw} {n k i : Nat} {q : Program} {loose : List Str} {XP : (Str → Option Value) → Heap → Prop} {YP : World → Heap → Prop} {d : DefRec} {pg : Pg} {kws : List (Nat × Nat × List Str)} {df : Df} {x : Str}
    (hn : l.most = some n) (hn2 : n ≤ sizeLine) (hdf : d.params.defaults = []) (room : Room k callerA) (hd : pg.defs[i]? = some df) (hN : df.N.take df.np = [x]) (hnm : df.nm = d.name)
    (F : ∀ (w : World) (mg : Str → Option Value) (h : Heap), YP w h → h.Ns mainGlobals mg → ∃ K : PySem.W.Frag, K.In h ∧ Sys K w mg pg kws ∧
      ∀ g pars sc fd, mg df.nm = some (.ref g) → FunD K df.nm df.nm pars df.body.un sc [] [] g fd → ∀ (s : Shared) (u : Value), BindsTo s fd ⟨[u], []⟩ [(x, u)])
    (law : ∀ ns : List Int, ns.length ≤ n → ∃ h, pg.T k i [.scr ns] [] = .ok (.bl true) h) :
    PySem.W.WalkO q loose XP YP l.row.toRowW d [] (fun f vs => PySem.call f vs) := by
  refine Att.attach_call hn hdf fun w s₀ s₁ mg mb fa o pm cd doc a vs ns G Y ho hd' hcd hmg hobj hints hlen hg => ?_
  obtain ⟨K, KX, S, bnd⟩ := F w mg _ Y G.T.g
  obtain ⟨g, pars, sc, fd, m1, m2, m3, m4, m5, _⟩ := (S.df i df hd).ex
  have e : g = fa := by
    rw [hnm, hmg] at m1
    cases m1
    rfl
  subst e
  have fk := fun base => S.fk (P := l.row.prog) (w := w) (base := base) k i df hd g fd m1 ⟨pars, sc, m2, m4, m5⟩
  rw [hN] at fk
  refine law_end KX G.T.g G.T.b G.T.builtins G.T.nolimit hg hobj hints (Nat.le_trans hlen hn2) room fk (bnd g pars sc fd m1 m2) fun H only sq => ?_
  obtain ⟨h1, e1⟩ := law ns hlen
  have sub : ∀ b o, H b = some o → H b = some o := fun _ _ e => e
  refine ⟨H, [], [], [.scr ns], rfl, ⟨sub, rfl, .nil, fun n a o e _ => by simp at e⟩, .cons (.scr sq) .nil, ?_⟩
  rw [e1]
  intro F' ι' H' v _ _ r
  cases r
  rfl
end Ev

set_option maxHeartbeats 1000000
namespace Ev
open PySem PySem.Spec PyProof.Rows L2

theorem cstB_ok {K : PySem.W.Frag} : ∀ (n : Nat) {u : Value} {w : W}, cstB K n u w = true → ∃ v, RelV v u ∧ ∀ F ι, RV K F ι w v
  | 0, u, w, h => by cases h
  | n + 1, u, w, h => by
    have many : ∀ (us : List Value) (ws : List W), cstB.all2 (cstB K n) us ws = true → ∃ vs, Vals vs us ∧ ∀ F ι, RVs K F ι ws vs := fun us => by
      induction us with
      | nil =>
        intro ws h
        cases ws with
        | nil => exact ⟨[], .nil, fun _ _ => .nil⟩
        | cons _ _ => cases h
      | cons u us ih =>
        intro ws h
        cases ws with
        | nil => cases h
        | cons w ws =>
          obtain ⟨h1, h2⟩ := and_ok (show (cstB K n u w && cstB.all2 (cstB K n) us ws) = true from h)
          obtain ⟨v, r, q⟩ := cstB_ok n h1
          obtain ⟨vs, rr, qq⟩ := ih ws h2
          exact ⟨v :: vs, .cons r rr, fun F ι => .cons (q F ι) (qq F ι)⟩
    unfold cstB at h
    split at h
    · exact ⟨.non, rfl, fun _ _ => .non⟩
    · cases of_decide_eq_true h
      exact ⟨.bl _, rfl, fun _ _ => .bl _⟩
    · cases of_decide_eq_true h
      exact ⟨.int _, ⟨_, rfl⟩, fun _ _ => .int _⟩
    · cases of_decide_eq_true h
      exact ⟨.str _, ⟨_, rfl⟩, fun _ _ => .str _⟩
    · rename_i ws a
      split at h
      · rename_i c od its m sl lk
        obtain ⟨h1, h2⟩ := and_ok h
        obtain ⟨h2, h3⟩ := and_ok h2
        have hc : c = "tuple" := of_decide_eq_true h1
        subst hc
        obtain ⟨vs, r, q⟩ := many _ _ h3
        exact ⟨.ref a, rfl, fun F ι => .tup (.inr ⟨_, its, m, lk, rfl, rfl, of_decide_eq_true h2, r⟩) (q F ι)⟩
      · cases h
    · cases h
theorem entB_ok {K : PySem.W.Frag} {s : Str} : ∀ {es : List DictEntry} {kvs : List (Str × W)}, entB K es kvs = true → (es.any (·.refKey)) = false ∧
    (∀ a, dicGet kvs s = some a → ∃ e u v, es.find? (·.key.isStr s) = some e ∧ e.val = u ∧ RelV v u ∧ ∀ F ι, RV K F ι a v) ∧ (dicGet kvs s = none → es.find? (·.key.isStr s) = none)
  | [], [], _ => ⟨rfl, fun a z => (by cases z), fun _ => rfl⟩
  | [], _ :: _, h => by cases h
  | _ :: _, [], h => by cases h
  | e :: es, (k, w) :: r, h => by
    obtain ⟨h1, h2⟩ := and_ok (show ((match e.key with | .str x _ => decide (x = k) | _ => false) && (cstB K 6 e.val w && entB K es r)) = true from h)
    obtain ⟨h2, h3⟩ := and_ok h2
    obtain ⟨i1, i2, i3⟩ := entB_ok (s := s) h3
    obtain ⟨v, rv, q⟩ := cstB_ok 6 h2
    have hk : ∃ t, e.key = .str k t := by
      split at h1
      · rename_i x t z
        have hx : x = k := of_decide_eq_true h1
        exact ⟨t, hx ▸ z⟩
      · cases h1
    obtain ⟨t, hk⟩ := hk
    have rk : e.refKey = false := by
      unfold DictEntry.refKey
      rw [hk]
    refine ⟨by rw [List.any_cons, rk, i1]; rfl, ?_⟩
    have is : e.key.isStr s = (k == s) := by rw [hk]; rfl
    by_cases e1 : k = s
    · subst e1
      have g : dicGet ((k, w) :: r) k = some w := by simp [dicGet]
      have f : (e :: es).find? (·.key.isStr k) = some e := by rw [List.find?_cons, is]; simp
      rw [g, f]
      exact ⟨fun a z => (by cases z; exact ⟨e, _, v, rfl, rfl, rv, q⟩), fun z => (by cases z)⟩
    · have g : dicGet ((k, w) :: r) s = dicGet r s := by simp [dicGet, e1]
      have f : (e :: es).find? (·.key.isStr s) = es.find? (·.key.isStr s) := by rw [List.find?_cons, is, beq_false_of_ne e1]
      rw [g, f]
      exact ⟨i2, i3⟩
section
variable {K : PySem.W.Frag} {mg : Str → Option Value} {h : Heap} {fa : List He.Fa} {fn : List He.DefD}
theorem def_of {d : Df} {st : Stmt} {g : Addr} {fd : FuncData} {fs : Nat → Option Str} {kws : List (Nat × Nat × List Str)} {i : Nat} (F : FunD K d.nm d.nm (defArgs st) (defBody st) (defScope st) [] [] g fd) (hg : mg d.nm = some (.ref g)) (hb : defBody st = d.body.un)
    (hs : FnScope d.N (d.N.take d.np) (defScope st)) (ok : d.body.okS ⟨d.N, fs, kws⟩ (defScope st) = true) (np : d.np ≤ d.N.length)
    (bnd : ∀ (kV doc pm : Value) (an : Option Addr) (cdv ct : Value) (us : List Value), us.length = (d.N.take d.np).length → bindArgs (PySem.W.fnOf d.nm d.nm (defArgs st) (defBody st) (defScope st) .none kV doc pm an cdv ct) ⟨us, []⟩ = pure ((d.N.take d.np).zip us))
    (kw : ∀ (kV doc pm : Value) (an : Option Addr) (cdv ct : Value), KwOk kws i (PySem.W.fnOf d.nm d.nm (defArgs st) (defBody st) (defScope st) .none kV doc pm an cdv ct) (d.N.take d.np)) : DefOk K mg fs kws i d := by
  refine ⟨⟨g, defArgs st, defScope st, fd, hg, hb ▸ F, F.bindsN bnd, hs, ok, ?_⟩, np⟩
  obtain ⟨oc, od, dV, kV, doc, pm, an, cdv, ct, osl, rfl, lk, hcd, hD, hK⟩ := F.ex
  rcases hD with ⟨_, rfl⟩ | ⟨e, _⟩
  · exact kw kV doc pm an cdv ct
  · exact absurd rfl e
theorem sys_of {w : World} {cs : List (Str × W)} (X : K.In h) (G : h.Ns mainGlobals mg) {pg : Pg} {kws : List (Nat × Nat × List Str)} (c : He.SaysX (faOf pg.defs) fn (tabsOf cs) [] (cstsB cs) w h K) (hc : pg.cst = fun x => cs.lookup x)
    (hd : ∀ (i : Nat) (d : Df), pg.defs[i]? = some d → DefOk K mg (fun (i : Nat) => (pg.defs[i]?).map Df.nm) kws i d) : Sys K w mg pg kws := by
  have free : ∀ x ∈ frees, mg x = none := fun x hx => He.free_ok X G (c.t.d.facts (List.mem_append_right _ (List.mem_map.mpr ⟨x, hx, rfl⟩)))
  have at_ : ∀ {x : Str} {a : W}, cs.lookup x = some a → cstAt K (x, a) = true := fun e => List.all_eq_true.mp c.more _ (PySem.mem_of_lookup e)
  refine ⟨fun b => free _ (by cases b <;> decide +kernel), fun t => free _ (by cases t <;> decide +kernel), free _ (by decide +kernel), free _ (by decide +kernel), free _ (by decide +kernel), free _ (by decide +kernel), free, fun x a e => ?_, fun x kvs e => ?_, hd⟩
  · rw [hc] at e
    have e1 : cs.lookup x = some a ∧ ∀ kvs, a ≠ .dic kvs := by
      unfold cstV at e
      split at e
      · cases e
      · rename_i o nd
        exact ⟨e, fun kvs z => nd kvs (by rw [e, z])⟩
    have q := at_ e1.1
    unfold cstAt at q
    split at q
    · rename_i u hu
      have q2 : cstB K 6 u a = true := by
        cases a with
        | dic kvs => exact absurd rfl (e1.2 kvs)
        | _ => exact q
      obtain ⟨v, r, rv⟩ := cstB_ok 6 q2
      exact ⟨v, u, PySem.W.mg_of X G hu, r, rv⟩
    · cases q
  · rw [hc] at e
    have q := at_ e
    unfold cstAt at q
    split at q
    · rename_i u hu
      simp only at q
      split at q
      · rename_i a
        obtain ⟨q1, q2⟩ := and_ok q
        have ha : a = He.ga K x := of_decide_eq_true q1
        subst ha
        have hm : ((fun K => He.ga K x, kvs.map fun q => q.1) : He.Tab) ∈ tabsOf cs := List.mem_filterMap.mpr ⟨(x, .dic kvs), PySem.mem_of_lookup e, rfl⟩
        obtain ⟨i, hi, ei⟩ := List.mem_iff_getElem.mp hm
        obtain ⟨es, n, KD⟩ := c.t.tab i (t := (fun K => He.ga K x, kvs.map fun q => q.1)) (by rw [List.getElem?_eq_getElem hi, ei])
        refine ⟨_, es, n, PySem.W.mg_of X G hu, KD, fun s => ?_⟩
        have lk := KD.at_
        unfold dicB at q2
        rw [lk] at q2
        obtain ⟨i1, i2, i3⟩ := entB_ok (s := s) q2
        refine ⟨fun a z => ?_, fun z => ?_⟩
        · obtain ⟨en, u, v, f, rfl, r, rv⟩ := i2 a z
          refine ⟨_, v, ?_, r, rv⟩
          unfold PySem.W.nsIn
          rw [lk]
          simp only
          rw [f]
        · unfold PySem.W.nsIn
          rw [lk]
          simp only
          rw [i3 z]
          simp only
          rw [i1]
          rfl
      · cases q
    · cases q
end
end Ev

set_option maxHeartbeats 4000000
namespace Mx
open PySem Ev
variable {k : Nat} {h : Obs} {w : W}
theorem lineN_small {n : Nat} (h : n ≤ 1000) : lineN n = true := by
  unfold lineN
  rw [sizeLine_eq]
  exact decide_eq_true (by omega)
/-- values without parts that change -/
inductive PV : W → Prop
  | non : PV .non
  | bl (b : Bool) : PV (.bl b)
  | int (i : Int) : PV (.int i)
  | str (s : Str) : PV (.str s)
  | emp : PV .emp
  | tup (ws : List W) : (∀ w ∈ ws, PV w) → PV (.tup ws)
  | lst (ws : List W) : (∀ w ∈ ws, PV w) → PV (.lst ws)
def isIn : W → Bool
  | .int _ => true
  | _ => false
def isCn : W → Bool
  | .int i => decide (0 ≤ i)
  | _ => false
def isLs : W → Bool
  | .lst _ => true
  | .tup _ => true
  | _ => false
/-- words -/
def isWd (s : Str) : Bool := decide (s = "pair") || (decide (s = "sum") || decide (s = "fun"))
def isBr : W → Bool
  | .tup [.str s, _, _] => isWd s
  | _ => false
def isLf : W → Bool
  | .tup [.str s] => decide (s = "count")
  | .tup [.str s, .int i] => decide (s = "letter") && (decide (0 ≤ i) && decide (i ≤ 5))
  | _ => false
theorem eqS {s t : Str} : eqW (.str s) (.str t) = some (decide (s = t)) := by
  by_cases e : s = t
  · subst e
    simp [eqW, W.dat, PyData.depth, PyData.eqv]
  · simp [eqW, W.dat, PyData.depth, PyData.eqv, e]
theorem eqN (i j : Int) : eqW (.int i) (.int j) = some (decide (i = j)) := by
  by_cases e : i = j
  · subst e
    simp [eqW, W.dat, PyData.depth, PyData.eqv]
  · simp [eqW, W.dat, PyData.depth, PyData.eqv, e]
theorem eqB (i j : Bool) : eqW (.bl i) (.bl j) = some (decide (i = j)) := by
  cases i <;> cases j <;> rfl
theorem eqvS (s t : Str) : PyData.eqv (.str s) (.str t) = decide (t = s) := by
  by_cases e : s = t
  · subst e
    simp [PyData.eqv]
  · have e2 : ¬ t = s := fun z => e z.symm
    simp [PyData.eqv, e, e2]
theorem eqvN (i j : Int) : PyData.eqv (.int i) (.int j) = decide (j = i) := by
  by_cases e : i = j
  · subst e
    simp [PyData.eqv]
  · have e2 : ¬ j = i := fun z => e z.symm
    simp [PyData.eqv, e, e2]
/-! ## kinds, as told -/
def K : Nat → W → Option Nat
  | 0, _ => none
  | n + 1, w => match isLf w with
    | true => some 1
    | false => match w with
      | .tup [.str s, a, b] => match isWd s with
        | true => match K n a, K n b with
          | some x, some y => some (1 + x + y)
          | _, _ => none
        | false => none
      | _ => none
theorem K_br {n m : Nat} {w : W} (hl : isLf w = false) (e : K (n + 1) w = some m) : ∃ s a b x y, w = .tup [.str s, a, b] ∧ isWd s = true ∧ K n a = some x ∧ K n b = some y ∧ m = 1 + x + y := by
  unfold K at e
  rw [hl] at e
  simp only at e
  split at e
  · rename_i s a b
    split at e
    · rename_i hw
      split at e
      · rename_i x y q1 q2
        cases e
        exact ⟨s, a, b, x, y, rfl, hw, q1, q2, rfl⟩
      · cases e
    · cases e
  · cases e
def enc (p : W × Nat) : W := .tup [p.1, .int (13 - p.2)]
def tot : List (W × Nat) → Option Nat
  | [] => some 0
  | p :: r => match K p.2 p.1, tot r with
    | some x, some y => some (x + y)
    | _, _ => none
def good (stk : List (W × Nat)) (s : Nat) : Bool := match tot stk with
  | some t => decide (s + t ≤ 60)
  | none => false
theorem K_pos {n x : Nat} {w : W} (e : K n w = some x) : 1 ≤ x := by
  cases n with
  | zero => cases e
  | succ n =>
    cases hl : isLf w with
    | true => unfold K at e; rw [hl] at e; cases e; omega
    | false =>
      obtain ⟨_, _, _, x, y, _, _, _, _, rfl⟩ := K_br hl e
      omega
/-- whether is_kind says so -/
def due (w : W) : Bool := match K 12 w with
  | some t => decide (t ≤ 60)
  | none => false
/-! ## nodes -/
abbrev BI : List (Str × W) := [("name", W.tup []), ("told", .tup []), ("fun", .tup [.int 1]), ("call", .tup [.int 0, .int 0]), ("both", .tup [.int 0, .int 0]), ("first", .tup [.int 0]), ("second", .tup [.int 0]), ("left", .tup [.int 0]), ("right", .tup [.int 0]), ("which", .tup [.int 0, .int 1, .int 1]), ("next", .tup [.int 0]), ("turns", .tup [.int 0, .int 1, .int 0]), ("let", .tup [.int 0, .int 1])]
/-- how many children; none: no word -/
def ary (s : Str) : Option Nat := match dicGet BI s with
  | some (.tup ws) => some ws.length
  | _ => none
def isKw (s : Str) : Bool := decide (s = "fun") || (decide (s = "left") || (decide (s = "right") || decide (s = "turns")))
def upC (m : Int) : W → Bool
  | .int i => decide (0 ≤ i) && decide (i ≤ m)
  | _ => false
def nd : W → Bool
  | .tup (.str s :: r) => match (dicGet BI s).isSome with
    | false => false
    | true => match isKw s with
      | true => (match r with | [x] => due x | _ => false)
      | false => match decide (s = "name") with
        | true => (match r with | [x] => upC 299 x | _ => false)
        | false => match decide (s = "told") with
          | true => (match r with | [x] => upC 1000000 x | _ => false)
          | false => decide (r.length = 0)
  | _ => false
/-- the words without more behind them -/
def isAl (s : Str) : Bool := decide (s = "call") || (decide (s = "both") || (decide (s = "first") || (decide (s = "second") || (decide (s = "which") || (decide (s = "next") || decide (s = "let"))))))
theorem kw_in {s : Str} (e : isKw s = true) : (dicGet BI s).isSome = true := by
  unfold isKw at e
  simp only [Bool.or_eq_true, decide_eq_true_eq] at e
  rcases e with rfl | rfl | rfl | rfl <;> decide +kernel
theorem nm_in : (dicGet BI "name").isSome = true ∧ (dicGet BI "told").isSome = true := by decide +kernel
theorem al_in {s : Str} (e : isKw s = false) (e1 : ¬ s = "name") (e2 : ¬ s = "told") : (dicGet BI s).isSome = isAl s := by
  unfold isKw at e
  simp only [Bool.or_eq_false_iff, decide_eq_false_iff_not] at e
  obtain ⟨e3, e4, e5, e6⟩ := e
  have n1 : ∀ {t : Str}, ¬ s = t → decide (t = s) = false := fun h => decide_eq_false (fun y => h y.symm)
  have c : ∀ {t : Str} (b : W) (r : List (Str × W)), (dicGet ((t, b) :: r) s).isSome = (decide (s = t) || (dicGet r s).isSome) := fun {t} b r => by
    by_cases z : s = t
    · subst z; simp [dicGet]
    · have y := n1 z
      simp [dicGet, y, z]
  simp only [BI, c, decide_eq_false e1, decide_eq_false e2, decide_eq_false e3, decide_eq_false e4, decide_eq_false e5, decide_eq_false e6, Bool.false_or]
  rw [show (dicGet [] s).isSome = false from rfl, Bool.or_false]
  rfl
theorem nd_al {s : Str} {r : List W} (e : isKw s = false) (e1 : ¬ s = "name") (e2 : ¬ s = "told") : nd (.tup (.str s :: r)) = (isAl s && decide (r.length = 0)) := by
  show (match (dicGet BI s).isSome with
    | false => false
    | true => match isKw s with
      | true => (match r with | [x] => due x | _ => false)
      | false => match decide (s = "name") with
        | true => (match r with | [x] => upC 299 x | _ => false)
        | false => match decide (s = "told") with
          | true => (match r with | [x] => upC 1000000 x | _ => false)
          | false => decide (r.length = 0)) = _
  rw [al_in e e1 e2, e, decide_eq_false e1, decide_eq_false e2]
  cases isAl s <;> rfl
/-! ## what a node binds -/
def DD : List (Str × W) := [("name", .lst []), ("told", .lst []), ("fun", .lst [.int 1]), ("call", .lst [.int 0, .int 0]), ("both", .lst [.int 0, .int 0]), ("first", .lst [.int 0]), ("second", .lst [.int 0]), ("left", .lst [.int 0]), ("right", .lst [.int 0]), ("next", .lst [.int 0]), ("let", .lst [.int 0, .int 1]), ("which", .lst [.int 0, .int 1, .int 1]), ("turns", .lst [.int 0, .int 1, .int 0])]
def D0 : List (Str × W) := [("name", .lst []), ("told", .lst []), ("fun", .lst [.int 1]), ("call", .lst [.int 0, .int 0]), ("both", .lst [.int 0, .int 0]), ("first", .lst [.int 0]), ("second", .lst [.int 0])]
theorem dput : dicPut (dicPut (dicPut (dicPut (dicPut (dicPut D0 "left" (.lst [.int 0])) "right" (.lst [.int 0])) "next" (.lst [.int 0])) "let" (.lst [.int 0, .int 1])) "which" (.lst [.int 0, .int 1, .int 1])) "turns" (.lst [.int 0, .int 1, .int 0]) = DD := by rfl
theorem at_end (h : Obs) (x : Ob) : (h ++ [x])[h.length]? = some x := by simp
theorem set_end (h : Obs) (x y : Ob) : (h ++ [x]).set h.length y = h ++ [y] := by simp
theorem sl_small {n : Nat} (h : n ≤ 1000) : n < sizeLine := by
  rw [sizeLine_eq]
  omega
def D1 : List (Str × W) := dicPut (dicPut (dicPut (dicPut D0 "left" (.lst [.int 0])) "right" (.lst [.int 0])) "next" (.lst [.int 0])) "let" (.lst [.int 0, .int 1])
theorem put_ref {D : Dn} {σ : Sls} {p1 p2 p3 : Pos} {h : Obs} {kvs : List (Str × W)} {s : Str} {w : W} (hl : kvs.length ≤ 1000) (e : slotV σ 1 = some (.ref h.length)) :
    (Tg.sub (.name "_law_some" 1 p1) (.str s 0 p2) p3).den D w σ (h ++ [.dic kvs]) = .ok σ (h ++ [.dic (dicPut kvs s w)]) := by
  have z := sl_small hl
  simp [Tg.den, E.den, R.opt, e, at_end, set_end, z]
theorem dd_of {s : Str} {ws : List W} (e : dicGet BI s = some (.tup ws)) : dicGet DD s = some (.lst ws) := by
  have c : ∀ {t : Str} (b : W) (r : List (Str × W)), dicGet ((t, b) :: r) s = if s = t then some b else dicGet r s := fun {t} b r => by
    by_cases z : s = t
    · subst z; simp [dicGet]
    · have y : ¬ t = s := fun y => z y.symm
      simp [dicGet, y, z]
  have n : dicGet [] s = none := rfl
  simp only [BI, c, n] at e
  by_cases z0 : s = "name"
  · subst z0
    rw [if_pos rfl] at e
    cases e
    rfl
  rw [if_neg z0] at e
  by_cases z1 : s = "told"
  · subst z1
    rw [if_pos rfl] at e
    cases e
    rfl
  rw [if_neg z1] at e
  by_cases z2 : s = "fun"
  · subst z2
    rw [if_pos rfl] at e
    cases e
    rfl
  rw [if_neg z2] at e
  by_cases z3 : s = "call"
  · subst z3
    rw [if_pos rfl] at e
    cases e
    rfl
  rw [if_neg z3] at e
  by_cases z4 : s = "both"
  · subst z4
    rw [if_pos rfl] at e
    cases e
    rfl
  rw [if_neg z4] at e
  by_cases z5 : s = "first"
  · subst z5
    rw [if_pos rfl] at e
    cases e
    rfl
  rw [if_neg z5] at e
  by_cases z6 : s = "second"
  · subst z6
    rw [if_pos rfl] at e
    cases e
    rfl
  rw [if_neg z6] at e
  by_cases z7 : s = "left"
  · subst z7
    rw [if_pos rfl] at e
    cases e
    rfl
  rw [if_neg z7] at e
  by_cases z8 : s = "right"
  · subst z8
    rw [if_pos rfl] at e
    cases e
    rfl
  rw [if_neg z8] at e
  by_cases z9 : s = "which"
  · subst z9
    rw [if_pos rfl] at e
    cases e
    rfl
  rw [if_neg z9] at e
  by_cases z10 : s = "next"
  · subst z10
    rw [if_pos rfl] at e
    cases e
    rfl
  rw [if_neg z10] at e
  by_cases z11 : s = "turns"
  · subst z11
    rw [if_pos rfl] at e
    cases e
    rfl
  rw [if_neg z11] at e
  by_cases z12 : s = "let"
  · subst z12
    rw [if_pos rfl] at e
    cases e
    rfl
  rw [if_neg z12] at e
  cases e
/-! ## trees -/
def ar : W → Nat
  | .tup (.str s :: _) => (match dicGet BI s with | some (.tup ws) => ws.length | _ => 0)
  | _ => 0
theorem dic_mem {s : Str} {w : W} : ∀ {kvs : List (Str × W)}, dicGet kvs s = some w → ∃ t, (t, w) ∈ kvs
  | [], e => by cases e
  | (t, x) :: r, e => by
    unfold dicGet at e
    split at e
    · cases e; exact ⟨t, List.mem_cons_self⟩
    · obtain ⟨t, m⟩ := dic_mem e
      exact ⟨t, List.mem_cons_of_mem _ m⟩
theorem bi_tup {s : Str} {w : W} (e : dicGet BI s = some w) : ∃ ws, w = .tup ws ∧ ws.length ≤ 3 := by
  obtain ⟨t, m⟩ := dic_mem e
  simp only [BI, List.mem_cons, Prod.mk.injEq, List.not_mem_nil, or_false] at m
  rcases m with ⟨_, rfl⟩ | ⟨_, rfl⟩ | ⟨_, rfl⟩ | ⟨_, rfl⟩ | ⟨_, rfl⟩ | ⟨_, rfl⟩ | ⟨_, rfl⟩ | ⟨_, rfl⟩ | ⟨_, rfl⟩ | ⟨_, rfl⟩ | ⟨_, rfl⟩ | ⟨_, rfl⟩ | ⟨_, rfl⟩ <;> exact ⟨_, rfl, by decide⟩
theorem nd_get (e : nd w = true) : ∃ s r ws, w = .tup (.str s :: r) ∧ dicGet BI s = some (.tup ws) ∧ ar w = ws.length := by
  unfold nd at e
  split at e
  · rename_i s r
    cases hd : dicGet BI s with
    | none => rw [hd] at e; cases e
    | some x =>
      obtain ⟨ws, rfl, _⟩ := bi_tup hd
      exact ⟨s, r, ws, rfl, hd, by simp [ar, hd]⟩
  · cases e
/-- what lies behind n trees -/
def need : List W → Nat → Option (List W)
  | l, 0 => some l
  | [], _ + 1 => none
  | a :: r, n + 1 => need r (n + ar a)
def full : Option (List W) → Bool
  | some [] => true
  | _ => false
def NDs (l : List W) : Prop := ∀ w ∈ l, nd w = true
theorem need_add : ∀ (l : List W) (u v : Nat), need l (u + v) = (need l u).bind fun r => need r v
  | l, 0, v => by cases l <;> simp [need]
  | [], u + 1, v => by
    have e : u + 1 + v = (u + v) + 1 := by omega
    rw [e]
    rfl
  | a :: r, u + 1, v => by
    have e : u + 1 + v = (u + v) + 1 := by omega
    rw [e]
    show need r (u + v + ar a) = (need r (u + ar a)).bind _
    have e2 : u + v + ar a = (u + ar a) + v := by omega
    rw [e2, need_add r]
theorem need_len : ∀ (l : List W) (u : Nat) (r : List W), need l u = some r → r.length + u ≤ l.length
  | l, 0, r, e => by cases l <;> (cases e; simp)
  | [], u + 1, r, e => by cases e
  | a :: l, u + 1, r, e => by
    have i := need_len l (u + ar a) r e
    simp only [List.length_cons]
    omega
theorem lcGo_map {put : W → Option Sls} {c : Sls → Obs → R Bool} {e : Sls → Obs → R W} {h : Obs} (f : W → W) : ∀ (xs acc : List W), (∀ x ∈ xs, ∃ σ, put x = some σ ∧ c σ h = .ok true h ∧ e σ h = .ok (f x) h) → acc.length + xs.length ≤ 1000 → lcGo put c e xs acc h = .ok (acc ++ xs.map f) h
  | [], acc, _, _ => by simp [lcGo]
  | x :: xs, acc, q, hl => by
    obtain ⟨σ, e1, e2, e3⟩ := q x List.mem_cons_self
    simp only [List.length_cons] at hl
    have z : decide (acc.length < sizeLine) = true := decide_eq_true (sl_small (by omega))
    have i := lcGo_map f xs (acc ++ [f x]) (fun y hy => q y (List.mem_cons_of_mem _ hy)) (by simp only [List.length_append, List.length_cons, List.length_nil]; omega)
    unfold lcGo
    simp only [e1, e2, e3, z]
    rw [i]
    simp
theorem bools_map (g : W → Bool) : ∀ (ns : List W), bools (ns.map fun w => W.bl (g w)) = some (ns.map g)
  | [] => rfl
  | w :: ns => by
    have i := bools_map g ns
    simp [bools, i]
def parts : W → Option (List W)
  | .lst ns => some ns
  | .tup ns => some ns
  | _ => none
def tm (w : W) : Bool := match parts w with
  | some ns => decide (1 ≤ ns.length) && (decide (ns.length ≤ 300) && (ns.all nd && full (need ns 1)))
  | none => false
/-! ## where a tree ends -/
def enc2 (L : Nat) : Option (List W) → W
  | none => .non
  | some r => .int ((L - r.length : Nat) : Int)
theorem need_suf : ∀ (l : List W) (u : Nat) (r : List W), need l u = some r → ∃ p, l = p ++ r
  | l, 0, r, e => by cases l <;> (cases e; exact ⟨[], rfl⟩)
  | [], u + 1, r, e => by cases e
  | a :: l, u + 1, r, e => by
    obtain ⟨p, q⟩ := need_suf l (u + ar a) r e
    exact ⟨a :: p, by rw [q]; rfl⟩
theorem seq {D : Dn} {s : S} {ss : Ss} {σ σ1 : Sls} {h h1 : Obs} (e : s.den D σ h = .nx σ1 h1) : Ss.den D (.cons s ss) σ h = Ss.den D ss σ1 h1 := by
  show (match s.den D σ h with | .nx σ h => ss.den D σ h | o => o) = _
  rw [e]
end Mx

set_option maxHeartbeats 4000000
namespace Mx
open PySem Ev
/-! ## parts of a block -/
def nth : Ss → Nat → S
  | .nil, _ => .pass ⟨0, 0, 0, 0⟩
  | .cons s _, 0 => s
  | .cons _ ss, n + 1 => nth ss n
def dropS : Ss → Nat → Ss
  | ss, 0 => ss
  | .nil, _ => .nil
  | .cons _ ss, n + 1 => dropS ss n
def unfrz : S → S
  | .frz _ s => unfrz s
  | s => s
def forB (s : S) : Ss := match unfrz s with
  | .for _ _ b _ => b
  | _ => .nil
def forT (s : S) : Tg := match unfrz s with
  | .for t _ _ _ => t
  | _ => .tup .nil 0 ⟨0, 0, 0, 0⟩
def forI (s : S) : It := match unfrz s with
  | .for _ i _ _ => i
  | _ => .seq (.non 0 ⟨0, 0, 0, 0⟩)
def whlC (s : S) : E := match unfrz s with
  | .whl c _ _ => c
  | _ => .non 0 ⟨0, 0, 0, 0⟩
def whlB (s : S) : Ss := match unfrz s with
  | .whl _ b _ => b
  | _ => .nil
/-! ## lists of plain values -/
def PVs (ws : List W) : Prop := ∀ w ∈ ws, PV w
theorem PVs.app {a b : List W} (p : PVs a) (q : PVs b) : PVs (a ++ b) := fun w hw => (List.mem_append.mp hw).elim (p w) (q w)
theorem PVs.cons {w : W} {b : List W} (p : PV w) (q : PVs b) : PVs (w :: b) := fun x hx => (List.mem_cons.mp hx).elim (fun e => e ▸ p) (q x)
theorem PVs.nil : PVs [] := fun _ h => by cases h
theorem PVs.take {a : List W} (p : PVs a) (n : Nat) : PVs (a.take n) := fun w hw => p w (List.mem_of_mem_take hw)
theorem PVs.drop {a : List W} (p : PVs a) (n : Nat) : PVs (a.drop n) := fun w hw => p w (List.mem_of_mem_drop hw)
theorem PVs.rep {w : W} (p : PV w) (n : Nat) : PVs (List.replicate n w) := fun x hx => by
  rw [(List.mem_replicate.mp hx).2]; exact p
theorem rep2 (a b : Bool) : ∃ s, reprW (.lst [.bl a, .bl b]) = some s := by
  cases a <;> cases b <;> exact ⟨_, by rfl⟩
theorem rep3 (a b c : Bool) : ∃ s, reprW (.lst [.bl a, .bl b, .bl c]) = some s := by
  cases a <;> cases b <;> cases c <;> exact ⟨_, by rfl⟩
/-- a comprehension with a test -/
theorem lcGo_filt {put : W → Option Sls} {c : Sls → Obs → R Bool} {e : Sls → Obs → R W} {h : Obs} (p : W → Bool) (f : W → W) : ∀ (xs acc : List W), (∀ x ∈ xs, ∃ σ, put x = some σ ∧ c σ h = .ok (p x) h ∧ (p x = true → e σ h = .ok (f x) h)) → acc.length + xs.length ≤ 1000 → lcGo put c e xs acc h = .ok (acc ++ (xs.filter p).map f) h
  | [], acc, _, _ => by simp [lcGo]
  | x :: xs, acc, q, hl => by
    obtain ⟨σ, e1, e2, e3⟩ := q x List.mem_cons_self
    simp only [List.length_cons] at hl
    have z : decide (acc.length < sizeLine) = true := decide_eq_true (sl_small (by omega))
    cases hp : p x with
    | true =>
      have i := lcGo_filt p f xs (acc ++ [f x]) (fun y hy => q y (List.mem_cons_of_mem _ hy)) (by simp only [List.length_append, List.length_cons, List.length_nil]; omega)
      unfold lcGo
      simp only [e1, e2, hp, e3 hp, z]
      rw [i]
      simp [List.filter_cons, hp]
    | false =>
      have i := lcGo_filt p f xs acc (fun y hy => q y (List.mem_cons_of_mem _ hy)) (by omega)
      unfold lcGo
      simp only [e1, e2, hp]
      rw [i]
      simp [List.filter_cons, hp]
/-- [f(x) for x in v] -/
theorem lcCall {D : Dn} {σ : Sls} {h : Obs} {b : Bool} {f i j : Nat} {ws : List W} {g : W → W} (x : Str) (p1 p2 p3 : Pos) (y : Str) (p4 : Pos) (z : Str) (p5 : Pos) (sc : Scope) (p6 : Pos)
    (hv : slotV σ j = some (.lst ws) ∨ slotV σ j = some (.tup ws)) (hc : ∀ w ∈ ws, D.call f [w] h = .ok (g w) h) (no : noOwn σ [i] = true) (hi : i < σ.length) (hl : ws.length ≤ 1000) :
    (E.lc (.call f x p1 (.cons (.name y i p2) .nil) p3) (.name y i p4) (.seq (.name z j p5)) .non [(y, i)] sc p6).den D b σ h = .ok (.lst (ws.map g)) h := by
  have it : (It.seq (.name z j p5)).den D σ h = .ok ws h := by
    rcases hv with hv | hv <;> simp [It.den, E.den, hv, R.opt, R.bind, W.items]
  have lg := lcGo_map (h := h) (put := fun x => (Tg.name y i p4).put x (wipeS σ [i])) (c := fun σ h => Eo.non.tst D σ h) (e := fun σ h => (E.call f x p1 (.cons (.name y i p2) .nil) p3).den D false σ h) g ws [] (fun x hx => ⟨(wipeS σ [i]).set i (.val x), rfl, rfl, by
    have e : slotV ((wipeS σ [i]).set i (.val x)) i = some x := by
      have hl2 : i < (wipeS σ [i]).length := by simp [wipeS, hi]
      simp [slotV, List.getElem?_set_self hl2]
    simp [E.den, Es.den, R.bind, R.opt, e, hc x hx]⟩) (by simpa using hl)
  unfold E.den
  rw [show ixs [(y, i)] = [i] from rfl, no, it]
  simp only [R.bind]
  rw [lg]
  rfl
theorem allW_map (g : W → Bool) (ns : List W) : allW (.lst (ns.map fun w => W.bl (g w))) = some (.bl (ns.all g)) := by
  have hb := bools_map g ns
  show (bools (ns.map fun w => W.bl (g w))).map (fun bs => W.bl (bs.all id)) = _
  rw [hb]
  simp [List.all_map]
/-- [e for x in ..] -/
theorem lcMap {D : Dn} {σ : Sls} {h : Obs} {b : Bool} {i : Nat} {ws : List W} {g : W → W} {e : E} {y : Str} {p4 : Pos} {it : It} {sc : Scope} {p6 : Pos}
    (hit : it.den D σ h = .ok ws h) (he : ∀ w ∈ ws, e.den D false ((wipeS σ [i]).set i (.val w)) h = .ok (g w) h) (no : noOwn σ [i] = true) (hl : ws.length ≤ 1000) :
    (E.lc e (.name y i p4) it .non [(y, i)] sc p6).den D b σ h = .ok (.lst (ws.map g)) h := by
  have lg := lcGo_map (h := h) (put := fun x => (Tg.name y i p4).put x (wipeS σ [i])) (c := fun σ h => Eo.non.tst D σ h) (e := fun σ h => e.den D false σ h) g ws [] (fun x hx => ⟨(wipeS σ [i]).set i (.val x), rfl, rfl, he x hx⟩) (by simpa using hl)
  unfold E.den
  rw [show ixs [(y, i)] = [i] from rfl, no, hit]
  simp only [R.bind]
  rw [lg]
  rfl
/-- [e for x in .. if c] -/
theorem lcFilt {D : Dn} {σ : Sls} {h : Obs} {b : Bool} {i : Nat} {ws : List W} {p : W → Bool} {g : W → W} {e c : E} {y : Str} {p4 : Pos} {it : It} {sc : Scope} {p6 : Pos}
    (hit : it.den D σ h = .ok ws h) (hc : ∀ w ∈ ws, c.tst D ((wipeS σ [i]).set i (.val w)) h = .ok (p w) h) (he : ∀ w ∈ ws, p w = true → e.den D false ((wipeS σ [i]).set i (.val w)) h = .ok (g w) h) (no : noOwn σ [i] = true) (hl : ws.length ≤ 1000) :
    (E.lc e (.name y i p4) it (.some c) [(y, i)] sc p6).den D b σ h = .ok (.lst ((ws.filter p).map g)) h := by
  have lg := lcGo_filt (h := h) (put := fun x => (Tg.name y i p4).put x (wipeS σ [i])) (c := fun σ h => (Eo.some c).tst D σ h) (e := fun σ h => e.den D false σ h) p g ws [] (fun x hx => ⟨(wipeS σ [i]).set i (.val x), rfl, hc x hx, he x hx⟩) (by simpa using hl)
  unfold E.den
  rw [show ixs [(y, i)] = [i] from rfl, no, hit]
  simp only [R.bind]
  rw [lg]
  rfl
/-! ## values that are no numbers of lists -/
theorem nwN (h : Obs) : W.now h .non = .non := rfl
theorem nwB (h : Obs) (b : Bool) : W.now h (.bl b) = .bl b := rfl
theorem nwI (h : Obs) (i : Int) : W.now h (.int i) = .int i := rfl
theorem nwS (h : Obs) (s : Str) : W.now h (.str s) = .str s := rfl
theorem nwT (h : Obs) (ws : List W) : W.now h (.tup ws) = .tup ws := rfl
theorem nwL (h : Obs) (ws : List W) : W.now h (.lst ws) = .lst ws := rfl
theorem nwE (h : Obs) : W.now h .emp = .emp := rfl
theorem nwR (h : Obs) (n : Nat) : W.now h (.ref n) = (match h[n]? with
    | some (.lst ws) => .lst ws
    | some (.dic kvs) => .dic kvs
    | none => .ref n) := rfl
/-! ## kinds -/
inductive Kd where
  | ltr (i : Nat) | cnt | pair (a b : Kd) | sum (a b : Kd) | fn (a b : Kd)
deriving DecidableEq, Inhabited
namespace Kd
def w : Kd → W
  | .ltr i => .tup [.str "letter", .int i]
  | .cnt => .tup [.str "count"]
  | .pair a b => .tup [.str "pair", a.w, b.w]
  | .sum a b => .tup [.str "sum", a.w, b.w]
  | .fn a b => .tup [.str "fun", a.w, b.w]
def d : Kd → PyData
  | .ltr i => .tuple [.str "letter", .int i]
  | .cnt => .tuple [.str "count"]
  | .pair a b => .tuple [.str "pair", a.d, b.d]
  | .sum a b => .tuple [.str "sum", a.d, b.d]
  | .fn a b => .tuple [.str "fun", a.d, b.d]
def signs : Kd → Nat
  | .pair a b | .sum a b | .fn a b => 1 + a.signs + b.signs
  | _ => 1
def deep : Kd → Nat
  | .pair a b | .sum a b | .fn a b => 1 + max a.deep b.deep
  | _ => 1
/-- letters are below n -/
def lw (n : Nat) : Kd → Bool
  | .ltr i => decide (i < n)
  | .cnt => true
  | .pair a b | .sum a b | .fn a b => a.lw n && b.lw n
theorem dat : ∀ a : Kd, a.w.dat = some a.d
  | .ltr i => by simp [w, d, W.dat, W.dats]
  | .cnt => by simp [w, d, W.dat, W.dats]
  | .pair a b => by simp [w, d, W.dat, W.dats, dat a, dat b]
  | .sum a b => by simp [w, d, W.dat, W.dats, dat a, dat b]
  | .fn a b => by simp [w, d, W.dat, W.dats, dat a, dat b]
theorem depth : ∀ a : Kd, a.d.depth = a.deep
  | .ltr i => by simp [d, deep, PyData.depth, PyData.depthAll]
  | .cnt => by simp [d, deep, PyData.depth, PyData.depthAll]
  | .pair a b => by simp [d, deep, PyData.depth, PyData.depthAll, depth a, depth b]; omega
  | .sum a b => by simp [d, deep, PyData.depth, PyData.depthAll, depth a, depth b]; omega
  | .fn a b => by simp [d, deep, PyData.depth, PyData.depthAll, depth a, depth b]; omega
theorem words : ¬ (("letter" : Str) = "count") ∧ ¬ (("letter" : Str) = "pair") ∧ ¬ (("letter" : Str) = "sum") ∧ ¬ (("letter" : Str) = "fun") ∧ ¬ (("count" : Str) = "letter") ∧ ¬ (("count" : Str) = "pair") ∧ ¬ (("count" : Str) = "sum") ∧ ¬ (("count" : Str) = "fun") ∧
    ¬ (("pair" : Str) = "letter") ∧ ¬ (("pair" : Str) = "count") ∧ ¬ (("pair" : Str) = "sum") ∧ ¬ (("pair" : Str) = "fun") ∧ ¬ (("sum" : Str) = "letter") ∧ ¬ (("sum" : Str) = "count") ∧ ¬ (("sum" : Str) = "pair") ∧ ¬ (("sum" : Str) = "fun") ∧
    ¬ (("fun" : Str) = "letter") ∧ ¬ (("fun" : Str) = "count") ∧ ¬ (("fun" : Str) = "pair") ∧ ¬ (("fun" : Str) = "sum") := by decide +kernel
theorem eqT (xs ys : List PyData) : PyData.eqv (.tuple xs) (.tuple ys) = PyData.eqvAll xs ys := by simp only [PyData.eqv]
theorem eqC (x y : PyData) (xs ys : List PyData) : PyData.eqvAll (x :: xs) (y :: ys) = (PyData.eqv x y && PyData.eqvAll xs ys) := by simp only [PyData.eqvAll]
theorem eqE : PyData.eqvAll [] [] = true := by simp only [PyData.eqvAll]
theorem eqE1 (x : PyData) (xs : List PyData) : PyData.eqvAll (x :: xs) [] = false := by simp only [PyData.eqvAll]
theorem eqE2 (x : PyData) (xs : List PyData) : PyData.eqvAll [] (x :: xs) = false := by simp only [PyData.eqvAll]
theorem eqv : ∀ a b : Kd, PyData.eqv a.d b.d = decide (a = b)
  | a, b => by
    have q := words
    have z : ∀ (i j : Nat), decide ((j : Int) = (i : Int)) = decide (i = j) := fun i j => decide_eq_decide.mpr ⟨fun h => by omega, fun h => by omega⟩
    have z2 : ∀ {s t : Str}, ¬ t = s → decide (s = t) = false := fun h => decide_eq_false (fun e => h e.symm)
    cases a <;> cases b <;> simp only [d, eqT, eqC, eqE, eqE1, eqE2, eqvS, eqvN, z, q, z2, reduceCtorEq, decide_true, decide_false, Bool.true_and, Bool.false_and, Bool.and_true, Kd.ltr.injEq, Kd.pair.injEq, Kd.sum.injEq, Kd.fn.injEq, not_false_eq_true]
    all_goals (rename_i a b c e; rw [eqv a c, eqv b e]; by_cases h1 : a = c <;> by_cases h2 : b = e <;> simp [h1, h2])
theorem eq (a b : Kd) (h : a.deep ≤ 64 ∨ b.deep ≤ 64) : eqW a.w b.w = some (decide (a = b)) := by
  unfold eqW
  rw [dat, dat]
  simp only
  rw [depth, depth, decide_eq_true (by omega), eqv]
theorem pv : ∀ a : Kd, PV a.w
  | .ltr i => .tup _ (PVs.cons (.str _) (PVs.cons (.int _) PVs.nil))
  | .cnt => .tup _ (PVs.cons (.str _) PVs.nil)
  | .pair a b => .tup _ (PVs.cons (.str _) (PVs.cons (pv a) (PVs.cons (pv b) PVs.nil)))
  | .sum a b => .tup _ (PVs.cons (.str _) (PVs.cons (pv a) (PVs.cons (pv b) PVs.nil)))
  | .fn a b => .tup _ (PVs.cons (.str _) (PVs.cons (pv a) (PVs.cons (pv b) PVs.nil)))
theorem signs_deep : ∀ (a : Kd) (n : Nat), a.deep ≤ n → a.signs + 1 ≤ 2 ^ n
  | a, 0, h => by cases a <;> simp [deep] at h
  | .ltr i, n + 1, h => by simp [signs]; have := Nat.pow_le_pow_right (n := 2) (by omega) (show 1 ≤ n + 1 by omega); omega
  | .cnt, n + 1, h => by simp [signs]; have := Nat.pow_le_pow_right (n := 2) (by omega) (show 1 ≤ n + 1 by omega); omega
  | .pair a b, n + 1, h => by
    simp only [deep] at h
    have h1 := signs_deep a n (by omega)
    have h2 := signs_deep b n (by omega)
    simp only [signs, Nat.pow_succ]
    omega
  | .sum a b, n + 1, h => by
    simp only [deep] at h
    have h1 := signs_deep a n (by omega)
    have h2 := signs_deep b n (by omega)
    simp only [signs, Nat.pow_succ]
    omega
  | .fn a b, n + 1, h => by
    simp only [deep] at h
    have h1 := signs_deep a n (by omega)
    have h2 := signs_deep b n (by omega)
    simp only [signs, Nat.pow_succ]
    omega
theorem wd : isWd "pair" = true ∧ isWd "sum" = true ∧ isWd "fun" = true := by decide +kernel
/-- what is_kind tells of it -/
theorem kK : ∀ (a : Kd) (n : Nat), a.lw 6 = true → a.deep ≤ n → K n a.w = some a.signs
  | a, 0, _, h => by cases a <;> simp [deep] at h
  | .ltr i, n + 1, hb, h => by
    have hi : i < 6 := of_decide_eq_true hb
    have e : isLf (.tup [.str "letter", .int i]) = true := by
      show (decide (("letter" : Str) = "letter") && (decide (0 ≤ (i : Int)) && decide ((i : Int) ≤ 5))) = true
      rw [decide_eq_true rfl, decide_eq_true (by omega), decide_eq_true (by omega)]
      rfl
    simp [K, w, signs, e]
  | .cnt, n + 1, hb, h => by
    have e : isLf (.tup [.str "count"]) = true := by decide +kernel
    simp [K, w, signs, e]
  | .pair a b, n + 1, hb, h => by
    simp only [deep] at h
    obtain ⟨b1, b2⟩ := Bool.and_eq_true_iff.mp hb
    have e : isLf (.tup [.str "pair", a.w, b.w]) = false := by cases a <;> rfl
    simp [K, w, signs, e, wd, kK a n b1 (by omega), kK b n b2 (by omega)]
  | .sum a b, n + 1, hb, h => by
    simp only [deep] at h
    obtain ⟨b1, b2⟩ := Bool.and_eq_true_iff.mp hb
    have e : isLf (.tup [.str "sum", a.w, b.w]) = false := by cases a <;> rfl
    simp [K, w, signs, e, wd, kK a n b1 (by omega), kK b n b2 (by omega)]
  | .fn a b, n + 1, hb, h => by
    simp only [deep] at h
    obtain ⟨b1, b2⟩ := Bool.and_eq_true_iff.mp hb
    have e : isLf (.tup [.str "fun", a.w, b.w]) = false := by cases a <;> rfl
    simp [K, w, signs, e, wd, kK a n b1 (by omega), kK b n b2 (by omega)]
def word : Kd → Str
  | .ltr _ => "letter" | .cnt => "count" | .pair _ _ => "pair" | .sum _ _ => "sum" | .fn _ _ => "fun"
theorem ix0 (a : Kd) : idxW a.w (.int 0) = some (.str a.word) := by cases a <;> rfl
theorem now (a : Kd) (h : Obs) : W.now h a.w = a.w := by cases a <;> rfl
def isL : Kd → Bool
  | .ltr _ => true
  | _ => false
theorem word_l (a : Kd) : decide (a.word = "letter") = a.isL := by
  have q := words
  cases a <;> simp [word, isL, q]
theorem due_of {a : Kd} (hb : a.lw 6 = true) (hd : a.deep ≤ 12) (hs : a.signs ≤ 60) : due a.w = true := by
  unfold due
  rw [kK a 12 hb hd]
  exact decide_eq_true hs
theorem due_small {a : Kd} (hb : a.lw 6 = true) (hd : a.deep ≤ 5) : due a.w = true := due_of hb (by omega) (by
  have := signs_deep a 5 hd
  omega)
theorem lw_mono {n m : Nat} (h : n ≤ m) : ∀ {a : Kd}, a.lw n = true → a.lw m = true
  | .ltr i, e => decide_eq_true (Nat.lt_of_lt_of_le (of_decide_eq_true e) h)
  | .cnt, _ => rfl
  | .pair a b, e => by
    obtain ⟨b1, b2⟩ := Bool.and_eq_true_iff.mp e
    exact Bool.and_eq_true_iff.mpr ⟨lw_mono h b1, lw_mono h b2⟩
  | .sum a b, e => by
    obtain ⟨b1, b2⟩ := Bool.and_eq_true_iff.mp e
    exact Bool.and_eq_true_iff.mpr ⟨lw_mono h b1, lw_mono h b2⟩
  | .fn a b, e => by
    obtain ⟨b1, b2⟩ := Bool.and_eq_true_iff.mp e
    exact Bool.and_eq_true_iff.mpr ⟨lw_mono h b1, lw_mono h b2⟩
end Kd
/-! ## terms -/
inductive Tm where
  | name (i : Nat) | told (n : Nat) | fn (A : Kd) (b : Tm) | call (f a : Tm) | both (a b : Tm) | first (a : Tm) | second (a : Tm) | left (B : Kd) (a : Tm) | right (A : Kd) (a : Tm)
  | which (s u v : Tm) | next (a : Tm) | turns (A : Kd) (n u s : Tm) | let_ (t u : Tm)
deriving DecidableEq, Inhabited
namespace Tm
def ws : Tm → List W
  | .name i => [.tup [.str "name", .int i]]
  | .told n => [.tup [.str "told", .int n]]
  | .fn A b => .tup [.str "fun", A.w] :: b.ws
  | .call f a => .tup [.str "call"] :: (f.ws ++ a.ws)
  | .both a b => .tup [.str "both"] :: (a.ws ++ b.ws)
  | .first a => .tup [.str "first"] :: a.ws
  | .second a => .tup [.str "second"] :: a.ws
  | .left B a => .tup [.str "left", B.w] :: a.ws
  | .right A a => .tup [.str "right", A.w] :: a.ws
  | .which s u v => .tup [.str "which"] :: (s.ws ++ u.ws ++ v.ws)
  | .next a => .tup [.str "next"] :: a.ws
  | .turns A n u s => .tup [.str "turns", A.w] :: (n.ws ++ u.ws ++ s.ws)
  | .let_ t u => .tup [.str "let"] :: (t.ws ++ u.ws)
def size (t : Tm) : Nat := t.ws.length
def okd (A : Kd) : Option Kd := if A.signs ≤ 60 ∧ A.deep ≤ 12 then some A else none
/-- the kind of a term -/
def kd : List Kd → Tm → Option Kd
  | Γ, .name i => Γ[i]?
  | Γ, .told n => some .cnt
  | Γ, .fn A b => (b.kd (A :: Γ)).bind fun B => okd (.fn A B)
  | Γ, .call f a => (f.kd Γ).bind fun F => (a.kd Γ).bind fun A => match F with
    | .fn A' B => if A' = A then some B else none
    | _ => none
  | Γ, .both a b => (a.kd Γ).bind fun A => (b.kd Γ).bind fun B => okd (.pair A B)
  | Γ, .first a => (a.kd Γ).bind fun P => match P with
    | .pair A _ => some A
    | _ => none
  | Γ, .second a => (a.kd Γ).bind fun P => match P with
    | .pair _ B => some B
    | _ => none
  | Γ, .left B a => (a.kd Γ).bind fun A => okd (.sum A B)
  | Γ, .right A a => (a.kd Γ).bind fun B => okd (.sum A B)
  | Γ, .which s u v => (s.kd Γ).bind fun P => match P with
    | .sum A B => (u.kd (A :: Γ)).bind fun C => (v.kd (B :: Γ)).bind fun C' => if C = C' then some C else none
    | _ => none
  | Γ, .next a => (a.kd Γ).bind fun A => if A = .cnt then some .cnt else none
  | Γ, .turns A n u s => (n.kd Γ).bind fun N => (u.kd (A :: Γ)).bind fun U => (s.kd Γ).bind fun S => if N = .cnt ∧ U = A ∧ S = A then some A else none
  | Γ, .let_ t u => (t.kd Γ).bind fun A => u.kd (A :: Γ)
/-- a bound of what is told: names to m, counts to n, kinds so deep, their letters below l -/
def lim (m n dp l : Nat) : Tm → Bool
  | .name i => decide (i ≤ m)
  | .told k => decide (k ≤ n)
  | .fn A b => decide (A.deep ≤ dp) && (A.lw l && b.lim m n dp l)
  | .call f a => f.lim m n dp l && a.lim m n dp l
  | .both a b => a.lim m n dp l && b.lim m n dp l
  | .first a => a.lim m n dp l
  | .second a => a.lim m n dp l
  | .left A a => decide (A.deep ≤ dp) && (A.lw l && a.lim m n dp l)
  | .right A a => decide (A.deep ≤ dp) && (A.lw l && a.lim m n dp l)
  | .which s u v => s.lim m n dp l && (u.lim m n dp l && v.lim m n dp l)
  | .next a => a.lim m n dp l
  | .turns A t u s => decide (A.deep ≤ dp) && (A.lw l && (t.lim m n dp l && (u.lim m n dp l && s.lim m n dp l)))
  | .let_ t u => t.lim m n dp l && u.lim m n dp l
theorem pvs : ∀ t : Tm, PVs t.ws
  | .name i => .cons (.tup _ (PVs.cons (.str _) (PVs.cons (.int _) PVs.nil))) .nil
  | .told n => .cons (.tup _ (PVs.cons (.str _) (PVs.cons (.int _) PVs.nil))) .nil
  | .fn A b => .cons (.tup _ (PVs.cons (.str _) (PVs.cons A.pv PVs.nil))) (pvs b)
  | .call f a => .cons (.tup _ (PVs.cons (.str _) PVs.nil)) ((pvs f).app (pvs a))
  | .both f a => .cons (.tup _ (PVs.cons (.str _) PVs.nil)) ((pvs f).app (pvs a))
  | .first a => .cons (.tup _ (PVs.cons (.str _) PVs.nil)) (pvs a)
  | .second a => .cons (.tup _ (PVs.cons (.str _) PVs.nil)) (pvs a)
  | .left A b => .cons (.tup _ (PVs.cons (.str _) (PVs.cons A.pv PVs.nil))) (pvs b)
  | .right A b => .cons (.tup _ (PVs.cons (.str _) (PVs.cons A.pv PVs.nil))) (pvs b)
  | .which s u v => .cons (.tup _ (PVs.cons (.str _) PVs.nil)) (((pvs s).app (pvs u)).app (pvs v))
  | .next a => .cons (.tup _ (PVs.cons (.str _) PVs.nil)) (pvs a)
  | .turns A s u v => .cons (.tup _ (PVs.cons (.str _) (PVs.cons A.pv PVs.nil))) (((pvs s).app (pvs u)).app (pvs v))
  | .let_ f a => .cons (.tup _ (PVs.cons (.str _) PVs.nil)) ((pvs f).app (pvs a))
end Tm
/-! ## the pot -/
structure Vd (a b : Int) : Prop where
  u : 0 ≤ a
  v : 0 ≤ b
  w : b < 4294967296
abbrev PT (a b : Int) (t : Obs) : Obs := .lst [.int a, .int b] :: t
/-- how many nodes a drawn term has at most -/
def M : Nat → Nat → Nat
  | 0, 0 => 2
  | 0, q + 1 => 1 + 2 * M 0 q
  | d + 1, q => 2 + M d 1 + 2 * M d q
theorem M_two : ∀ d q, 2 ≤ M d q
  | 0, 0 => by simp [M]
  | 0, q + 1 => by have := M_two 0 q; simp [M]; omega
  | d + 1, q => by have := M_two d q; simp [M]; omega
theorem M_succ : ∀ d q, M d q ≤ M d (q + 1)
  | 0, q => by simp only [M]; omega
  | d + 1, q => by have := M_succ d q; simp only [M]; omega
theorem M_mono (d : Nat) : ∀ {q r : Nat}, q ≤ r → M d q ≤ M d r := fun {q r} h => by
  induction h with
  | refl => exact Nat.le_refl _
  | step _ ih => exact Nat.le_trans ih (M_succ d _)
theorem M_str : ∀ d q, 1 + 2 * M (d - 1) q ≤ M d (q + 1)
  | 0, q => by simp [M]
  | d + 1, q => by have := M_succ d q; simp only [M, Nat.add_sub_cancel]; omega
end Mx

set_option maxHeartbeats 4000000
namespace Mx
open PySem Ev
/-! ## how long a repr is -/
def lenS (d : PyData) : Nat := (PyData.shown d).length
theorem len_int (i : Int) : lenS (.int i) ≤ i.natAbs + 2 := by
  have h := PyProof.Rows.len_str_of_int i
  have e : PyData.shown (.int i) = Str.ofString (toString i) := by simp only [PyData.shown]
  show (PyData.shown (.int i)).length ≤ _
  rw [e]
  omega
theorem len_bool (b : Bool) : lenS (.bool b) ≤ 5 := by cases b <;> decide +kernel
def lenA : List PyData → Nat
  | [] => 0
  | d :: ds => lenS d + 2 + lenA ds
theorem lenA_app (a b : List PyData) : lenA (a ++ b) = lenA a + lenA b := by
  induction a with
  | nil => simp [lenA]
  | cons d ds ih => simp only [List.cons_append, lenA, ih]; omega
theorem lenA_piled : ∀ ds : List PyData, piled (PyData.shownAll ds) = lenA ds
  | [] => by simp [PyData.shownAll, lenA, piled_nil]
  | d :: ds => by
    rw [PyData.shownAll, piled_cons, lenA_piled ds, lenA]
    rfl
theorem slen (a b : Str) : (a ++ b).length = a.length + b.length := strLen_append a b
theorem listText_le : ∀ ts : List Str, (listText ts).length ≤ piled ts + 2
  | [] => by decide +kernel
  | t :: ts => by
    have h := textFrom_length_pos ts 1 (("[" : Str) ++ (if (0 : Nat) > 0 then ", " else "" : String) ++ t) (by omega)
    show (textFrom 1 _ ts ++ ("]" : Str)).length ≤ _
    rw [slen, h, piled_cons, slen, slen]
    have e1 : (("[" : String) : Str).length = 1 := by decide +kernel
    have e2 : ((if (0 : Nat) > 0 then ", " else "" : String) : Str).length = 0 := by decide +kernel
    have e3 : (("]" : String) : Str).length = 1 := by decide +kernel
    omega
theorem tupleText_le (ts : List Str) : (tupleText ts).length ≤ piled ts + 3 := by
  unfold tupleText
  rw [slen, slen]
  have e1 : (("(" : String) : Str).length = 1 := by decide +kernel
  have e2 : ((if ts.length == 1 then ",)" else ")" : String) : Str).length ≤ 2 := by
    split <;> decide +kernel
  cases ts with
  | nil =>
    have e3 : (Str.join ", " ([] : List Str)).length = 0 := by decide +kernel
    rw [piled_nil]
    omega
  | cons t r =>
    have h := join_length_add (t :: r) (by simp)
    omega
theorem len_list (ds : List PyData) : lenS (.list ds) ≤ lenA ds + 2 := by
  have h := listText_le (PyData.shownAll ds)
  rw [lenA_piled] at h
  have e : PyData.shown (.list ds) = listText (PyData.shownAll ds) := by simp only [PyData.shown]
  show (PyData.shown (.list ds)).length ≤ _
  rw [e]
  exact h
theorem len_tup (ds : List PyData) : lenS (.tuple ds) ≤ lenA ds + 3 := by
  have h := tupleText_le (PyData.shownAll ds)
  rw [lenA_piled] at h
  have e : PyData.shown (.tuple ds) = tupleText (PyData.shownAll ds) := by simp only [PyData.shown]
  show (PyData.shown (.tuple ds)).length ≤ _
  rw [e]
  exact h
theorem len_words : lenS (.str "letter") = 8 ∧ lenS (.str "count") = 7 ∧ lenS (.str "pair") = 6 ∧ lenS (.str "sum") = 5 ∧ lenS (.str "fun") = 5 ∧ lenS (.str "name") = 6 ∧ lenS (.str "told") = 6 ∧ lenS (.str "call") = 6 ∧ lenS (.str "both") = 6 ∧ lenS (.str "first") = 7 ∧ lenS (.str "second") = 8 ∧
    lenS (.str "left") = 6 ∧ lenS (.str "right") = 7 ∧ lenS (.str "which") = 7 ∧ lenS (.str "next") = 6 ∧ lenS (.str "turns") = 7 ∧ lenS (.str "let") = 5 := by
  refine ⟨?_, ?_, ?_, ?_, ?_, ?_, ?_, ?_, ?_, ?_, ?_, ?_, ?_, ?_, ?_, ?_, ?_⟩ <;> decide +kernel
/-- a repr that there is -/
theorem repr_some {w : W} {d : PyData} (e : w.dat = some d) (h1 : d.showable = true) (h2 : d.depth ≤ 64) (h3 : lenS d ≤ 16000000) : ∃ s, reprW w = some s := by
  have h4 : lineN d.shown.length = true := by
    have h3 : d.shown.length ≤ 16000000 := h3
    unfold lineN
    rw [sizeLine_eq]
    exact decide_eq_true (by omega)
  refine ⟨d.shown, ?_⟩
  unfold reprW
  rw [e]
  simp only
  rw [h1, decide_eq_true h2, h4]
  rfl
theorem show_nat {n : Nat} (h : n ≤ 1000000000) : (PyData.int n).showable = true := by
  simp only [PyData.showable]
  refine decide_eq_true ?_
  have h2 : ((n : Int)).natAbs = n := by omega
  rw [h2]
  have : n.log2 < 1920 := by
    by_cases z : n = 0
    · subst z; decide
    · have : n.log2 < 30 := (Nat.log2_lt z).mpr (by omega)
      omega
  exact this
namespace Kd
/-! ## what is told of kinds -/
theorem showb : ∀ a : Kd, a.lw 1000 = true → a.d.showable = true
  | .ltr i, h => by
    have hi : i < 1000 := of_decide_eq_true h
    simp only [d, PyData.showable, PyData.showableAll, Bool.true_and, Bool.and_true]
    exact show_nat (by omega)
  | .cnt, _ => by simp [d, PyData.showable, PyData.showableAll]
  | .pair a b, h => by
    obtain ⟨h1, h2⟩ := Bool.and_eq_true_iff.mp h
    simp [d, PyData.showable, PyData.showableAll, showb a h1, showb b h2]
  | .sum a b, h => by
    obtain ⟨h1, h2⟩ := Bool.and_eq_true_iff.mp h
    simp [d, PyData.showable, PyData.showableAll, showb a h1, showb b h2]
  | .fn a b, h => by
    obtain ⟨h1, h2⟩ := Bool.and_eq_true_iff.mp h
    simp [d, PyData.showable, PyData.showableAll, showb a h1, showb b h2]
theorem len_le : ∀ a : Kd, a.lw 6 = true → lenS a.d ≤ 25 * a.signs
  | .ltr i, h => by
    have hi : i < 6 := of_decide_eq_true h
    have h1 := len_tup [.str "letter", .int i]
    have h2 := len_int (i : Int)
    have h3 := len_words.1
    simp only [lenA] at h1
    simp only [d, signs]
    omega
  | .cnt, _ => by
    have h1 := len_tup [.str "count"]
    have h3 := len_words.2.1
    simp only [lenA] at h1
    simp only [d, signs]
    omega
  | .pair a b, h => by
    obtain ⟨b1, b2⟩ := Bool.and_eq_true_iff.mp h
    have h1 := len_tup [.str "pair", a.d, b.d]
    have h3 := len_words.2.2.1
    have h4 := len_le a b1
    have h5 := len_le b b2
    simp only [lenA] at h1
    simp only [d, signs]
    omega
  | .sum a b, h => by
    obtain ⟨b1, b2⟩ := Bool.and_eq_true_iff.mp h
    have h1 := len_tup [.str "sum", a.d, b.d]
    have h3 := len_words.2.2.2.1
    have h4 := len_le a b1
    have h5 := len_le b b2
    simp only [lenA] at h1
    simp only [d, signs]
    omega
  | .fn a b, h => by
    obtain ⟨b1, b2⟩ := Bool.and_eq_true_iff.mp h
    have h1 := len_tup [.str "fun", a.d, b.d]
    have h3 := len_words.2.2.2.2.1
    have h4 := len_le a b1
    have h5 := len_le b b2
    simp only [lenA] at h1
    simp only [d, signs]
    omega
mutual
def shown : Kd → Bool
  | .ltr _ => true | .cnt => true
  | .pair a b => a.shown && b.shown
  | .sum a b => a.shown && b.shown
  | .fn a b => a.met && b.shown
def met : Kd → Bool
  | .ltr _ => true | .cnt => false | .sum _ _ => false
  | .pair a b => a.met && b.met
  | .fn a b => a.shown && b.met
end
def data : Kd → Bool
  | .ltr _ => false | .cnt => true | .fn _ _ => false
  | .pair a b => a.data && b.data
  | .sum a b => a.data && b.data
def lets : Kd → List Nat
  | .ltr i => [i] | .cnt => []
  | .pair a b | .sum a b | .fn a b => a.lets ++ b.lets
def put : Kd → Nat → Kd → Kd
  | .ltr i, l, o => if i = l then o else .ltr i
  | .cnt, _, _ => .cnt
  | .pair a b, l, o => .pair (a.put l o) (b.put l o)
  | .sum a b, l, o => .sum (a.put l o) (b.put l o)
  | .fn a b, l, o => .fn (a.put l o) (b.put l o)
theorem signs_pos (a : Kd) : 1 ≤ a.signs := by cases a <;> simp [signs] <;> omega
theorem deep_pos (a : Kd) : 1 ≤ a.deep := by cases a <;> simp [deep] <;> omega
theorem lets_len : ∀ a : Kd, 2 * a.lets.length ≤ a.signs + 1
  | .ltr i => by simp [lets, signs]
  | .cnt => by simp [lets, signs]
  | .pair a b => by have := lets_len a; have := lets_len b; simp [lets, signs]; omega
  | .sum a b => by have := lets_len a; have := lets_len b; simp [lets, signs]; omega
  | .fn a b => by have := lets_len a; have := lets_len b; simp [lets, signs]; omega
theorem lets_lw (n : Nat) : ∀ a : Kd, a.lw n = true → ∀ i ∈ a.lets, i < n
  | .ltr i, h => by
    intro j hj
    have e := List.mem_singleton.mp hj
    subst e
    exact of_decide_eq_true h
  | .cnt, _ => by intro j hj; cases hj
  | .pair a b, h => by
    obtain ⟨h1, h2⟩ := Bool.and_eq_true_iff.mp h
    intro j hj
    rcases List.mem_append.mp hj with z | z
    · exact lets_lw n a h1 j z
    · exact lets_lw n b h2 j z
  | .sum a b, h => by
    obtain ⟨h1, h2⟩ := Bool.and_eq_true_iff.mp h
    intro j hj
    rcases List.mem_append.mp hj with z | z
    · exact lets_lw n a h1 j z
    · exact lets_lw n b h2 j z
  | .fn a b, h => by
    obtain ⟨h1, h2⟩ := Bool.and_eq_true_iff.mp h
    intro j hj
    rcases List.mem_append.mp hj with z | z
    · exact lets_lw n a h1 j z
    · exact lets_lw n b h2 j z
theorem put_signs (l : Nat) (o : Kd) : ∀ a : Kd, (a.put l o).signs = a.signs + a.lets.count l * (o.signs - 1)
  | .ltr i => by
    by_cases h : i = l
    · subst h
      have := o.signs_pos
      simp [put, lets, signs]
      omega
    · simp [put, lets, signs, h]
  | .cnt => by simp [put, lets, signs]
  | .pair a b => by simp only [put, lets, signs, put_signs l o a, put_signs l o b, List.count_append, Nat.add_mul]; omega
  | .sum a b => by simp only [put, lets, signs, put_signs l o a, put_signs l o b, List.count_append, Nat.add_mul]; omega
  | .fn a b => by simp only [put, lets, signs, put_signs l o a, put_signs l o b, List.count_append, Nat.add_mul]; omega
theorem put_deep (l : Nat) (o : Kd) : ∀ a : Kd, (a.put l o).deep + 1 ≤ a.deep + o.deep
  | .ltr i => by
    have := o.deep_pos
    by_cases h : i = l <;> simp [put, deep, h] <;> omega
  | .cnt => by have := o.deep_pos; simp [put, deep]; omega
  | .pair a b => by have := put_deep l o a; have := put_deep l o b; simp only [put, deep]; omega
  | .sum a b => by have := put_deep l o a; have := put_deep l o b; simp only [put, deep]; omega
  | .fn a b => by have := put_deep l o a; have := put_deep l o b; simp only [put, deep]; omega
theorem put_lw (n l : Nat) (o : Kd) (ho : o.lw n = true) : ∀ a : Kd, a.lw n = true → (a.put l o).lw n = true
  | .ltr i, h => by
    by_cases z : i = l
    · simp [put, z, ho]
    · simpa [put, z] using h
  | .cnt, _ => rfl
  | .pair a b, h => by
    obtain ⟨h1, h2⟩ := Bool.and_eq_true_iff.mp h
    simp [put, lw, put_lw n l o ho a h1, put_lw n l o ho b h2]
  | .sum a b, h => by
    obtain ⟨h1, h2⟩ := Bool.and_eq_true_iff.mp h
    simp [put, lw, put_lw n l o ho a h1, put_lw n l o ho b h2]
  | .fn a b, h => by
    obtain ⟨h1, h2⟩ := Bool.and_eq_true_iff.mp h
    simp [put, lw, put_lw n l o ho a h1, put_lw n l o ho b h2]
theorem put_self (l : Nat) : ∀ a : Kd, a.put l (.ltr l) = a
  | .ltr i => by by_cases h : i = l <;> simp [put, h]
  | .cnt => rfl
  | .pair a b => by simp [put, put_self l a, put_self l b]
  | .sum a b => by simp [put, put_self l a, put_self l b]
  | .fn a b => by simp [put, put_self l a, put_self l b]
theorem put_not (l : Nat) (o : Kd) : ∀ a : Kd, l ∉ a.lets → a.put l o = a
  | .ltr i, h => by
    have : ¬ i = l := fun z => h (by simp [lets, z])
    simp [put, this]
  | .cnt, _ => rfl
  | .pair a b, h => by
    simp only [lets, List.mem_append, not_or] at h
    simp [put, put_not l o a h.1, put_not l o b h.2]
  | .sum a b, h => by
    simp only [lets, List.mem_append, not_or] at h
    simp [put, put_not l o a h.1, put_not l o b h.2]
  | .fn a b, h => by
    simp only [lets, List.mem_append, not_or] at h
    simp [put, put_not l o a h.1, put_not l o b h.2]
end Kd
end Mx

set_option maxHeartbeats 4000000
namespace Mx
open PySem Ev
mutual
theorem eqv_same : ∀ d : PyData, d.plain = true → PyData.eqv d d = true
  | .none, _ => by simp only [PyData.eqv]
  | .bool _, _ => by simp only [PyData.eqv, beq_self_eq_true]
  | .int _, _ => by simp only [PyData.eqv, beq_self_eq_true]
  | .str _, _ => by simp only [PyData.eqv, beq_self_eq_true]
  | .list ds, h => by
    simp only [PyData.eqv]
    exact eqvA_same ds h
  | .tuple ds, h => by
    simp only [PyData.eqv]
    exact eqvA_same ds h
  | .dict _, h => by cases h
theorem eqvA_same : ∀ ds : List PyData, PyData.plainAll ds = true → PyData.eqvAll ds ds = true
  | [], _ => by simp only [PyData.eqvAll]
  | d :: ds, h => by
    obtain ⟨h1, h2⟩ := Bool.and_eq_true_iff.mp (show (d.plain && PyData.plainAll ds) = true from h)
    simp only [PyData.eqvAll, eqv_same d h1, eqvA_same ds h2, Bool.and_self]
end
mutual
theorem dat_plain' : ∀ {w : W} {d : PyData}, w.dat = some d → d.plain = true
  | .non, _, e => by unfold W.dat at e; cases e; rfl
  | .bl _, _, e => by unfold W.dat at e; cases e; rfl
  | .int _, _, e => by unfold W.dat at e; cases e; rfl
  | .str _, _, e => by unfold W.dat at e; cases e; rfl
  | .tup ws, _, e => by
    unfold W.dat at e
    cases q : W.dats ws with
    | none => rw [q] at e; cases e
    | some ds => rw [q] at e; cases e; exact dats_plain' q
  | .lst ws, _, e => by
    unfold W.dat at e
    cases q : W.dats ws with
    | none => rw [q] at e; cases e
    | some ds => rw [q] at e; cases e; exact dats_plain' q
  | .ty _, _, e => by unfold W.dat at e; cases e
  | .emp, _, e => by unfold W.dat at e; cases e
  | .scr _, _, e => by unfold W.dat at e; cases e
  | .ref _, _, e => by unfold W.dat at e; cases e
  | .dic _, _, e => by unfold W.dat at e; cases e
theorem dats_plain' : ∀ {ws : List W} {ds : List PyData}, W.dats ws = some ds → PyData.plainAll ds = true
  | [], _, e => by unfold W.dats at e; cases e; rfl
  | w :: ws, _, e => by
    unfold W.dats at e
    cases q1 : W.dat w with
    | none => rw [q1] at e; cases e
    | some d =>
      cases q2 : W.dats ws with
      | none => rw [q1, q2] at e; cases e
      | some ds =>
        rw [q1, q2] at e
        cases e
        show (d.plain && PyData.plainAll ds) = true
        rw [dat_plain' q1, dats_plain' q2]
        rfl
end
/-- a value that has a repr that is not too long -/
def Rep (D C : Nat) (w : W) : Prop := ∃ d, w.dat = some d ∧ d.showable = true ∧ d.depth ≤ D ∧ lenS d ≤ C
theorem Rep.mono {D C D' C' : Nat} {w : W} (r : Rep D C w) (h1 : D ≤ D') (h2 : C ≤ C') : Rep D' C' w := by
  obtain ⟨d, e, s, x, y⟩ := r
  exact ⟨d, e, s, by omega, by omega⟩
theorem Rep.txt {D C : Nat} {w : W} (r : Rep D C w) (h1 : D ≤ 64) (h2 : C ≤ 16000000) : ∃ s, reprW w = some s := by
  obtain ⟨d, e, s, x, y⟩ := r
  exact repr_some e s (by omega) (by omega)
theorem Rep.eq {D C : Nat} {w : W} (r : Rep D C w) (h1 : D ≤ 64) : eqW w w = some true := by
  obtain ⟨d, e, s, x, y⟩ := r
  unfold eqW
  rw [e]
  simp only
  rw [decide_eq_true (show min d.depth d.depth ≤ 64 by omega), eqv_same d (dat_plain' e)]
theorem rep_dats {D C : Nat} : ∀ {ws : List W}, (∀ w ∈ ws, Rep D C w) → ∃ ds, W.dats ws = some ds ∧ PyData.showableAll ds = true ∧ PyData.depthAll ds ≤ D ∧ lenA ds ≤ ws.length * (C + 2)
  | [], _ => ⟨[], by simp [W.dats], by simp [PyData.showableAll], by simp [PyData.depthAll], by simp [lenA]⟩
  | w :: ws, h => by
    obtain ⟨d, e1, e2, e3, e4⟩ := h w List.mem_cons_self
    obtain ⟨ds, f1, f2, f3, f4⟩ := rep_dats (D := D) (C := C) (ws := ws) fun x hx => h x (List.mem_cons_of_mem _ hx)
    refine ⟨d :: ds, ?_, ?_, ?_, ?_⟩
    · unfold W.dats
      rw [e1, f1]
    · simp only [PyData.showableAll, e2, f2, Bool.and_self]
    · simp only [PyData.depthAll]
      omega
    · simp only [lenA, List.length_cons, Nat.add_mul]
      omega
theorem Rep.lst {D C : Nat} {ws : List W} (h : ∀ w ∈ ws, Rep D C w) : Rep (D + 1) (ws.length * (C + 2) + 2) (.lst ws) := by
  obtain ⟨ds, f1, f2, f3, f4⟩ := rep_dats h
  refine ⟨.list ds, ?_, ?_, ?_, ?_⟩
  · unfold W.dat
    rw [f1]
    rfl
  · simp only [PyData.showable, f2]
  · simp only [PyData.depth]
    omega
  · have := len_list ds
    omega
theorem Rep.tup {D C : Nat} {ws : List W} (h : ∀ w ∈ ws, Rep D C w) : Rep (D + 1) (ws.length * (C + 2) + 3) (.tup ws) := by
  obtain ⟨ds, f1, f2, f3, f4⟩ := rep_dats h
  refine ⟨.tuple ds, ?_, ?_, ?_, ?_⟩
  · unfold W.dat
    rw [f1]
    rfl
  · simp only [PyData.showable, f2]
  · simp only [PyData.depth]
    omega
  · have := len_tup ds
    omega
theorem Rep.bl (b : Bool) : Rep 0 5 (.bl b) := ⟨.bool b, by simp [W.dat], by simp [PyData.showable], by simp [PyData.depth], len_bool b⟩
theorem Rep.nat {n : Nat} (h : n ≤ 1000000000) : Rep 0 (n + 2) (.int n) := ⟨.int n, by simp [W.dat], show_nat h, by simp [PyData.depth], by have := len_int (n : Int); omega⟩
theorem Rep.kd {a : Kd} (h : a.lw 6 = true) : Rep a.deep (25 * a.signs) a.w := ⟨a.d, a.dat, a.showb (Kd.lw_mono (by omega) h), by rw [a.depth]; omega, a.len_le h⟩
/-- words of terms -/
def isW13 (s : Str) : Prop := s = "name" ∨ s = "told" ∨ s = "fun" ∨ s = "call" ∨ s = "both" ∨ s = "first" ∨ s = "second" ∨ s = "left" ∨ s = "right" ∨ s = "which" ∨ s = "next" ∨ s = "turns" ∨ s = "let"
theorem Rep.word {s : Str} (h : isW13 s) : Rep 0 8 (.str s) := by
  have q := len_words
  refine ⟨.str s, by simp [W.dat], by simp [PyData.showable], by simp [PyData.depth], ?_⟩
  rcases h with rfl | rfl | rfl | rfl | rfl | rfl | rfl | rfl | rfl | rfl | rfl | rfl | rfl <;> omega
/-- nodes as they stand in terms -/
inductive Node (dp l n m : Nat) : W → Prop
  | kd {s : Str} {A : Kd} : isKw s = true → A.deep ≤ dp → A.lw l = true → Node dp l n m (.tup [.str s, A.w])
  | num {s : Str} {i : Nat} : (s = "name" ∧ i ≤ n) ∨ (s = "told" ∧ i ≤ m) → Node dp l n m (.tup [.str s, .int i])
  | al {s : Str} : isAl s = true → Node dp l n m (.tup [.str s])
theorem kw_words {s : Str} (h : isKw s = true) : isW13 s := by
  unfold isKw at h
  simp only [Bool.or_eq_true, decide_eq_true_eq] at h
  unfold isW13
  rcases h with rfl | rfl | rfl | rfl <;> simp
theorem al_words {s : Str} (h : isAl s = true) : isW13 s := by
  unfold isAl at h
  simp only [Bool.or_eq_true, decide_eq_true_eq] at h
  unfold isW13
  rcases h with rfl | rfl | rfl | rfl | rfl | rfl | rfl <;> simp
theorem al_kw {s : Str} (h : isAl s = true) : isKw s = false := by
  unfold isAl at h
  simp only [Bool.or_eq_true, decide_eq_true_eq] at h
  rcases h with rfl | rfl | rfl | rfl | rfl | rfl | rfl <;> decide +kernel
theorem kw_num : isKw "name" = false ∧ isKw "told" = false := by decide +kernel
theorem al_num {s : Str} (h : isAl s = true) : ¬ s = "name" ∧ ¬ s = "told" := by
  unfold isAl at h
  simp only [Bool.or_eq_true, decide_eq_true_eq] at h
  rcases h with rfl | rfl | rfl | rfl | rfl | rfl | rfl <;> decide +kernel
theorem Node.pv {dp l n m : Nat} {w : W} (h : Node dp l n m w) : PV w := by
  cases h with
  | kd _ _ _ => exact .tup _ (PVs.cons (.str _) (PVs.cons (Kd.pv _) PVs.nil))
  | num _ => exact .tup _ (PVs.cons (.str _) (PVs.cons (.int _) PVs.nil))
  | al _ => exact .tup _ (PVs.cons (.str _) PVs.nil)
theorem Node.nd {dp l n m : Nat} {w : W} (h : Node dp l n m w) (h1 : dp ≤ 5) (h2 : l ≤ 6) (h3 : n ≤ 299) (h4 : m ≤ 1000000) : nd w = true := by
  cases h with
  | @kd s A hk hd hl =>
    have du := Kd.due_small (Kd.lw_mono h2 hl) (Nat.le_trans hd h1)
    simp [Mx.nd, kw_in hk, hk, du]
  | @num s i hs =>
    rcases hs with ⟨rfl, hi⟩ | ⟨rfl, hi⟩
    · have u : upC 299 (.int (i : Int)) = true := by
        show (decide (0 ≤ (i : Int)) && decide ((i : Int) ≤ 299)) = true
        rw [decide_eq_true (by omega), decide_eq_true (by omega)]
        rfl
      simp [Mx.nd, nm_in, kw_num, u]
    · have u : upC 1000000 (.int (i : Int)) = true := by
        show (decide (0 ≤ (i : Int)) && decide ((i : Int) ≤ 1000000)) = true
        rw [decide_eq_true (by omega), decide_eq_true (by omega)]
        rfl
      have z : ¬ (("told" : Str) = "name") := by decide +kernel
      simp [Mx.nd, nm_in, kw_num, z, u]
  | @al s ha =>
    obtain ⟨z1, z2⟩ := al_num ha
    rw [nd_al (al_kw ha) z1 z2, ha]
    rfl
theorem Node.rep {dp l n m : Nat} {w : W} (h : Node dp l n m w) (h1 : dp ≤ 5) (h2 : l ≤ 6) (h3 : n ≤ 300) (h4 : m ≤ 300) : Rep 6 2000 w := by
  cases h with
  | @kd s A hk hd hl =>
    have r := Rep.kd (a := A) (Kd.lw_mono h2 hl)
    have sg := Kd.signs_deep A 5 (by omega)
    refine (Rep.tup (D := 5) (C := 800) (ws := [.str s, A.w]) fun w hw => ?_).mono (by omega) (by simp)
    rcases List.mem_cons.mp hw with rfl | hw
    · exact (Rep.word (kw_words hk)).mono (by omega) (by omega)
    · have e := List.mem_singleton.mp hw
      subst e
      exact r.mono (by omega) (by omega)
  | @num s i hs =>
    have hi : i ≤ 300 := by rcases hs with ⟨_, h⟩ | ⟨_, h⟩ <;> omega
    have hw' : isW13 s := by rcases hs with ⟨rfl, _⟩ | ⟨rfl, _⟩ <;> simp [isW13]
    refine (Rep.tup (D := 0) (C := 400) (ws := [.str s, .int i]) fun w hw => ?_).mono (by omega) (by simp)
    rcases List.mem_cons.mp hw with rfl | hw
    · exact (Rep.word hw').mono (by omega) (by omega)
    · have e := List.mem_singleton.mp hw
      subst e
      exact (Rep.nat (n := i) (by omega)).mono (by omega) (by omega)
  | @al s ha =>
    refine (Rep.tup (D := 0) (C := 400) (ws := [.str s]) fun w hw => ?_).mono (by omega) (by simp)
    have e := List.mem_singleton.mp hw
    subst e
    exact (Rep.word (al_words ha)).mono (by omega) (by omega)
namespace Tm
theorem wk : isKw "fun" = true ∧ isKw "left" = true ∧ isKw "right" = true ∧ isKw "turns" = true ∧ isAl "call" = true ∧ isAl "both" = true ∧ isAl "first" = true ∧ isAl "second" = true ∧ isAl "which" = true ∧ isAl "next" = true ∧ isAl "let" = true := by decide +kernel
theorem mem_app {P : W → Prop} {a b : List W} (p : ∀ w ∈ a, P w) (q : ∀ w ∈ b, P w) : ∀ w ∈ a ++ b, P w := fun w hw => (List.mem_append.mp hw).elim (p w) (q w)
theorem mem_cons {P : W → Prop} {x : W} {b : List W} (p : P x) (q : ∀ w ∈ b, P w) : ∀ w ∈ x :: b, P w := fun w hw => (List.mem_cons.mp hw).elim (fun e => e ▸ p) (q w)
theorem nodes {m n dp l : Nat} : ∀ u : Tm, u.lim m n dp l = true → ∀ w ∈ u.ws, Node dp l m n w
  | .name i, h => mem_cons (.num (.inl ⟨rfl, of_decide_eq_true h⟩)) (fun _ h => by cases h)
  | .told i, h => mem_cons (.num (.inr ⟨rfl, of_decide_eq_true h⟩)) (fun _ h => by cases h)
  | .fn A b, h => by
    simp only [lim, Bool.and_eq_true, decide_eq_true_eq] at h
    exact mem_cons (.kd wk.1 h.1 h.2.1) (nodes b h.2.2)
  | .call f a, h => by
    simp only [lim, Bool.and_eq_true] at h
    exact mem_cons (.al wk.2.2.2.2.1) (mem_app (nodes f h.1) (nodes a h.2))
  | .both f a, h => by
    simp only [lim, Bool.and_eq_true] at h
    exact mem_cons (.al wk.2.2.2.2.2.1) (mem_app (nodes f h.1) (nodes a h.2))
  | .first a, h => mem_cons (.al wk.2.2.2.2.2.2.1) (nodes a h)
  | .second a, h => mem_cons (.al wk.2.2.2.2.2.2.2.1) (nodes a h)
  | .left A b, h => by
    simp only [lim, Bool.and_eq_true, decide_eq_true_eq] at h
    exact mem_cons (.kd wk.2.1 h.1 h.2.1) (nodes b h.2.2)
  | .right A b, h => by
    simp only [lim, Bool.and_eq_true, decide_eq_true_eq] at h
    exact mem_cons (.kd wk.2.2.1 h.1 h.2.1) (nodes b h.2.2)
  | .which s u v, h => by
    simp only [lim, Bool.and_eq_true] at h
    exact mem_cons (.al wk.2.2.2.2.2.2.2.2.1) (mem_app (mem_app (nodes s h.1) (nodes u h.2.1)) (nodes v h.2.2))
  | .next a, h => mem_cons (.al wk.2.2.2.2.2.2.2.2.2.1) (nodes a h)
  | .turns A s u v, h => by
    simp only [lim, Bool.and_eq_true, decide_eq_true_eq] at h
    exact mem_cons (.kd wk.2.2.2.1 h.1 h.2.1) (mem_app (mem_app (nodes s h.2.2.1) (nodes u h.2.2.2.1)) (nodes v h.2.2.2.2))
  | .let_ f a, h => by
    simp only [lim, Bool.and_eq_true] at h
    exact mem_cons (.al wk.2.2.2.2.2.2.2.2.2.2) (mem_app (nodes f h.1) (nodes a h.2))
theorem needs : ∀ (u : Tm) (r : List W) (n : Nat), need (u.ws ++ r) (n + 1) = need r n
  | .name i, r, n => rfl
  | .told i, r, n => rfl
  | .fn A b, r, n => needs b r n
  | .call f a, r, n => by
    show need ((f.ws ++ a.ws) ++ r) (n + 1 + 1) = _
    rw [List.append_assoc, needs f, needs a]
  | .both f a, r, n => by
    show need ((f.ws ++ a.ws) ++ r) (n + 1 + 1) = _
    rw [List.append_assoc, needs f, needs a]
  | .first a, r, n => needs a r n
  | .second a, r, n => needs a r n
  | .left A b, r, n => needs b r n
  | .right A b, r, n => needs b r n
  | .which s u v, r, n => by
    show need ((s.ws ++ u.ws ++ v.ws) ++ r) (n + 1 + 1 + 1) = _
    rw [List.append_assoc, List.append_assoc, needs s, needs u, needs v]
  | .next a, r, n => needs a r n
  | .turns A s u v, r, n => by
    show need ((s.ws ++ u.ws ++ v.ws) ++ r) (n + 1 + 1 + 1) = _
    rw [List.append_assoc, List.append_assoc, needs s, needs u, needs v]
  | .let_ f a, r, n => by
    show need ((f.ws ++ a.ws) ++ r) (n + 1 + 1) = _
    rw [List.append_assoc, needs f, needs a]
theorem ws_pos (u : Tm) : 1 ≤ u.ws.length := by cases u <;> simp [ws] <;> omega
theorem full_ (u : Tm) : full (need u.ws 1) = true := by
  have h := needs u [] 0
  rw [List.append_nil] at h
  rw [h]
  rfl
/-- is_term says so -/
theorem tm_ok {m n dp l : Nat} {u : Tm} {w : W} (hl : u.lim m n dp l = true) (h1 : dp ≤ 5) (h2 : l ≤ 6) (h3 : m ≤ 299) (h4 : n ≤ 1000000) (h5 : u.ws.length ≤ 300) (hw : w = .lst u.ws ∨ w = .tup u.ws) : tm w = true := by
  have hp : parts w = some u.ws := by rcases hw with rfl | rfl <;> rfl
  have hn : u.ws.all nd = true := List.all_eq_true.mpr fun x hx => (nodes u hl x hx).nd h1 h2 h3 h4
  unfold tm
  rw [hp]
  simp only
  rw [decide_eq_true u.ws_pos, decide_eq_true h5, hn, u.full_]
  rfl
end Tm
end Mx

set_option maxHeartbeats 4000000
namespace K13
open PySem Ev Mx
variable {k : Nat} {h : Obs} {w : W}
theorem t0 (p : PV w) : pg.T (k+1) 0 [w] h = .ok (.bl (isIn w)) h := by cases p <;> rfl
theorem t1 (p : PV w) : pg.T (k+2) 1 [w] h = .ok (.bl (isCn w)) h := by
  cases p with
  | int i =>
    show Df.run ⟨"is_count", ["value"], 1, b1⟩ ⟨pg.T (k+1), pg.cst, pg.par⟩ [.int i] h = _
    have e := t0 (k := k) (h := h) (.int i)
    simp [b1, e, isIn, isCn, isW, Df.run, Ss.den, S.den, E.den, Es.den, Es.bo, Es.bt, Eo.den, Eo.tst, E.tst, It.den, R.bind, R.out, R.opt, startS, slotV, slotP, W.now, cmpW, intsW, idxW, L2.atI, L2.ixN, bltW, on1, on2, ifB, Tg.den, Tgs.den, tgo, binW, addW, intW, absW, lenW, truW, tyW, isTy, E.give, E.fresh, W.isNon, lineN_small, cstV, mulW]
  | _ => rfl
theorem t2 (p : PV w) : pg.T (k+1) 2 [w] h = .ok (.bl (isLs w)) h := by cases p <;> rfl
theorem t6 (p : PV w) : pg.T (k+3) 6 [w] h = .ok (.bl (match w with | .int i => decide (0 ≤ i) && decide (i ≤ 5) | _ => false)) h := by
  show Df.run ⟨"is_letter", ["value"], 1, b6⟩ ⟨pg.T (k+2), pg.cst, pg.par⟩ [w] h = _
  have e := t1 (k := k) (h := h) p
  have c : pg.cst "MOST_LETTER" = some (.int 5) := rfl
  cases p with
  | int i =>
    by_cases hi : 0 ≤ i <;> simp [b6, e, isCn, hi, c, isW, Df.run, Ss.den, S.den, E.den, Es.den, Es.bo, Es.bt, Eo.den, Eo.tst, E.tst, It.den, R.bind, R.out, R.opt, startS, slotV, slotP, W.now, cmpW, intsW, idxW, L2.atI, L2.ixN, bltW, on1, on2, ifB, Tg.den, Tgs.den, tgo, binW, addW, intW, absW, lenW, truW, tyW, isTy, E.give, E.fresh, W.isNon, lineN_small, cstV, mulW]
  | _ => simp [b6, e, isCn, isW, Df.run, Ss.den, S.den, E.den, Es.den, Es.bo, Es.bt, Eo.den, Eo.tst, E.tst, It.den, R.bind, R.out, R.opt, startS, slotV, slotP, W.now, cmpW, intsW, idxW, L2.atI, L2.ixN, bltW, on1, on2, ifB, Tg.den, Tgs.den, tgo, binW, addW, intW, absW, lenW, truW, tyW, isTy, E.give, E.fresh, W.isNon, lineN_small, cstV, mulW]
theorem t5 (p : PV w) : pg.T (k+1) 5 [w] h = .ok (.bl (match w with | .str s => decide (s = "letter") | _ => false)) h := by
  show Df.run ⟨"is_letter_word", ["value"], 1, b5⟩ ⟨pg.T k, pg.cst, pg.par⟩ [w] h = _
  have c : pg.cst "LETTER" = some (.str "letter") := rfl
  cases p with
  | str s => simp [b5, c, eqS, isW, Df.run, Ss.den, S.den, E.den, Es.den, Es.bo, Es.bt, Eo.den, Eo.tst, E.tst, It.den, R.bind, R.out, R.opt, startS, slotV, slotP, W.now, cmpW, intsW, idxW, L2.atI, L2.ixN, bltW, on1, on2, ifB, Tg.den, Tgs.den, tgo, binW, addW, intW, absW, lenW, truW, tyW, isTy, E.give, E.fresh, W.isNon, lineN_small, cstV, mulW]
  | _ => simp [b5, isW, Df.run, Ss.den, S.den, E.den, Es.den, Es.bo, Es.bt, Eo.den, Eo.tst, E.tst, It.den, R.bind, R.out, R.opt, startS, slotV, slotP, W.now, cmpW, intsW, idxW, L2.atI, L2.ixN, bltW, on1, on2, ifB, Tg.den, Tgs.den, tgo, binW, addW, intW, absW, lenW, truW, tyW, isTy, E.give, E.fresh, W.isNon, lineN_small, cstV, mulW]
theorem t7 (p : PV w) : pg.T (k+1) 7 [w] h = .ok (.bl (isBr w)) h := by
  show Df.run ⟨"is_branch", ["value"], 1, b7⟩ ⟨pg.T k, pg.cst, pg.par⟩ [w] h = _
  have c1 : pg.cst "PAIR" = some (.str "pair") := rfl
  have c2 : pg.cst "SUM" = some (.str "sum") := rfl
  have c3 : pg.cst "FUN" = some (.str "fun") := rfl
  cases p with
  | tup ws q =>
    match ws with
    | [] => simp [b7, eqN, isBr, isW, Df.run, Ss.den, S.den, E.den, Es.den, Es.bo, Es.bt, Eo.den, Eo.tst, E.tst, It.den, R.bind, R.out, R.opt, startS, slotV, slotP, W.now, cmpW, intsW, idxW, L2.atI, L2.ixN, bltW, on1, on2, ifB, Tg.den, Tgs.den, tgo, binW, addW, intW, absW, lenW, truW, tyW, isTy, E.give, E.fresh, W.isNon, lineN_small, cstV, mulW]
    | [a] => simp [b7, eqN, isBr, isW, Df.run, Ss.den, S.den, E.den, Es.den, Es.bo, Es.bt, Eo.den, Eo.tst, E.tst, It.den, R.bind, R.out, R.opt, startS, slotV, slotP, W.now, cmpW, intsW, idxW, L2.atI, L2.ixN, bltW, on1, on2, ifB, Tg.den, Tgs.den, tgo, binW, addW, intW, absW, lenW, truW, tyW, isTy, E.give, E.fresh, W.isNon, lineN_small, cstV, mulW]
    | [a, b] => simp [b7, eqN, isBr, isW, Df.run, Ss.den, S.den, E.den, Es.den, Es.bo, Es.bt, Eo.den, Eo.tst, E.tst, It.den, R.bind, R.out, R.opt, startS, slotV, slotP, W.now, cmpW, intsW, idxW, L2.atI, L2.ixN, bltW, on1, on2, ifB, Tg.den, Tgs.den, tgo, binW, addW, intW, absW, lenW, truW, tyW, isTy, E.give, E.fresh, W.isNon, lineN_small, cstV, mulW]
    | [a, b, c] =>
      have pa := q a (by simp)
      cases pa with
      | str s =>
        have e : ∀ t : Str, L2.eqV (.str t) (.str s) = decide (s = t) := fun t => by
          show (t == s) = decide (s = t)
          by_cases z : s = t
          · subst z; simp
          · rw [decide_eq_false z]; exact beq_false_of_ne (fun y => z y.symm)
        simp [b7, eqN, isBr, isWd, c1, c2, c3, inW, inD, W.dat, W.dats, PyData.depth, PyData.depthAll, eqvS, eqvN, isW, Df.run, Ss.den, S.den, E.den, Es.den, Es.bo, Es.bt, Eo.den, Eo.tst, E.tst, It.den, R.bind, R.out, R.opt, startS, slotV, slotP, W.now, cmpW, intsW, idxW, L2.atI, L2.ixN, bltW, on1, on2, ifB, Tg.den, Tgs.den, tgo, binW, addW, intW, absW, lenW, truW, tyW, isTy, E.give, E.fresh, W.isNon, lineN_small, cstV, mulW]
      | _ => simp [b7, eqN, isBr, isW, Df.run, Ss.den, S.den, E.den, Es.den, Es.bo, Es.bt, Eo.den, Eo.tst, E.tst, It.den, R.bind, R.out, R.opt, startS, slotV, slotP, W.now, cmpW, intsW, idxW, L2.atI, L2.ixN, bltW, on1, on2, ifB, Tg.den, Tgs.den, tgo, binW, addW, intW, absW, lenW, truW, tyW, isTy, E.give, E.fresh, W.isNon, lineN_small, cstV, mulW]
    | a :: b :: c :: d :: ws =>
      have e : ¬ ((ws.length : Int) + 1 + 1 + 1 + 1 = 3) := by omega
      simp [b7, eqN, isBr, e, isW, Df.run, Ss.den, S.den, E.den, Es.den, Es.bo, Es.bt, Eo.den, Eo.tst, E.tst, It.den, R.bind, R.out, R.opt, startS, slotV, slotP, W.now, cmpW, intsW, idxW, L2.atI, L2.ixN, bltW, on1, on2, ifB, Tg.den, Tgs.den, tgo, binW, addW, intW, absW, lenW, truW, tyW, isTy, E.give, E.fresh, W.isNon, lineN_small, cstV, mulW]
  | _ => simp [b7, isBr, isW, Df.run, Ss.den, S.den, E.den, Es.den, Es.bo, Es.bt, Eo.den, Eo.tst, E.tst, It.den, R.bind, R.out, R.opt, startS, slotV, slotP, W.now, cmpW, intsW, idxW, L2.atI, L2.ixN, bltW, on1, on2, ifB, Tg.den, Tgs.den, tgo, binW, addW, intW, absW, lenW, truW, tyW, isTy, E.give, E.fresh, W.isNon, lineN_small, cstV, mulW]
theorem t4 (p : PV w) : pg.T (k+4) 4 [w] h = .ok (.bl (isLf w)) h := by
  show Df.run ⟨"is_leaf", ["value"], 1, b4⟩ ⟨pg.T (k+3), pg.cst, pg.par⟩ [w] h = _
  have c : pg.cst "TELLING" = some (.str "count") := rfl
  cases p with
  | tup ws q =>
    match ws with
    | [] => simp [b4, eqN, isLf, isW, Df.run, Ss.den, S.den, E.den, Es.den, Es.bo, Es.bt, Eo.den, Eo.tst, E.tst, It.den, R.bind, R.out, R.opt, startS, slotV, slotP, W.now, cmpW, intsW, idxW, L2.atI, L2.ixN, bltW, on1, on2, ifB, Tg.den, Tgs.den, tgo, binW, addW, intW, absW, lenW, truW, tyW, isTy, E.give, E.fresh, W.isNon, lineN_small, cstV, mulW]
    | [a] =>
      have pa := q a (by simp)
      cases pa with
      | str s => simp [b4, eqN, isLf, c, eqS, isW, Df.run, Ss.den, S.den, E.den, Es.den, Es.bo, Es.bt, Eo.den, Eo.tst, E.tst, It.den, R.bind, R.out, R.opt, startS, slotV, slotP, W.now, cmpW, intsW, idxW, L2.atI, L2.ixN, bltW, on1, on2, ifB, Tg.den, Tgs.den, tgo, binW, addW, intW, absW, lenW, truW, tyW, isTy, E.give, E.fresh, W.isNon, lineN_small, cstV, mulW]
      | _ => simp [b4, eqN, isLf, isW, Df.run, Ss.den, S.den, E.den, Es.den, Es.bo, Es.bt, Eo.den, Eo.tst, E.tst, It.den, R.bind, R.out, R.opt, startS, slotV, slotP, W.now, cmpW, intsW, idxW, L2.atI, L2.ixN, bltW, on1, on2, ifB, Tg.den, Tgs.den, tgo, binW, addW, intW, absW, lenW, truW, tyW, isTy, E.give, E.fresh, W.isNon, lineN_small, cstV, mulW]
    | [a, b] =>
      have pa := q a (by simp)
      have pb := q b (by simp)
      have e4 := t5 (k := k + 2) (h := h) pa
      have e5 := t6 (k := k) (h := h) pb
      cases pa with
      | str s =>
        by_cases hl : s = "letter"
        · subst hl
          cases pb with
          | int i => simp [b4, eqN, isLf, e4, e5, isW, Df.run, Ss.den, S.den, E.den, Es.den, Es.bo, Es.bt, Eo.den, Eo.tst, E.tst, It.den, R.bind, R.out, R.opt, startS, slotV, slotP, W.now, cmpW, intsW, idxW, L2.atI, L2.ixN, bltW, on1, on2, ifB, Tg.den, Tgs.den, tgo, binW, addW, intW, absW, lenW, truW, tyW, isTy, E.give, E.fresh, W.isNon, lineN_small, cstV, mulW]
          | _ => simp [b4, eqN, isLf, e4, e5, isW, Df.run, Ss.den, S.den, E.den, Es.den, Es.bo, Es.bt, Eo.den, Eo.tst, E.tst, It.den, R.bind, R.out, R.opt, startS, slotV, slotP, W.now, cmpW, intsW, idxW, L2.atI, L2.ixN, bltW, on1, on2, ifB, Tg.den, Tgs.den, tgo, binW, addW, intW, absW, lenW, truW, tyW, isTy, E.give, E.fresh, W.isNon, lineN_small, cstV, mulW]
        · cases pb with
          | int i => simp [b4, eqN, isLf, e4, e5, hl, isW, Df.run, Ss.den, S.den, E.den, Es.den, Es.bo, Es.bt, Eo.den, Eo.tst, E.tst, It.den, R.bind, R.out, R.opt, startS, slotV, slotP, W.now, cmpW, intsW, idxW, L2.atI, L2.ixN, bltW, on1, on2, ifB, Tg.den, Tgs.den, tgo, binW, addW, intW, absW, lenW, truW, tyW, isTy, E.give, E.fresh, W.isNon, lineN_small, cstV, mulW]
          | _ => simp [b4, eqN, isLf, e4, e5, hl, isW, Df.run, Ss.den, S.den, E.den, Es.den, Es.bo, Es.bt, Eo.den, Eo.tst, E.tst, It.den, R.bind, R.out, R.opt, startS, slotV, slotP, W.now, cmpW, intsW, idxW, L2.atI, L2.ixN, bltW, on1, on2, ifB, Tg.den, Tgs.den, tgo, binW, addW, intW, absW, lenW, truW, tyW, isTy, E.give, E.fresh, W.isNon, lineN_small, cstV, mulW]
      | _ => cases pb <;> simp [b4, eqN, isLf, e4, e5, isW, Df.run, Ss.den, S.den, E.den, Es.den, Es.bo, Es.bt, Eo.den, Eo.tst, E.tst, It.den, R.bind, R.out, R.opt, startS, slotV, slotP, W.now, cmpW, intsW, idxW, L2.atI, L2.ixN, bltW, on1, on2, ifB, Tg.den, Tgs.den, tgo, binW, addW, intW, absW, lenW, truW, tyW, isTy, E.give, E.fresh, W.isNon, lineN_small, cstV, mulW]
    | a :: b :: c :: ws =>
      have e1 : ¬ ((ws.length : Int) + 1 + 1 + 1 = 2) := by omega
      have e2 : ¬ ((ws.length : Int) + 1 + 1 + 1 = 1) := by omega
      have e3 : ¬ ((ws.length : Int) + 1 + 1 + 1 = 0) := by omega
      simp [b4, eqN, isLf, e1, e2, e3, isW, Df.run, Ss.den, S.den, E.den, Es.den, Es.bo, Es.bt, Eo.den, Eo.tst, E.tst, It.den, R.bind, R.out, R.opt, startS, slotV, slotP, W.now, cmpW, intsW, idxW, L2.atI, L2.ixN, bltW, on1, on2, ifB, Tg.den, Tgs.den, tgo, binW, addW, intW, absW, lenW, truW, tyW, isTy, E.give, E.fresh, W.isNon, lineN_small, cstV, mulW]
  | _ => simp [b4, isLf, isW, Df.run, Ss.den, S.den, E.den, Es.den, Es.bo, Es.bt, Eo.den, Eo.tst, E.tst, It.den, R.bind, R.out, R.opt, startS, slotV, slotP, W.now, cmpW, intsW, idxW, L2.atI, L2.ixN, bltW, on1, on2, ifB, Tg.den, Tgs.den, tgo, binW, addW, intW, absW, lenW, truW, tyW, isTy, E.give, E.fresh, W.isNon, lineN_small, cstV, mulW]
def kb : Ss := match b8 with
  | .cons _ (.cons (.whl _ b _) _) => b
  | _ => .nil
def kc : E := match b8 with
  | .cons _ (.cons (.whl c _ _) _) => c
  | _ => .non 0 ⟨0, 0, 0, 0⟩
abbrev D7 (k : Nat) : Dn := ⟨pg.T (k + 4), pg.cst, pg.par⟩
theorem kc_len (ws : List W) (v : W) (s : Int) (o e : Sl) : kc.tst (D7 k) [.val v, .own ws, .val (.int s), o, e] h = .ok (decide (0 < ws.length)) h := by
  have z : (0 : Int) < (ws.length : Int) ↔ 0 < ws.length := by omega
  simp [kc, b8, z, isW, Df.run, Ss.den, S.den, E.den, Es.den, Es.bo, Es.bt, Eo.den, Eo.tst, E.tst, It.den, R.bind, R.out, R.opt, startS, slotV, slotP, W.now, cmpW, intsW, idxW, L2.atI, L2.ixN, bltW, on1, on2, ifB, Tg.den, Tgs.den, tgo, binW, addW, intW, absW, lenW, truW, tyW, isTy, E.give, E.fresh, W.isNon, lineN_small, cstV, mulW]
theorem kb_top (p : PV w) (pre : List W) (hl : pre.length ≤ 500) (v : W) (s d : Int) (o e : Sl) : kb.den (D7 k) [.val v, .own (pre ++ [.tup [w, .int d]]), .val (.int s), o, e] h =
    (match decide (60 < s + 1) || decide (12 < d) with
    | true => .rt (.bl false) h
    | false => match isBr w with
      | true => (match w with
        | .tup [_, a, b] => .nx [.val v, .own (pre ++ [.tup [a, .int (d + 1)], .tup [b, .int (d + 1)]]), .val (.int (s + 1)), .val w, .val (.int d)] h
        | _ => .bad)
      | false => match isLf w with
        | true => .nx [.val v, .own pre, .val (.int (s + 1)), .val w, .val (.int d)] h
        | false => .rt (.bl false) h) := by
  have c1 : pg.cst "MOST_SIGNS" = some (.int 60) := rfl
  have c2 : pg.cst "MOST_DEEP" = some (.int 12) := rfl
  have e6 := t7 (k := k + 3) (h := h) p
  have e3 := t4 (k := k) (h := h) p
  have hl2 : lineN (pre.length + 2) = true := lineN_small (by omega)
  by_cases h1 : 60 < s + 1
  · simp [kb, b8, c1, c2, h1, isW, Df.run, Ss.den, S.den, E.den, Es.den, Es.bo, Es.bt, Eo.den, Eo.tst, E.tst, It.den, R.bind, R.out, R.opt, startS, slotV, slotP, W.now, cmpW, intsW, idxW, L2.atI, L2.ixN, bltW, on1, on2, ifB, Tg.den, Tgs.den, tgo, binW, addW, intW, absW, lenW, truW, tyW, isTy, E.give, E.fresh, W.isNon, lineN_small, cstV, mulW]
  · by_cases h2 : 12 < d
    · simp [kb, b8, c1, c2, h1, h2, isW, Df.run, Ss.den, S.den, E.den, Es.den, Es.bo, Es.bt, Eo.den, Eo.tst, E.tst, It.den, R.bind, R.out, R.opt, startS, slotV, slotP, W.now, cmpW, intsW, idxW, L2.atI, L2.ixN, bltW, on1, on2, ifB, Tg.den, Tgs.den, tgo, binW, addW, intW, absW, lenW, truW, tyW, isTy, E.give, E.fresh, W.isNon, lineN_small, cstV, mulW]
    · cases hb : isBr w with
      | true =>
        match w, hb with
        | .tup [.str c, a, b], hb => simp [kb, b8, c1, c2, h1, h2, e6, e3, hb, hl2, isW, Df.run, Ss.den, S.den, E.den, Es.den, Es.bo, Es.bt, Eo.den, Eo.tst, E.tst, It.den, R.bind, R.out, R.opt, startS, slotV, slotP, W.now, cmpW, intsW, idxW, L2.atI, L2.ixN, bltW, on1, on2, ifB, Tg.den, Tgs.den, tgo, binW, addW, intW, absW, lenW, truW, tyW, isTy, E.give, E.fresh, W.isNon, lineN_small, cstV, mulW]
      | false => cases hf : isLf w <;> simp [kb, b8, c1, c2, h1, h2, e6, e3, hb, hf, isW, Df.run, Ss.den, S.den, E.den, Es.den, Es.bo, Es.bt, Eo.den, Eo.tst, E.tst, It.den, R.bind, R.out, R.opt, startS, slotV, slotP, W.now, cmpW, intsW, idxW, L2.atI, L2.ixN, bltW, on1, on2, ifB, Tg.den, Tgs.den, tgo, binW, addW, intW, absW, lenW, truW, tyW, isTy, E.give, E.fresh, W.isNon, lineN_small, cstV, mulW]
theorem loop7 : ∀ (f : Nat) (stk : List (W × Nat)) (s : Nat) (v : W) (o e : Sl) (m : Nat), s + f = 60 → f + 1 < m → stk.length ≤ s + 1 → (∀ p ∈ stk, PV p.1 ∧ p.2 ≤ 12) →
    match good stk s with
    | true => ∃ σ, whlGo (fun σ h => kc.tst (D7 k) σ h) (fun σ h => kb.den (D7 k) σ h) m [.val v, .own (stk.map enc).reverse, .val (.int s), o, e] h = .nx σ h
    | false => whlGo (fun σ h => kc.tst (D7 k) σ h) (fun σ h => kb.den (D7 k) σ h) m [.val v, .own (stk.map enc).reverse, .val (.int s), o, e] h = .rt (.bl false) h := by
  intro f
  induction f with
  | zero =>
    intro stk s v o e m hs hm hl hp
    obtain ⟨m, rfl⟩ : ∃ m', m = m' + 1 := ⟨m - 1, by omega⟩
    cases stk with
    | nil =>
      have g : good [] s = true := by simp [good, tot]; omega
      rw [g]
      simp only [List.map_nil, List.reverse_nil]
      refine ⟨[.val v, .own [], .val (.int s), o, e], ?_⟩
      unfold whlGo
      rw [kc_len]
      rfl
    | cons p r =>
      obtain ⟨w, n⟩ := p
      have pw := (hp (w, n) List.mem_cons_self).1
      have g : good ((w, n) :: r) s = false := by
        unfold good tot
        cases q1 : K n w with
        | none => rfl
        | some x =>
          cases q2 : tot r with
          | none => rfl
          | some y =>
            have z := K_pos q1
            exact decide_eq_false (by omega)
      rw [g]
      simp only [List.map_cons, List.reverse_cons]
      unfold whlGo
      rw [kc_len]
      have hl2 : (decide (0 < ((List.map enc r).reverse ++ [enc (w, n)]).length)) = true := by simp
      rw [hl2]
      simp only
      rw [show enc (w, n) = .tup [w, .int (13 - n)] from rfl, kb_top pw _ (by simp at hl ⊢; omega)]
      have z : (decide (60 < (s : Int) + 1) || decide (12 < (13 : Int) - n)) = true := by simp; omega
      rw [z]
  | succ f ih =>
    intro stk s v o e m hs hm hl hp
    obtain ⟨m, rfl⟩ : ∃ m', m = m' + 1 := ⟨m - 1, by omega⟩
    cases stk with
    | nil =>
      have g : good [] s = true := by simp [good, tot]; omega
      rw [g]
      simp only [List.map_nil, List.reverse_nil]
      refine ⟨[.val v, .own [], .val (.int s), o, e], ?_⟩
      unfold whlGo
      rw [kc_len]
      rfl
    | cons p r =>
      obtain ⟨w, n⟩ := p
      have pw := (hp (w, n) List.mem_cons_self).1
      have hn := (hp (w, n) List.mem_cons_self).2
      have hr := fun p hp' => hp p (List.mem_cons_of_mem (w, n) hp')
      have step : ∀ (m : Nat), whlGo (fun σ h => kc.tst (D7 k) σ h) (fun σ h => kb.den (D7 k) σ h) (m + 1) [.val v, .own (((w, n) :: r).map enc).reverse, .val (.int s), o, e] h =
          (match kb.den (D7 k) [.val v, .own ((r.map enc).reverse ++ [.tup [w, .int (13 - n)]]), .val (.int s), o, e] h with
          | .nx σ h => whlGo (fun σ h => kc.tst (D7 k) σ h) (fun σ h => kb.den (D7 k) σ h) m σ h
          | .ct σ h => whlGo (fun σ h => kc.tst (D7 k) σ h) (fun σ h => kb.den (D7 k) σ h) m σ h
          | .bk σ h => .nx σ h
          | .rt w h => .rt w h
          | .exc x σ h => .exc x σ h
          | .bad => .bad) := fun m => by
        simp only [List.map_cons, List.reverse_cons]
        conv => lhs; unfold whlGo
        rw [kc_len]
        have hl2 : (decide (0 < ((List.map enc r).reverse ++ [enc (w, n)]).length)) = true := by simp
        rw [hl2]
        rfl
      rw [step, kb_top pw _ (by simp at hl ⊢; omega)]
      have l1 : decide (60 < (s : Int) + 1) = false := decide_eq_false (by omega)
      rw [l1, Bool.false_or]
      cases n with
      | zero =>
        have g : good ((w, 0) :: r) s = false := rfl
        rw [g]
        have z : decide (12 < (13 : Int) - (0 : Nat)) = true := by decide
        rw [z]
      | succ n =>
        have z : decide (12 < (13 : Int) - (n + 1 : Nat)) = false := decide_eq_false (by omega)
        rw [z]
        cases hb : isBr w with
        | true =>
          match w, hb, pw with
          | .tup [.str c, a, b], hb, pw =>
            have hw : isWd c = true := hb
            have q : ∀ x ∈ [W.str c, a, b], PV x := by cases pw with | tup _ q => exact q
            have i := ih ((b, n) :: (a, n) :: r) (s + 1) v (.val (.tup [.str c, a, b])) (.val (.int (13 - (n + 1 : Nat)))) m (by omega) (by omega) (by simp at hl ⊢; omega) (fun p hp' => by
              rcases List.mem_cons.mp hp' with rfl | hp'
              · exact ⟨q b (by simp), by omega⟩
              · rcases List.mem_cons.mp hp' with rfl | hp'
                · exact ⟨q a (by simp), by omega⟩
                · exact hr p hp')
            have g : good ((.tup [.str c, a, b], n + 1) :: r) s = good ((b, n) :: (a, n) :: r) (s + 1) := by
              have hk : K (n + 1) (.tup [.str c, a, b]) = (match K n a, K n b with | some x, some y => some (1 + x + y) | _, _ => none) := by
                have hf : isLf (.tup [.str c, a, b]) = false := by cases a <;> rfl
                conv => lhs; unfold K
                rw [hf]
                simp only [hw]
                all_goals (cases K n a <;> cases K n b <;> rfl)
              unfold good tot
              simp only [hk, tot]
              cases q1 : K n a <;> cases q2 : K n b <;> cases q3 : tot r <;> simp
              omega
            rw [g]
            have e13 : (13 : Int) - (n + 1 : Nat) + 1 = 13 - (n : Nat) := by omega
            simp only [e13]
            simp only [List.map_cons, List.reverse_cons, List.append_assoc, List.cons_append, List.nil_append, enc] at i
            have es : ((s + 1 : Nat) : Int) = (s : Int) + 1 := by omega
            rw [es] at i
            exact i
        | false =>
          cases hf : isLf w with
          | true =>
            have i := ih r (s + 1) v (.val w) (.val (.int (13 - (n + 1 : Nat)))) m (by omega) (by omega) (by simp at hl ⊢; omega) hr
            have g : good ((w, n + 1) :: r) s = good r (s + 1) := by
              have hk : K (n + 1) w = some 1 := by
                unfold K
                rw [hf]
              unfold good
              simp only [tot, hk]
              cases q3 : tot r <;> simp
              omega
            rw [g]
            have es : ((s + 1 : Nat) : Int) = (s : Int) + 1 := by omega
            rw [es] at i
            exact i
          | false =>
            have g : good ((w, n + 1) :: r) s = false := by
              have hk : K (n + 1) w = none := by
                cases q : K (n + 1) w with
                | none => rfl
                | some x =>
                  obtain ⟨c, a, b, _, _, rfl, hw, _⟩ := K_br hf q
                  have hb : isWd c = false := hb
                  rw [hw] at hb
                  cases hb
              unfold good
              simp only [tot, hk]
            rw [g]
theorem t8 (p : PV w) : pg.T (k+5) 8 [w] h = .ok (.bl (due w)) h := by
  show Df.run ⟨"is_kind", ["value", "left", "signs", "one", "deep"], 1, b8⟩ (D7 k) [w] h = _
  have l := loop7 (k := k) (h := h) 60 [(w, 12)] 0 w .non .non whlMost rfl (by decide) (by simp) (fun q hq => by
    have e : q = (w, 12) := by simpa using hq
    subst e
    exact ⟨p, by omega⟩)
  have g : good [(w, 12)] 0 = due w := by
    unfold good due
    simp only [tot]
    cases q : K 12 w <;> simp
  rw [g] at l
  have st : Ss.den (D7 k) b8 (startS 5 [w]) h = (match whlGo (fun σ h => kc.tst (D7 k) σ h) (fun σ h => kb.den (D7 k) σ h) whlMost [.val w, .own ([(w, 12)].map enc).reverse, .val (.int (0 : Nat)), .non, .non] h with
    | .nx σ h => .rt (.bl true) h
    | o => o) := rfl
  have run : Df.run ⟨"is_kind", ["value", "left", "signs", "one", "deep"], 1, b8⟩ (D7 k) [w] h = (match Ss.den (D7 k) b8 (startS 5 [w]) h with
    | .nx _ h => .ok .non h
    | .rt w h => .ok w h
    | .exc x _ h => .exc x h
    | _ => .bad) := rfl
  rw [run, st]
  cases hd : due w with
  | true =>
    rw [hd] at l
    obtain ⟨σ, l⟩ := l
    rw [l]
  | false =>
    rw [hd] at l
    rw [l]
end K13

set_option maxHeartbeats 4000000
namespace K13
open PySem Ev Mx
variable {k : Nat} {h : Obs} {w : W}
theorem cB : pg.cst "BINDS" = some (.dic BI) := rfl
theorem cK : pg.cst "WITH_KIND" = some (.tup [.str "fun", .str "left", .str "right", .str "turns"]) := rfl
theorem cN : pg.cst "NAME" = some (.str "name") := rfl
theorem cT : pg.cst "TOLD" = some (.str "told") := rfl
theorem cO : pg.cst "MOST_OUT" = some (.int 299) := rfl
theorem cM : pg.cst "MOST_TOLD" = some (.int 1000000) := rfl
theorem t25 (p : PV w) : pg.T (k+6) 25 [w] h = .ok (.bl (nd w)) h := by
  show Df.run ⟨"is_node", ["value"], 1, b25⟩ ⟨pg.T (k+5), pg.cst, pg.par⟩ [w] h = _
  cases p with
  | tup ws q =>
    match ws with
    | [] => simp [b25, eqN, nd, isW, Df.run, Ss.den, S.den, E.den, Es.den, Es.bo, Es.bt, Eo.den, Eo.tst, E.tst, It.den, R.bind, R.out, R.opt, startS, slotV, slotP, W.now, cmpW, intsW, idxW, L2.atI, L2.ixN, bltW, on1, on2, ifB, Tg.den, Tgs.den, tgo, binW, addW, intW, absW, lenW, truW, tyW, isTy, E.give, E.fresh, W.isNon, lineN_small, cstV, mulW]
    | a :: r =>
      have pa := q a (by simp)
      have e0 : ¬ ((r.length : Int) + 1 = 0) := by omega
      cases pa with
      | str s =>
        cases hd : (dicGet BI s).isSome with
        | false => simp [b25, eqN, e0, cB, hd, nd, isW, Df.run, Ss.den, S.den, E.den, Es.den, Es.bo, Es.bt, Eo.den, Eo.tst, E.tst, It.den, R.bind, R.out, R.opt, startS, slotV, slotP, W.now, cmpW, intsW, idxW, L2.atI, L2.ixN, bltW, on1, on2, ifB, Tg.den, Tgs.den, tgo, binW, addW, intW, absW, lenW, truW, tyW, isTy, E.give, E.fresh, W.isNon, lineN_small, cstV, mulW]
        | true =>
          cases hk : isKw s with
          | true =>
            have hk' := hk
            unfold isKw at hk'
            match r with
            | [] => simp [b25, eqN, cB, hd, nd, cK, inW, inD, W.dat, W.dats, PyData.depth, PyData.depthAll, eqvS, eqvN, isKw, hk, hk', isW, Df.run, Ss.den, S.den, E.den, Es.den, Es.bo, Es.bt, Eo.den, Eo.tst, E.tst, It.den, R.bind, R.out, R.opt, startS, slotV, slotP, W.now, cmpW, intsW, idxW, L2.atI, L2.ixN, bltW, on1, on2, ifB, Tg.den, Tgs.den, tgo, binW, addW, intW, absW, lenW, truW, tyW, isTy, E.give, E.fresh, W.isNon, lineN_small, cstV, mulW]
            | [x] =>
              have e7 := t8 (k := k) (h := h) (q x (by simp))
              simp [b25, eqN, cB, hd, nd, cK, inW, inD, W.dat, W.dats, PyData.depth, PyData.depthAll, eqvS, eqvN, isKw, hk, hk', e7, isW, Df.run, Ss.den, S.den, E.den, Es.den, Es.bo, Es.bt, Eo.den, Eo.tst, E.tst, It.den, R.bind, R.out, R.opt, startS, slotV, slotP, W.now, cmpW, intsW, idxW, L2.atI, L2.ixN, bltW, on1, on2, ifB, Tg.den, Tgs.den, tgo, binW, addW, intW, absW, lenW, truW, tyW, isTy, E.give, E.fresh, W.isNon, lineN_small, cstV, mulW]
            | x :: y :: r =>
              have e2 : ¬ ((r.length : Int) + 1 + 1 + 1 = 2) := by omega
              have e0 : ¬ ((r.length : Int) + 1 + 1 + 1 = 0) := by omega
              have ep : (0 : Int) < (r.length : Int) + 1 + 1 + 1 := by omega
              simp [b25, eqN, cB, hd, nd, cK, inW, inD, W.dat, W.dats, PyData.depth, PyData.depthAll, eqvS, eqvN, isKw, hk, hk', e0, e2, ep, isW, Df.run, Ss.den, S.den, E.den, Es.den, Es.bo, Es.bt, Eo.den, Eo.tst, E.tst, It.den, R.bind, R.out, R.opt, startS, slotV, slotP, W.now, cmpW, intsW, idxW, L2.atI, L2.ixN, bltW, on1, on2, ifB, Tg.den, Tgs.den, tgo, binW, addW, intW, absW, lenW, truW, tyW, isTy, E.give, E.fresh, W.isNon, lineN_small, cstV, mulW]
          | false =>
            have hk' := hk
            unfold isKw at hk'
            by_cases hn : s = "name"
            · subst hn
              match r with
              | [] => simp [b25, eqN, cB, hd, nd, cK, cN, inW, inD, W.dat, W.dats, PyData.depth, PyData.depthAll, eqvS, eqvN, isKw, hk', eqS, isW, Df.run, Ss.den, S.den, E.den, Es.den, Es.bo, Es.bt, Eo.den, Eo.tst, E.tst, It.den, R.bind, R.out, R.opt, startS, slotV, slotP, W.now, cmpW, intsW, idxW, L2.atI, L2.ixN, bltW, on1, on2, ifB, Tg.den, Tgs.den, tgo, binW, addW, intW, absW, lenW, truW, tyW, isTy, E.give, E.fresh, W.isNon, lineN_small, cstV, mulW]
              | [x] =>
                have px := q x (by simp)
                have e1 := t1 (k := k + 3) (h := h) px
                cases px with
                | int i => by_cases hi : 0 ≤ i <;> simp [b25, eqN, cB, hd, nd, cK, cN, cO, inW, inD, W.dat, W.dats, PyData.depth, PyData.depthAll, eqvS, eqvN, isKw, hk', eqS, e1, upC, isCn, hi, isW, Df.run, Ss.den, S.den, E.den, Es.den, Es.bo, Es.bt, Eo.den, Eo.tst, E.tst, It.den, R.bind, R.out, R.opt, startS, slotV, slotP, W.now, cmpW, intsW, idxW, L2.atI, L2.ixN, bltW, on1, on2, ifB, Tg.den, Tgs.den, tgo, binW, addW, intW, absW, lenW, truW, tyW, isTy, E.give, E.fresh, W.isNon, lineN_small, cstV, mulW]
                | _ => simp [b25, eqN, cB, hd, nd, cK, cN, cO, inW, inD, W.dat, W.dats, PyData.depth, PyData.depthAll, eqvS, eqvN, isKw, hk', eqS, e1, upC, isCn, isW, Df.run, Ss.den, S.den, E.den, Es.den, Es.bo, Es.bt, Eo.den, Eo.tst, E.tst, It.den, R.bind, R.out, R.opt, startS, slotV, slotP, W.now, cmpW, intsW, idxW, L2.atI, L2.ixN, bltW, on1, on2, ifB, Tg.den, Tgs.den, tgo, binW, addW, intW, absW, lenW, truW, tyW, isTy, E.give, E.fresh, W.isNon, lineN_small, cstV, mulW]
              | x :: y :: r =>
                have e2 : ¬ ((r.length : Int) + 1 + 1 + 1 = 2) := by omega
                have e0 : ¬ ((r.length : Int) + 1 + 1 + 1 = 0) := by omega
                have ep : (0 : Int) < (r.length : Int) + 1 + 1 + 1 := by omega
                simp [b25, eqN, cB, hd, nd, cK, cN, inW, inD, W.dat, W.dats, PyData.depth, PyData.depthAll, eqvS, eqvN, isKw, hk', eqS, e0, e2, ep, isW, Df.run, Ss.den, S.den, E.den, Es.den, Es.bo, Es.bt, Eo.den, Eo.tst, E.tst, It.den, R.bind, R.out, R.opt, startS, slotV, slotP, W.now, cmpW, intsW, idxW, L2.atI, L2.ixN, bltW, on1, on2, ifB, Tg.den, Tgs.den, tgo, binW, addW, intW, absW, lenW, truW, tyW, isTy, E.give, E.fresh, W.isNon, lineN_small, cstV, mulW]
            · by_cases ht : s = "told"
              · subst ht
                match r with
                | [] => simp [b25, eqN, cB, hd, nd, cK, cN, cT, inW, inD, W.dat, W.dats, PyData.depth, PyData.depthAll, eqvS, eqvN, isKw, hk', eqS, eqS, hn, isW, Df.run, Ss.den, S.den, E.den, Es.den, Es.bo, Es.bt, Eo.den, Eo.tst, E.tst, It.den, R.bind, R.out, R.opt, startS, slotV, slotP, W.now, cmpW, intsW, idxW, L2.atI, L2.ixN, bltW, on1, on2, ifB, Tg.den, Tgs.den, tgo, binW, addW, intW, absW, lenW, truW, tyW, isTy, E.give, E.fresh, W.isNon, lineN_small, cstV, mulW]
                | [x] =>
                  have px := q x (by simp)
                  have e1 := t1 (k := k + 3) (h := h) px
                  cases px with
                  | int i => by_cases hi : 0 ≤ i <;> simp [b25, eqN, cB, hd, nd, cK, cN, cT, cM, inW, inD, W.dat, W.dats, PyData.depth, PyData.depthAll, eqvS, eqvN, isKw, hk', eqS, eqS, hn, e1, upC, isCn, hi, isW, Df.run, Ss.den, S.den, E.den, Es.den, Es.bo, Es.bt, Eo.den, Eo.tst, E.tst, It.den, R.bind, R.out, R.opt, startS, slotV, slotP, W.now, cmpW, intsW, idxW, L2.atI, L2.ixN, bltW, on1, on2, ifB, Tg.den, Tgs.den, tgo, binW, addW, intW, absW, lenW, truW, tyW, isTy, E.give, E.fresh, W.isNon, lineN_small, cstV, mulW]
                  | _ => simp [b25, eqN, cB, hd, nd, cK, cN, cT, cM, inW, inD, W.dat, W.dats, PyData.depth, PyData.depthAll, eqvS, eqvN, isKw, hk', eqS, eqS, hn, e1, upC, isCn, isW, Df.run, Ss.den, S.den, E.den, Es.den, Es.bo, Es.bt, Eo.den, Eo.tst, E.tst, It.den, R.bind, R.out, R.opt, startS, slotV, slotP, W.now, cmpW, intsW, idxW, L2.atI, L2.ixN, bltW, on1, on2, ifB, Tg.den, Tgs.den, tgo, binW, addW, intW, absW, lenW, truW, tyW, isTy, E.give, E.fresh, W.isNon, lineN_small, cstV, mulW]
                | x :: y :: r =>
                  have e2 : ¬ ((r.length : Int) + 1 + 1 + 1 = 2) := by omega
                  have e0 : ¬ ((r.length : Int) + 1 + 1 + 1 = 0) := by omega
                  have ep : (0 : Int) < (r.length : Int) + 1 + 1 + 1 := by omega
                  simp [b25, eqN, cB, hd, nd, cK, cN, cT, inW, inD, W.dat, W.dats, PyData.depth, PyData.depthAll, eqvS, eqvN, isKw, hk', eqS, eqS, hn, e0, e2, ep, isW, Df.run, Ss.den, S.den, E.den, Es.den, Es.bo, Es.bt, Eo.den, Eo.tst, E.tst, It.den, R.bind, R.out, R.opt, startS, slotV, slotP, W.now, cmpW, intsW, idxW, L2.atI, L2.ixN, bltW, on1, on2, ifB, Tg.den, Tgs.den, tgo, binW, addW, intW, absW, lenW, truW, tyW, isTy, E.give, E.fresh, W.isNon, lineN_small, cstV, mulW]
              · have e1 : ((r.length : Int) + 1 = 1) ↔ r = [] := by cases r <;> simp <;> omega
                simp [b25, eqN, cB, hd, hk, nd, cK, cN, cT, inW, inD, W.dat, W.dats, PyData.depth, PyData.depthAll, eqvS, eqvN, hk', eqS, eqS, hn, ht, e0, e1, isW, Df.run, Ss.den, S.den, E.den, Es.den, Es.bo, Es.bt, Eo.den, Eo.tst, E.tst, It.den, R.bind, R.out, R.opt, startS, slotV, slotP, W.now, cmpW, intsW, idxW, L2.atI, L2.ixN, bltW, on1, on2, ifB, Tg.den, Tgs.den, tgo, binW, addW, intW, absW, lenW, truW, tyW, isTy, E.give, E.fresh, W.isNon, lineN_small, cstV, mulW]
      | _ => simp [b25, eqN, e0, nd, isW, Df.run, Ss.den, S.den, E.den, Es.den, Es.bo, Es.bt, Eo.den, Eo.tst, E.tst, It.den, R.bind, R.out, R.opt, startS, slotV, slotP, W.now, cmpW, intsW, idxW, L2.atI, L2.ixN, bltW, on1, on2, ifB, Tg.den, Tgs.den, tgo, binW, addW, intW, absW, lenW, truW, tyW, isTy, E.give, E.fresh, W.isNon, lineN_small, cstV, mulW]
  | _ => simp [b25, nd, isW, Df.run, Ss.den, S.den, E.den, Es.den, Es.bo, Es.bt, Eo.den, Eo.tst, E.tst, It.den, R.bind, R.out, R.opt, startS, slotV, slotP, W.now, cmpW, intsW, idxW, L2.atI, L2.ixN, bltW, on1, on2, ifB, Tg.den, Tgs.den, tgo, binW, addW, intW, absW, lenW, truW, tyW, isTy, E.give, E.fresh, W.isNon, lineN_small, cstV, mulW]
def f9 : Ss := match b26 with
  | .cons _ (.cons (.for _ _ b _) _) => b
  | _ => .nil
def g9 : Tg := match b26 with
  | .cons _ (.cons (.for t _ _ _) _) => t
  | _ => .tup .nil 0 ⟨0, 0, 0, 0⟩
def r9 : Ss := match b26 with
  | .cons _ (.cons _ r) => r
  | _ => .nil
theorem body9 {v : W} {n : Nat} (e : nd w = true) : f9.den ⟨pg.T k, pg.cst, pg.par⟩ [v', .val (.int n), .val w] h = (match n with
    | 0 => .rt (.bl false) h
    | m + 1 => .nx [v', .val (.int (m + ar w : Nat)), .val w] h) := by
  obtain ⟨s, r, ws, rfl, hd, ha⟩ := nd_get e
  obtain ⟨_, e1, hl⟩ := bi_tup hd
  cases e1
  have hl2 : lineN ws.length = true := lineN_small (by omega)
  rw [ha]
  cases n with
  | zero => simp [f9, b26, eqN, isW, Df.run, Ss.den, S.den, E.den, Es.den, Es.bo, Es.bt, Eo.den, Eo.tst, E.tst, It.den, R.bind, R.out, R.opt, startS, slotV, slotP, W.now, cmpW, intsW, idxW, L2.atI, L2.ixN, bltW, on1, on2, ifB, Tg.den, Tgs.den, tgo, binW, addW, intW, absW, lenW, truW, tyW, isTy, E.give, E.fresh, W.isNon, lineN_small, cstV, mulW]
  | succ m =>
    have z : ¬ ((m : Int) + 1 = 0) := by omega
    have z2 : (m : Int) + 1 - 1 + (ws.length : Int) = (m : Int) + ws.length := by omega
    simp [f9, b26, eqN, cB, hd, z, hl2, isW, Df.run, Ss.den, S.den, E.den, Es.den, Es.bo, Es.bt, Eo.den, Eo.tst, E.tst, It.den, R.bind, R.out, R.opt, startS, slotV, slotP, W.now, cmpW, intsW, idxW, L2.atI, L2.ixN, bltW, on1, on2, ifB, Tg.den, Tgs.den, tgo, binW, addW, intW, absW, lenW, truW, tyW, isTy, E.give, E.fresh, W.isNon, lineN_small, cstV, mulW]
theorem loop9 {v' : Sl} : ∀ (ns : List W) (n : Nat) (o : Sl), NDs ns → (match need ns n with
    | some [] => ∃ o1, forGo (fun w σ h => g9.den ⟨pg.T k, pg.cst, pg.par⟩ w σ h) (fun σ h => f9.den ⟨pg.T k, pg.cst, pg.par⟩ σ h) ns [v', .val (.int n), o] h = .nx [v', .val (.int (0 : Nat)), o1] h
    | some (_ :: _) => forGo (fun w σ h => g9.den ⟨pg.T k, pg.cst, pg.par⟩ w σ h) (fun σ h => f9.den ⟨pg.T k, pg.cst, pg.par⟩ σ h) ns [v', .val (.int n), o] h = .rt (.bl false) h
    | none => ∃ m o1, forGo (fun w σ h => g9.den ⟨pg.T k, pg.cst, pg.par⟩ w σ h) (fun σ h => f9.den ⟨pg.T k, pg.cst, pg.par⟩ σ h) ns [v', .val (.int n), o] h = .nx [v', .val (.int (m + 1 : Nat)), o1] h)
  | [], 0, o, _ => ⟨o, rfl⟩
  | [], n + 1, o, _ => ⟨n, o, rfl⟩
  | a :: r, 0, o, q => by
    show forGo _ _ (a :: r) _ h = _
    unfold forGo
    have put : g9.den ⟨pg.T k, pg.cst, pg.par⟩ a [v', .val (.int (0 : Nat)), o] h = .ok [v', .val (.int (0 : Nat)), .val a] h := rfl
    simp only [put]
    rw [body9 (v := .non) (q a List.mem_cons_self)]
  | a :: r, n + 1, o, q => by
    have ih := loop9 (v' := v') r (n + ar a) (.val a) (fun w hw => q w (List.mem_cons_of_mem _ hw))
    have st : forGo (fun w σ h => g9.den ⟨pg.T k, pg.cst, pg.par⟩ w σ h) (fun σ h => f9.den ⟨pg.T k, pg.cst, pg.par⟩ σ h) (a :: r) [v', .val (.int (n + 1 : Nat)), o] h = forGo (fun w σ h => g9.den ⟨pg.T k, pg.cst, pg.par⟩ w σ h) (fun σ h => f9.den ⟨pg.T k, pg.cst, pg.par⟩ σ h) r [v', .val (.int (n + ar a : Nat)), .val a] h := by
      conv => lhs; unfold forGo
      have put : g9.den ⟨pg.T k, pg.cst, pg.par⟩ a [v', .val (.int (n + 1 : Nat)), o] h = .ok [v', .val (.int (n + 1 : Nat)), .val a] h := rfl
      simp only [put]
      rw [body9 (v := .non) (q a List.mem_cons_self)]
    rw [st]
    exact ih
theorem t26 {ns : List W} (hw : w = .lst ns ∨ w = .tup ns) (q : NDs ns) : pg.T (k+1) 26 [w] h = .ok (.bl (full (need ns 1))) h := by
  have run : pg.T (k+1) 26 [w] h = (match Ss.den ⟨pg.T k, pg.cst, pg.par⟩ b26 (startS 3 [w]) h with
    | .nx _ h => .ok .non h
    | .rt w h => .ok w h
    | .exc x _ h => .exc x h
    | _ => .bad) := rfl
  have st : Ss.den ⟨pg.T k, pg.cst, pg.par⟩ b26 (startS 3 [w]) h = (match forGo (fun w σ h => g9.den ⟨pg.T k, pg.cst, pg.par⟩ w σ h) (fun σ h => f9.den ⟨pg.T k, pg.cst, pg.par⟩ σ h) ns [.val w, .val (.int (1 : Nat)), .non] h with
    | .nx σ h => r9.den ⟨pg.T k, pg.cst, pg.par⟩ σ h
    | o => o) := by
    rcases hw with rfl | rfl <;> rfl
  have l := loop9 (k := k) (h := h) (v' := .val w) ns 1 .non q
  rw [run, st]
  cases hn : need ns 1 with
  | none =>
    rw [hn] at l
    obtain ⟨m, o1, e⟩ := l
    have z : ¬ ((m : Int) + 1 = 0) := by omega
    rw [e]
    simp [r9, b26, eqN, z, full, isW, Df.run, Ss.den, S.den, E.den, Es.den, Es.bo, Es.bt, Eo.den, Eo.tst, E.tst, It.den, R.bind, R.out, R.opt, startS, slotV, slotP, W.now, cmpW, intsW, idxW, L2.atI, L2.ixN, bltW, on1, on2, ifB, Tg.den, Tgs.den, tgo, binW, addW, intW, absW, lenW, truW, tyW, isTy, E.give, E.fresh, W.isNon, lineN_small, cstV, mulW]
  | some x =>
    rw [hn] at l
    cases x with
    | nil =>
      obtain ⟨o1, e⟩ := l
      rw [e]
      simp [r9, b26, eqN, full, isW, Df.run, Ss.den, S.den, E.den, Es.den, Es.bo, Es.bt, Eo.den, Eo.tst, E.tst, It.den, R.bind, R.out, R.opt, startS, slotV, slotP, W.now, cmpW, intsW, idxW, L2.atI, L2.ixN, bltW, on1, on2, ifB, Tg.den, Tgs.den, tgo, binW, addW, intW, absW, lenW, truW, tyW, isTy, E.give, E.fresh, W.isNon, lineN_small, cstV, mulW]
    | cons a r =>
      have e := l
      rw [e]
      rfl
theorem t27 (p : PV w) (hl : ∀ ns, parts w = some ns → ns.length ≤ 1000) : pg.T (k+7) 27 [w] h = .ok (.bl (tm w)) h := by
  show Df.run ⟨"is_term", ["value", "node"], 1, b27⟩ ⟨pg.T (k+6), pg.cst, pg.par⟩ [w] h = _
  have e2 := t2 (k := k + 5) (h := h) p
  have c : pg.cst "MOST_NODES" = some (.int 300) := rfl
  cases hp : parts w with
  | none =>
    have z : isLs w = false := by cases w <;> first | rfl | cases hp
    rw [z] at e2
    have zt : tm w = false := by unfold tm; rw [hp]
    rw [zt]
    simp [b27, e2, isW, Df.run, Ss.den, S.den, E.den, Es.den, Es.bo, Es.bt, Eo.den, Eo.tst, E.tst, It.den, R.bind, R.out, R.opt, startS, slotV, slotP, W.now, cmpW, intsW, idxW, L2.atI, L2.ixN, bltW, on1, on2, ifB, Tg.den, Tgs.den, tgo, binW, addW, intW, absW, lenW, truW, tyW, isTy, E.give, E.fresh, W.isNon, lineN_small, cstV, mulW]
  | some ns =>
    have hl := hl ns hp
    have hw : w = .lst ns ∨ w = .tup ns := by cases w <;> first | (cases hp; simp) | cases hp
    have z : isLs w = true := by rcases hw with rfl | rfl <;> rfl
    have pn : ∀ x ∈ ns, PV x := by
      rcases hw with rfl | rfl
      · cases p with | lst _ q => exact q
      · cases p with | tup _ q => exact q
    rw [z] at e2
    have zt : tm w = (decide (1 ≤ ns.length) && (decide (ns.length ≤ 300) && (ns.all nd && full (need ns 1)))) := by unfold tm; rw [hp]
    rw [zt]
    have hln : lineN ns.length = true := lineN_small hl
    have i1 : (1 : Int) ≤ (ns.length : Int) ↔ 1 ≤ ns.length := by omega
    have i2 : (ns.length : Int) ≤ 300 ↔ ns.length ≤ 300 := by omega
    by_cases h1 : 1 ≤ ns.length
    · by_cases h2 : ns.length ≤ 300
      · have elc := fun x p1 p2 p3 y p4 z p5 sc p6 => lcCall (D := ⟨pg.T (k+6), pg.cst, pg.par⟩) (σ := [.val w, .non]) (h := h) (b := true) (f := 25) (i := 1) (j := 0) (ws := ns) (g := fun w => W.bl (nd w)) x p1 p2 p3 y p4 z p5 sc p6 (by rcases hw with rfl | rfl; exact .inl rfl; exact .inr rfl) (fun x hx => t25 (k := k) (pn x hx)) rfl (Nat.lt_succ_self 1) (by omega)
        have run : Df.run ⟨"is_term", ["value", "node"], 1, b27⟩ ⟨pg.T (k+6), pg.cst, pg.par⟩ [w] h = (match Ss.den ⟨pg.T (k+6), pg.cst, pg.par⟩ b27 [.val w, .non] h with
          | .nx _ h => .ok .non h
          | .rt w h => .ok w h
          | .exc x _ h => .exc x h
          | _ => .bad) := rfl
        rw [run]
        have hal := allW_map nd ns
        cases ha : ns.all nd with
        | true =>
          have q : NDs ns := fun w hw => List.all_eq_true.mp ha w hw
          have e9 := t26 (k := k + 5) (h := h) hw q
          rcases hw with rfl | rfl <;> simp [b27, e2, c, h1, h2, i1, i2, hln, ↓elc, hal, ha, e9, -List.all_eq_true, -List.all_map, isW, Df.run, Ss.den, S.den, E.den, Es.den, Es.bo, Es.bt, Eo.den, Eo.tst, E.tst, It.den, R.bind, R.out, R.opt, startS, slotV, slotP, W.now, cmpW, intsW, idxW, L2.atI, L2.ixN, bltW, on1, on2, ifB, Tg.den, Tgs.den, tgo, binW, addW, intW, absW, lenW, truW, tyW, isTy, E.give, E.fresh, W.isNon, lineN_small, cstV, mulW]
        | false => rcases hw with rfl | rfl <;> simp [b27, e2, c, h1, h2, i1, i2, hln, ↓elc, hal, ha, -List.all_eq_true, -List.all_map, -List.all_eq_false, isW, Df.run, Ss.den, S.den, E.den, Es.den, Es.bo, Es.bt, Eo.den, Eo.tst, E.tst, It.den, R.bind, R.out, R.opt, startS, slotV, slotP, W.now, cmpW, intsW, idxW, L2.atI, L2.ixN, bltW, on1, on2, ifB, Tg.den, Tgs.den, tgo, binW, addW, intW, absW, lenW, truW, tyW, isTy, E.give, E.fresh, W.isNon, lineN_small, cstV, mulW]
      · rcases hw with rfl | rfl <;> simp [b27, e2, c, h1, h2, i1, i2, hln, isW, Df.run, Ss.den, S.den, E.den, Es.den, Es.bo, Es.bt, Eo.den, Eo.tst, E.tst, It.den, R.bind, R.out, R.opt, startS, slotV, slotP, W.now, cmpW, intsW, idxW, L2.atI, L2.ixN, bltW, on1, on2, ifB, Tg.den, Tgs.den, tgo, binW, addW, intW, absW, lenW, truW, tyW, isTy, E.give, E.fresh, W.isNon, lineN_small, cstV, mulW]
    · rcases hw with rfl | rfl <;> simp [b27, e2, c, h1, i1, hln, isW, Df.run, Ss.den, S.den, E.den, Es.den, Es.bo, Es.bt, Eo.den, Eo.tst, E.tst, It.den, R.bind, R.out, R.opt, startS, slotV, slotP, W.now, cmpW, intsW, idxW, L2.atI, L2.ixN, bltW, on1, on2, ifB, Tg.den, Tgs.den, tgo, binW, addW, intW, absW, lenW, truW, tyW, isTy, E.give, E.fresh, W.isNon, lineN_small, cstV, mulW]
end K13

set_option maxHeartbeats 4000000
namespace K13
open PySem Ev Mx
variable {k : Nat} {w : W} {t : Obs}
/-! ## the pot, draws, kinds, terms (values: c0 the cell without a script, cd the draw's number, ca, cm; x0 the pot without a script) -/
theorem pot_new (c : Int) : Vd (if c - 1000000000000000000 > 0 then c - 1000000000000000000 else 0) ((c % 2147483549 * 48271 + 17) % 2147483563 + 1) := by
  refine ⟨?_, ?_, ?_⟩
  · split <;> omega
  · omega
  · omega
theorem t30 (ns : List Int) : ∃ a b, pg.T (k+1) 30 [.scr ns, .int 0] [] = .ok (.ref 0) (PT a b []) ∧ Vd a b := by
  have run : ∀ x, pg.T (k+1) 30 x [] = Df.run ⟨"_law_pot", ["_law_script", "_law_k", "_law_cell"], 2, b30⟩ ⟨pg.T k, pg.cst, pg.par⟩ x [] := fun _ => rfl
  rw [run]
  have sm : ∀ x : Int, small (x % 2147483549) = true := fun x => by
    unfold small
    rw [decide_eq_true (show (-(2 ^ 64) : Int) < x % 2147483549 by omega), decide_eq_true (show x % 2147483549 < (2 ^ 64 : Int) by omega)]
    rfl
  have s0 : small 491 = true := by decide
  have s1 : small 3583 = true := by decide
  have s2 : small 48271 = true := by decide
  have l2 : lineN 2 = true := lineN_small (by omega)
  cases ns with
  | nil => exact ⟨0, 15977719, by simp [b30, sm, s0, s1, s2, l2, isW, Df.run, Ss.den, S.den, E.den, Es.den, Es.bo, Es.bt, Eo.den, Eo.tst, E.tst, It.den, R.bind, R.out, R.opt, startS, slotV, slotP, W.now, cmpW, intsW, idxW, L2.atI, L2.ixN, bltW, on1, on2, ifB, Tg.den, Tgs.den, tgo, binW, addW, intW, absW, lenW, truW, tyW, isTy, E.give, E.fresh, W.isNon, lineN_small, cstV, mulW], by constructor <;> decide⟩
  | cons n r =>
    have z : (0 : Int) < (r.length : Int) + 1 := by omega
    refine ⟨_, _, ?_, pot_new (if n < 0 then -n else n)⟩
    simp [b30, sm, s0, s1, s2, l2, z, isW, Df.run, Ss.den, S.den, E.den, Es.den, Es.bo, Es.bt, Eo.den, Eo.tst, E.tst, It.den, R.bind, R.out, R.opt, startS, slotV, slotP, W.now, cmpW, intsW, idxW, L2.atI, L2.ixN, bltW, on1, on2, ifB, Tg.den, Tgs.den, tgo, binW, addW, intW, absW, lenW, truW, tyW, isTy, E.give, E.fresh, W.isNon, lineN_small, cstV, mulW]
theorem t31 {a b n : Int} (v : Vd a b) (hn : 0 < n) (hn2 : n ≤ 1000) : ∃ d a1 b1, pg.T (k+1) 31 [.ref 0, .int n] (PT a b t) = .ok (.int d) (PT a1 b1 t) ∧ 0 ≤ d ∧ d < n ∧ Vd a1 b1 := by
  have run : ∀ x h, pg.T (k+1) 31 x h = Df.run ⟨"_law_draw", ["_law_pot_here", "_law_size", "_law_digit"], 2, b31⟩ ⟨pg.T k, pg.cst, pg.par⟩ x h := fun _ _ => rfl
  rw [run]
  have hn3 : n < 1073741824 := by omega
  obtain ⟨va, vb, vc⟩ := v
  by_cases ha : 0 < a
  · refine ⟨a % n, a / n, b, by simp [b31, ha, hn, hn3, isW, Df.run, Ss.den, S.den, E.den, Es.den, Es.bo, Es.bt, Eo.den, Eo.tst, E.tst, It.den, R.bind, R.out, R.opt, startS, slotV, slotP, W.now, cmpW, intsW, idxW, L2.atI, L2.ixN, bltW, on1, on2, ifB, Tg.den, Tgs.den, tgo, binW, addW, intW, absW, lenW, truW, tyW, isTy, E.give, E.fresh, W.isNon, lineN_small, cstV, mulW], Int.emod_nonneg _ (by omega), Int.emod_lt_of_pos _ hn, Int.ediv_nonneg va (by omega), vb, vc⟩
  · have sm : small b = true := by
      unfold small
      rw [decide_eq_true (show (-(2 ^ 64) : Int) < b by omega), decide_eq_true (show b < (2 ^ 64 : Int) by omega)]
      rfl
    have sm2 : small ((b * 39373 + 3583) % 2147483587) = true := by
      unfold small
      rw [decide_eq_true (show (-(2 ^ 64) : Int) < (b * 39373 + 3583) % 2147483587 by omega), decide_eq_true (show (b * 39373 + 3583) % 2147483587 < (2 ^ 64 : Int) by omega)]
      rfl
    refine ⟨(b * 39373 + 3583) % 2147483587 * ((b * 39373 + 3583) % 2147483587) % 2147483563 / 17 % n, a, (b * 39373 + 3583) % 2147483587, by simp [b31, ha, hn, hn3, sm, sm2, isW, Df.run, Ss.den, S.den, E.den, Es.den, Es.bo, Es.bt, Eo.den, Eo.tst, E.tst, It.den, R.bind, R.out, R.opt, startS, slotV, slotP, W.now, cmpW, intsW, idxW, L2.atI, L2.ixN, bltW, on1, on2, ifB, Tg.den, Tgs.den, tgo, binW, addW, intW, absW, lenW, truW, tyW, isTy, E.give, E.fresh, W.isNon, lineN_small, cstV, mulW], Int.emod_nonneg _ (by omega), Int.emod_lt_of_pos _ hn, va, by omega, by omega⟩
theorem t32 {a b : Int} (v : Vd a b) {ws : List W} (hn : ws ≠ []) (hl : ws.length ≤ 1000) : ∃ w a1 b1, pg.T (k+2) 32 [.ref 0, .lst ws] (PT a b t) = .ok w (PT a1 b1 t) ∧ w ∈ ws ∧ Vd a1 b1 := by
  have run : ∀ x h, pg.T (k+2) 32 x h = Df.run ⟨"_law_pick", ["_law_pot_here", "_law_some"], 2, b32⟩ ⟨pg.T (k+1), pg.cst, pg.par⟩ x h := fun _ _ => rfl
  rw [run]
  have hp : 0 < ws.length := List.length_pos_iff.mpr hn
  obtain ⟨d, a1, b1, e, h0, h3, v1⟩ := t31 (k := k) (t := t) (n := ws.length) v (by omega) (by omega)
  obtain ⟨i, rfl⟩ : ∃ i : Nat, d = i := ⟨d.toNat, by omega⟩
  have hi : i < ws.length := by omega
  have ea : L2.atI ws (i : Int) = some ws[i] := by
    unfold L2.atI L2.ixN
    rw [if_pos h0, if_pos h3]
    simp [hi]
  refine ⟨ws[i], a1, b1, ?_, List.getElem_mem hi, v1⟩
  simp [b32, e, ea, isW, Df.run, Ss.den, S.den, E.den, Es.den, Es.bo, Es.bt, Eo.den, Eo.tst, E.tst, It.den, R.bind, R.out, R.opt, startS, slotV, slotP, W.now, cmpW, intsW, idxW, bltW, on1, on2, ifB, Tg.den, Tgs.den, tgo, binW, addW, intW, absW, lenW, truW, tyW, isTy, E.give, E.fresh, W.isNon, lineN_small, cstV, mulW]
theorem t39 : ∀ (n : Nat) {a b : Int} (v : Vd a b), ∃ (w : Kd) (a1 b1 : Int), pg.T (k+n+2) 39 [.ref 0, .int n] (PT a b t) = .ok w.w (PT a1 b1 t) ∧ w.deep ≤ n + 1 ∧ w.lw 2 = true ∧ Vd a1 b1 := by
  have l2 : lineN 2 = true := lineN_small (by omega)
  have l1 : lineN 1 = true := lineN_small (by omega)
  have l3 : lineN 3 = true := lineN_small (by omega)
  intro n
  induction n with
  | zero =>
    intro a b v
    have run : ∀ x h, pg.T (k+0+2) 39 x h = Df.run ⟨"_law_kind", ["_law_pot_here", "_law_deep", "_law_way", "_law_near"], 2, b39⟩ ⟨pg.T (k+1), pg.cst, pg.par⟩ x h := fun _ _ => rfl
    rw [run]
    obtain ⟨d, a1, b1, e, h0, h3, v1⟩ := t31 (k := k) (t := t) (n := 3) v (by omega) (by omega)
    by_cases hd : d < 2
    · obtain ⟨i, rfl⟩ : ∃ i : Nat, d = i := ⟨d.toNat, by omega⟩
      exact ⟨.ltr i, a1, b1, by simp [b39, e, h3, hd, l2, Kd.w, isW, Df.run, Ss.den, S.den, E.den, Es.den, Es.bo, Es.bt, Eo.den, Eo.tst, E.tst, It.den, R.bind, R.out, R.opt, startS, slotV, slotP, W.now, cmpW, intsW, idxW, L2.atI, L2.ixN, bltW, on1, on2, ifB, Tg.den, Tgs.den, tgo, binW, addW, intW, absW, lenW, truW, tyW, isTy, E.give, E.fresh, W.isNon, lineN_small, cstV, mulW], by simp [Kd.deep], by simp [Kd.lw]; omega, v1⟩
    · exact ⟨.cnt, a1, b1, by simp [b39, e, h3, hd, l1, Kd.w, isW, Df.run, Ss.den, S.den, E.den, Es.den, Es.bo, Es.bt, Eo.den, Eo.tst, E.tst, It.den, R.bind, R.out, R.opt, startS, slotV, slotP, W.now, cmpW, intsW, idxW, L2.atI, L2.ixN, bltW, on1, on2, ifB, Tg.den, Tgs.den, tgo, binW, addW, intW, absW, lenW, truW, tyW, isTy, E.give, E.fresh, W.isNon, lineN_small, cstV, mulW], by simp [Kd.deep], by simp [Kd.lw], v1⟩
  | succ n ih =>
    intro a b v
    have run : ∀ x h, pg.T (k+(n+1)+2) 39 x h = Df.run ⟨"_law_kind", ["_law_pot_here", "_law_deep", "_law_way", "_law_near"], 2, b39⟩ ⟨pg.T (k+n+2), pg.cst, pg.par⟩ x h := fun _ _ => rfl
    rw [run]
    have hn : (0 : Int) < (n : Int) + 1 := by omega
    obtain ⟨d, a1, b1, e, h0, h6, v1⟩ := t31 (k := k + n + 1) (t := t) (n := 6) v (by omega) (by omega)
    by_cases h3 : d < 3
    · by_cases hd : d < 2
      · obtain ⟨i, rfl⟩ : ∃ i : Nat, d = i := ⟨d.toNat, by omega⟩
        exact ⟨.ltr i, a1, b1, by simp [b39, e, hn, h3, hd, l2, Kd.w, isW, Df.run, Ss.den, S.den, E.den, Es.den, Es.bo, Es.bt, Eo.den, Eo.tst, E.tst, It.den, R.bind, R.out, R.opt, startS, slotV, slotP, W.now, cmpW, intsW, idxW, L2.atI, L2.ixN, bltW, on1, on2, ifB, Tg.den, Tgs.den, tgo, binW, addW, intW, absW, lenW, truW, tyW, isTy, E.give, E.fresh, W.isNon, lineN_small, cstV, mulW], by simp [Kd.deep], by simp [Kd.lw]; omega, v1⟩
      · exact ⟨.cnt, a1, b1, by simp [b39, e, hn, h3, hd, l1, Kd.w, isW, Df.run, Ss.den, S.den, E.den, Es.den, Es.bo, Es.bt, Eo.den, Eo.tst, E.tst, It.den, R.bind, R.out, R.opt, startS, slotV, slotP, W.now, cmpW, intsW, idxW, L2.atI, L2.ixN, bltW, on1, on2, ifB, Tg.den, Tgs.den, tgo, binW, addW, intW, absW, lenW, truW, tyW, isTy, E.give, E.fresh, W.isNon, lineN_small, cstV, mulW], by simp [Kd.deep], by simp [Kd.lw], v1⟩
    · obtain ⟨x, a2, b2, e2, dx, lx, v2⟩ := ih v1
      obtain ⟨y, a3, b3, e3, dy, ly, v3⟩ := ih v2
      have hd : d = 3 ∨ d = 4 ∨ d = 5 := by omega
      rcases hd with rfl | rfl | rfl
      · exact ⟨.pair x y, a3, b3, by simp [b39, e, e2, e3, hn, l3, Kd.w, isW, Df.run, Ss.den, S.den, E.den, Es.den, Es.bo, Es.bt, Eo.den, Eo.tst, E.tst, It.den, R.bind, R.out, R.opt, startS, slotV, slotP, W.now, cmpW, intsW, idxW, L2.atI, L2.ixN, bltW, on1, on2, ifB, Tg.den, Tgs.den, tgo, binW, addW, intW, absW, lenW, truW, tyW, isTy, E.give, E.fresh, W.isNon, lineN_small, cstV, mulW], by simp only [Kd.deep]; omega, by simp [Kd.lw, lx, ly], v3⟩
      · exact ⟨.sum x y, a3, b3, by simp [b39, e, e2, e3, hn, l3, Kd.w, isW, Df.run, Ss.den, S.den, E.den, Es.den, Es.bo, Es.bt, Eo.den, Eo.tst, E.tst, It.den, R.bind, R.out, R.opt, startS, slotV, slotP, W.now, cmpW, intsW, idxW, L2.atI, L2.ixN, bltW, on1, on2, ifB, Tg.den, Tgs.den, tgo, binW, addW, intW, absW, lenW, truW, tyW, isTy, E.give, E.fresh, W.isNon, lineN_small, cstV, mulW], by simp only [Kd.deep]; omega, by simp [Kd.lw, lx, ly], v3⟩
      · exact ⟨.fn x y, a3, b3, by simp [b39, e, e2, e3, hn, l3, Kd.w, isW, Df.run, Ss.den, S.den, E.den, Es.den, Es.bo, Es.bt, Eo.den, Eo.tst, E.tst, It.den, R.bind, R.out, R.opt, startS, slotV, slotP, W.now, cmpW, intsW, idxW, L2.atI, L2.ixN, bltW, on1, on2, ifB, Tg.den, Tgs.den, tgo, binW, addW, intW, absW, lenW, truW, tyW, isTy, E.give, E.fresh, W.isNon, lineN_small, cstV, mulW], by simp only [Kd.deep]; omega, by simp [Kd.lw, lx, ly], v3⟩
end K13

set_option maxHeartbeats 4000000
namespace K13
open PySem Ev Mx
/-! ## drawn terms -/
structure Dr (D : Dn) : Prop where
  draw : ∀ {a b : Int} (n : Int) (t : Obs), Vd a b → 0 < n → n ≤ 1000 → ∃ d a1 b1, D.call 31 [.ref 0, .int n] (PT a b t) = .ok (.int d) (PT a1 b1 t) ∧ 0 ≤ d ∧ d < n ∧ Vd a1 b1
  pick : ∀ {a b : Int} (t : Obs) {ws : List W}, Vd a b → ws ≠ [] → ws.length ≤ 1000 → ∃ w a1 b1, D.call 32 [.ref 0, .lst ws] (PT a b t) = .ok w (PT a1 b1 t) ∧ w ∈ ws ∧ Vd a1 b1
  kind : ∀ {a b : Int} (n : Nat) (t : Obs), n ≤ 3 → Vd a b → ∃ (w : Kd) (a1 b1 : Int), D.call 39 [.ref 0, .int n] (PT a b t) = .ok w.w (PT a1 b1 t) ∧ w.deep ≤ n + 1 ∧ w.lw 2 = true ∧ Vd a1 b1
theorem dr (k : Nat) : Dr ⟨pg.T (k + 6), pg.cst, pg.par⟩ where
  draw := fun n t v h1 h2 => t31 (k := k + 5) v h1 h2
  pick := fun t ws v h1 h2 => t32 (k := k + 4) v h1 h2
  kind := fun n t hn v => by
    have e := t39 (k := k + 4 - n) (t := t) n v
    have z : k + 4 - n + n + 2 = k + 6 := by omega
    rw [z] at e
    exact e
/-- names around -/
structure Gd (Γ : List Kd) : Prop where
  a : ∀ A ∈ Γ, A.deep ≤ 3 ∧ A.lw 2 = true
  l0 : .ltr 0 ∈ Γ
  l1 : .ltr 1 ∈ Γ
theorem Gd.cons {Γ : List Kd} {A : Kd} (g : Gd Γ) (h : A.deep ≤ 3) (l : A.lw 2 = true) : Gd (A :: Γ) where
  a := fun B hB => by
    rcases List.mem_cons.mp hB with rfl | hB
    · exact ⟨h, l⟩
    · exact g.a B hB
  l0 := List.mem_cons_of_mem _ g.l0
  l1 := List.mem_cons_of_mem _ g.l1
/-- what is asked of a drawn term -/
structure Dn2 (Γ : List Kd) (K : Kd) (d : Int) (q : Nat) (u : Tm) : Prop where
  kd : u.kd Γ = some K
  len : u.ws.length ≤ M d.toNat q
  lim : u.lim 100 9 3 2 = true
def Made (D : Dn) (f : Nat) : Prop := ∀ (q : Nat) (d : Int) (K : Kd) (Γ : List Kd) (a b : Int) (t : Obs), 2 * d.toNat + q ≤ f → K.deep ≤ q + 1 → q ≤ 2 → d.toNat ≤ 3 → Gd Γ → Γ.length + f ≤ 100 → K.lw 2 = true → Vd a b →
  ∃ (u : Tm) (a1 b1 : Int), D.call 41 [.ref 0, K.w, .lst (Γ.map Kd.w), .int d] (PT a b t) = .ok (.lst u.ws) (PT a1 b1 t) ∧ Dn2 Γ K d q u ∧ Vd a1 b1
def Cuts (D : Dn) (f : Nat) : Prop := ∀ (q : Nat) (d : Nat) (K : Kd) (Γ : List Kd) (a b : Int) (t : Obs), 2 * (d + 1) + q ≤ f → K.deep ≤ q + 1 → q ≤ 2 → d + 1 ≤ 3 → Gd Γ → Γ.length + f ≤ 100 → K.lw 2 = true → Vd a b →
  ∃ (u : Tm) (a1 b1 : Int), D.call 40 [.ref 0, K.w, .lst (Γ.map Kd.w), .int (d + 1 : Nat)] (PT a b t) = .ok (.lst u.ws) (PT a1 b1 t) ∧ Dn2 Γ K (d + 1 : Nat) q u ∧ Vd a1 b1
theorem okd_small {A : Kd} (h : A.deep ≤ 5) : Tm.okd A = some A := by
  unfold Tm.okd
  rw [if_pos ⟨by have := Kd.signs_deep A 5 h; omega, by omega⟩]
theorem M_le {d q : Nat} (hd : d ≤ 3) (hq : q ≤ 2) : M d q ≤ 209 := by
  have h1 : d = 0 ∨ d = 1 ∨ d = 2 ∨ d = 3 := by omega
  have h2 : q = 0 ∨ q = 1 ∨ q = 2 := by omega
  rcases h1 with rfl | rfl | rfl | rfl <;> rcases h2 with rfl | rfl | rfl <;> simp [M]
theorem cut_ok {D : Dn} (dr : Dr D) {f : Nat} (mk : Made D f) (q d : Nat) (K : Kd) (Γ : List Kd) (a b : Int) (t : Obs) (hr : 2 * (d + 1) + q ≤ f + 1) (hk : K.deep ≤ q + 1) (hq : q ≤ 2) (hd : d + 1 ≤ 3) (g : Gd Γ) (hl : Γ.length + f + 1 ≤ 100) (kl : K.lw 2 = true) (v : Vd a b) :
    ∃ (u : Tm) (a1 b1 : Int), Df.run ⟨"_law_cut", ["_law_pot_here", "_law_kind_here", "_law_names", "_law_deep", "_law_way", "_law_other", "_law_body", "_law_what", "_law_near", "_law_far", "_law_more", "_law_arm", "_law_step"], 4, b40⟩ D [.ref 0, K.w, .lst (Γ.map Kd.w), .int (d + 1 : Nat)] (PT a b t) = .ok (.lst u.ws) (PT a1 b1 t) ∧ Dn2 Γ K (d + 1 : Nat) q u ∧ Vd a1 b1 := by
  have hM := M_le (d := d) (q := q) (by omega) hq
  have hM1 := M_le (d := d) (q := 1) (by omega) (by omega)
  have hM0 := M_le (d := d) (q := 0) (by omega) (by omega)
  have hMM : M (d + 1) q = 2 + M d 1 + 2 * M d q := by simp only [M]
  have hM01 : M d 0 ≤ M d 1 := M_mono d (by omega)
  have hM2 := M_two d q
  have tn : ((d : Int)).toNat = d := by omega
  have tn1 : (((d + 1 : Nat) : Int)).toNat = d + 1 := by omega
  have ec : ((d : Int) + 1 - 1) = d := by omega
  have mk' : ∀ (q : Nat) (K : Kd) (Γ : List Kd) (a b : Int), 2 * d + q ≤ f → K.deep ≤ q + 1 → q ≤ 2 → Gd Γ → Γ.length + f ≤ 100 → K.lw 2 = true → Vd a b →
      ∃ (u : Tm) (a1 b1 : Int), D.call 41 [.ref 0, K.w, .lst (Γ.map Kd.w), .int d] (PT a b t) = .ok (.lst u.ws) (PT a1 b1 t) ∧ u.kd Γ = some K ∧ u.ws.length ≤ M d q ∧ u.lim 100 9 3 2 = true ∧ Vd a1 b1 := fun q K Γ a b h1 h2 h3 h4 h5 h6 h7 => by
    obtain ⟨u, a1, b1, e, ⟨x, y, z⟩, w⟩ := mk q d K Γ a b t (by omega) h2 h3 (by omega) h4 h5 h6 h7
    rw [tn] at y
    exact ⟨u, a1, b1, e, x, y, z, w⟩
  obtain ⟨way, a1, b1, ew, w0, w5, v1⟩ := dr.draw 5 t v (by omega) (by omega)
  obtain ⟨o, a2, b2, eo, od, ol, v2⟩ := dr.kind 1 t (by omega) v1
  have eo : D.call 39 [.ref 0, .int 1] (PT a1 b1 t) = .ok o.w (PT a2 b2 t) := eo
  have hw : way = 0 ∨ way = 1 ∨ way = 2 ∨ way = 3 ∨ way = 4 := by omega
  have lg : (Γ.map Kd.w).length ≤ 100 := by rw [List.length_map]; omega
  rcases hw with rfl | rfl | rfl | rfl | rfl
  · obtain ⟨ub, a3, b3, e3, k3, l3, i3, v3⟩ := mk' q K (o :: Γ) _ _ (by omega) hk hq (g.cons (by omega) ol) (by simp only [List.length_cons]; omega) kl v2
    obtain ⟨ua, a4, b4, e4, k4, l4, i4, v4⟩ := mk' 1 o Γ _ _ (by omega) od (by omega) g (by omega) ol v3
    simp only [List.map_cons] at e3
    refine ⟨.call (.fn o ub) ua, a4, b4, ?_, ⟨?_, ?_, ?_⟩, v4⟩
    · simp (disch := first | (show (_ : Nat) ≤ 1000; omega) | simp) [b40, ew, eo, e3, e4, eqN, ec, Tm.ws, isW, Df.run, Ss.den, S.den, E.den, Es.den, Es.bo, Es.bt, Eo.den, Eo.tst, E.tst, It.den, R.bind, R.out, R.opt, startS, slotV, slotP, W.now, cmpW, intsW, idxW, L2.atI, L2.ixN, bltW, on1, on2, ifB, Tg.den, Tgs.den, tgo, binW, addW, intW, absW, lenW, truW, tyW, isTy, E.give, E.fresh, W.isNon, lineN_small, cstV, mulW]
    · simp [Tm.kd, k3, k4, okd_small (show (Kd.fn o K).deep ≤ 5 by simp only [Kd.deep]; omega)]
    · rw [tn1]; simp [Tm.ws]; omega
    · simp [Tm.lim, i3, i4, ol]; omega
  · obtain ⟨ua, a3, b3, e3, k3, l3, i3, v3⟩ := mk' 1 o Γ _ _ (by omega) od (by omega) g (by omega) ol v2
    obtain ⟨ub, a4, b4, e4, k4, l4, i4, v4⟩ := mk' q K (o :: Γ) _ _ (by omega) hk hq (g.cons (by omega) ol) (by simp only [List.length_cons]; omega) kl v3
    simp only [List.map_cons] at e4
    refine ⟨.let_ ua ub, a4, b4, ?_, ⟨?_, ?_, ?_⟩, v4⟩
    · simp (disch := first | (show (_ : Nat) ≤ 1000; omega) | simp) [b40, ew, eo, e3, e4, eqN, ec, Tm.ws, isW, Df.run, Ss.den, S.den, E.den, Es.den, Es.bo, Es.bt, Eo.den, Eo.tst, E.tst, It.den, R.bind, R.out, R.opt, startS, slotV, slotP, W.now, cmpW, intsW, idxW, L2.atI, L2.ixN, bltW, on1, on2, ifB, Tg.den, Tgs.den, tgo, binW, addW, intW, absW, lenW, truW, tyW, isTy, E.give, E.fresh, W.isNon, lineN_small, cstV, mulW]
    · simp [Tm.kd, k3, k4]
    · rw [tn1]; simp [Tm.ws]; omega
    · simp [Tm.lim, i3, i4]
  · obtain ⟨ua, a3, b3, e3, k3, l3, i3, v3⟩ := mk' q K Γ _ _ (by omega) hk hq g (by omega) kl v2
    obtain ⟨ub, a4, b4, e4, k4, l4, i4, v4⟩ := mk' 1 o Γ _ _ (by omega) od (by omega) g (by omega) ol v3
    obtain ⟨x, a5, b5, e5, x0, x2, v5⟩ := dr.draw 2 t v4 (by omega) (by omega)
    by_cases hx : x = 0
    · subst hx
      refine ⟨.first (.both ua ub), a5, b5, ?_, ⟨?_, ?_, ?_⟩, v5⟩
      · simp (disch := first | (show (_ : Nat) ≤ 1000; omega) | simp) [b40, ew, eo, e3, e4, e5, eqN, ec, Tm.ws, isW, Df.run, Ss.den, S.den, E.den, Es.den, Es.bo, Es.bt, Eo.den, Eo.tst, E.tst, It.den, R.bind, R.out, R.opt, startS, slotV, slotP, W.now, cmpW, intsW, idxW, L2.atI, L2.ixN, bltW, on1, on2, ifB, Tg.den, Tgs.den, tgo, binW, addW, intW, absW, lenW, truW, tyW, isTy, E.give, E.fresh, W.isNon, lineN_small, cstV, mulW]
      · simp [Tm.kd, k3, k4, okd_small (show (Kd.pair K o).deep ≤ 5 by simp only [Kd.deep]; omega)]
      · rw [tn1]; simp [Tm.ws]; omega
      · simp [Tm.lim, i3, i4]
    · refine ⟨.second (.both ub ua), a5, b5, ?_, ⟨?_, ?_, ?_⟩, v5⟩
      · simp (disch := first | (show (_ : Nat) ≤ 1000; omega) | simp) [b40, ew, eo, e3, e4, e5, eqN, ec, hx, Tm.ws, isW, Df.run, Ss.den, S.den, E.den, Es.den, Es.bo, Es.bt, Eo.den, Eo.tst, E.tst, It.den, R.bind, R.out, R.opt, startS, slotV, slotP, W.now, cmpW, intsW, idxW, L2.atI, L2.ixN, bltW, on1, on2, ifB, Tg.den, Tgs.den, tgo, binW, addW, intW, absW, lenW, truW, tyW, isTy, E.give, E.fresh, W.isNon, lineN_small, cstV, mulW]
      · simp [Tm.kd, k3, k4, okd_small (show (Kd.pair o K).deep ≤ 5 by simp only [Kd.deep]; omega)]
      · rw [tn1]; simp [Tm.ws]; omega
      · simp [Tm.lim, i3, i4]
  · obtain ⟨m, a3, b3, em, md, ml, v3⟩ := dr.kind 0 t (by omega) v2
    have em : D.call 39 [.ref 0, .int 0] (PT a2 b2 t) = .ok m.w (PT a3 b3 t) := em
    obtain ⟨us, a4, b4, e4, k4, l4, i4, v4⟩ := mk' 1 o Γ _ _ (by omega) od (by omega) g (by omega) ol v3
    obtain ⟨x, a5, b5, e5, x0, x2, v5⟩ := dr.draw 2 t v4 (by omega) (by omega)
    by_cases hx : x = 0
    · subst hx
      obtain ⟨ur, a6, b6, e6, k6, l6, i6, v6⟩ := mk' 0 m Γ _ _ (by omega) md (by omega) g (by omega) ml v5
      obtain ⟨ua, a7, b7, e7, k7, l7, i7, v7⟩ := mk' q K (o :: Γ) _ _ (by omega) hk hq (g.cons (by omega) ol) (by simp only [List.length_cons]; omega) kl v6
      obtain ⟨ub, a8, b8, e8, k8, l8, i8, v8⟩ := mk' q K (m :: Γ) _ _ (by omega) hk hq (g.cons (by omega) ml) (by simp only [List.length_cons]; omega) kl v7
      simp only [List.map_cons] at e7 e8
      refine ⟨.which (.right o ur) ua ub, a8, b8, ?_, ⟨?_, ?_, ?_⟩, v8⟩
      · simp (disch := first | (show (_ : Nat) ≤ 1000; omega) | simp) [b40, ew, eo, em, e4, e5, e6, e7, e8, eqN, ec, Tm.ws, isW, Df.run, Ss.den, S.den, E.den, Es.den, Es.bo, Es.bt, Eo.den, Eo.tst, E.tst, It.den, R.bind, R.out, R.opt, startS, slotV, slotP, W.now, cmpW, intsW, idxW, L2.atI, L2.ixN, bltW, on1, on2, ifB, Tg.den, Tgs.den, tgo, binW, addW, intW, absW, lenW, truW, tyW, isTy, E.give, E.fresh, W.isNon, lineN_small, cstV, mulW]
      · simp [Tm.kd, k6, k7, k8, okd_small (show (Kd.sum o m).deep ≤ 5 by simp only [Kd.deep]; omega)]
      · rw [tn1]; simp [Tm.ws]; omega
      · simp [Tm.lim, i6, i7, i8, ol]; omega
    · obtain ⟨ua, a7, b7, e7, k7, l7, i7, v7⟩ := mk' q K (o :: Γ) _ _ (by omega) hk hq (g.cons (by omega) ol) (by simp only [List.length_cons]; omega) kl v5
      obtain ⟨ub, a8, b8, e8, k8, l8, i8, v8⟩ := mk' q K (m :: Γ) _ _ (by omega) hk hq (g.cons (by omega) ml) (by simp only [List.length_cons]; omega) kl v7
      simp only [List.map_cons] at e7 e8
      refine ⟨.which (.left m us) ua ub, a8, b8, ?_, ⟨?_, ?_, ?_⟩, v8⟩
      · simp (disch := first | (show (_ : Nat) ≤ 1000; omega) | simp) [b40, ew, eo, em, e4, e5, e7, e8, eqN, ec, hx, Tm.ws, isW, Df.run, Ss.den, S.den, E.den, Es.den, Es.bo, Es.bt, Eo.den, Eo.tst, E.tst, It.den, R.bind, R.out, R.opt, startS, slotV, slotP, W.now, cmpW, intsW, idxW, L2.atI, L2.ixN, bltW, on1, on2, ifB, Tg.den, Tgs.den, tgo, binW, addW, intW, absW, lenW, truW, tyW, isTy, E.give, E.fresh, W.isNon, lineN_small, cstV, mulW]
      · simp [Tm.kd, k4, k7, k8, okd_small (show (Kd.sum o m).deep ≤ 5 by simp only [Kd.deep]; omega)]
      · rw [tn1]; simp [Tm.ws]; omega
      · simp [Tm.lim, i4, i7, i8, ml]; omega
  · obtain ⟨ua, a3, b3, e3, k3, l3, i3, v3⟩ := mk' q K (K :: Γ) _ _ (by omega) hk hq (g.cons (by omega) kl) (by simp only [List.length_cons]; omega) kl v2
    obtain ⟨x, a4, b4, e4, x0, x3, v4⟩ := dr.draw 3 t v3 (by omega) (by omega)
    obtain ⟨ub, a5, b5, e5, k5, l5, i5, v5⟩ := mk' q K Γ _ _ (by omega) hk hq g (by omega) kl v4
    obtain ⟨x, rfl⟩ : ∃ y : Nat, x = y := ⟨x.toNat, by omega⟩
    simp only [List.map_cons] at e3
    refine ⟨.turns K (.told x) ua ub, a5, b5, ?_, ⟨?_, ?_, ?_⟩, v5⟩
    · simp (disch := first | (show (_ : Nat) ≤ 1000; omega) | simp) [b40, ew, eo, e3, e4, e5, eqN, ec, Tm.ws, isW, Df.run, Ss.den, S.den, E.den, Es.den, Es.bo, Es.bt, Eo.den, Eo.tst, E.tst, It.den, R.bind, R.out, R.opt, startS, slotV, slotP, W.now, cmpW, intsW, idxW, L2.atI, L2.ixN, bltW, on1, on2, ifB, Tg.den, Tgs.den, tgo, binW, addW, intW, absW, lenW, truW, tyW, isTy, E.give, E.fresh, W.isNon, lineN_small, cstV, mulW]
    · simp [Tm.kd, k3, k5]
    · rw [tn1]; simp [Tm.ws]; omega
    · simp [Tm.lim, i3, i5, kl]; omega
end K13

set_option maxHeartbeats 4000000
namespace K13
open PySem Ev Mx
def lcOf : S → E
  | .asg _ _ _ e _ => e
  | _ => .non 0 ⟨0, 0, 0, 0⟩
def lcE : E → E
  | .lc e _ _ _ _ _ _ => e
  | e => e
def lcT : E → Tg
  | .lc _ t _ _ _ _ _ => t
  | _ => .tup .nil 0 ⟨0, 0, 0, 0⟩
def lcC : E → Eo
  | .lc _ _ _ c _ _ _ => c
  | _ => .non
abbrev hE : E := lcOf (nth b41 0)
abbrev nms (is : List Nat) : List W := is.map fun (i : Nat) => W.int (i : Int)
/-- the names of a kind -/
theorem here_go {D : Dn} {h : Obs} {K : Kd} {r n d : Sl} (hk : K.deep ≤ 60) : ∀ (Γ : List Kd) (o : Nat) (acc : List W), acc.length + Γ.length ≤ 1000 → ∃ is : List Nat,
    lcGo (fun x => (lcT hE).put x (wipeS [r, .val K.w, n, d, .non, .non, .non, .non] [6, 7])) (fun σ h => (lcC hE).tst D σ h) (fun σ h => (lcE hE).den D false σ h) (enumW o (Γ.map Kd.w)) acc h = .ok (acc ++ nms is) h ∧
      (∀ i ∈ is, o ≤ i ∧ Γ[i - o]? = some K) ∧ (K ∈ Γ → is ≠ []) ∧ is.length ≤ Γ.length
  | [], o, acc, _ => ⟨[], by simp [enumW, lcGo, nms], ⟨(fun i hi => absurd hi (by simp)), (fun h => absurd h (by simp)), by simp⟩⟩
  | A :: Γ, o, acc, hl => by
    simp only [List.length_cons] at hl
    have z : decide (acc.length < sizeLine) = true := decide_eq_true (sl_small (by omega))
    have put : (lcT hE).put (.tup [.int o, A.w]) (wipeS [r, .val K.w, n, d, .non, .non, .non, .non] [6, 7]) = some [r, .val K.w, n, d, .non, .non, .val (.int o), .val A.w] := rfl
    have tst : (lcC hE).tst D [r, .val K.w, n, d, .non, .non, .val (.int o), .val A.w] h = .ok (decide (A = K)) h := by
      have e := Kd.eq A K (.inr (by omega))
      have n1 : ∀ h, W.now h A.w = A.w := fun h => by cases A <;> rfl
      have n2 : ∀ h, W.now h K.w = K.w := fun h => by cases K <;> rfl
      simp [lcC, hE, lcOf, nth, b41, e, n1, n2, Eo.tst, E.tst, E.den, R.bind, R.opt, slotV, cmpW]
    have val : (lcE hE).den D false [r, .val K.w, n, d, .non, .non, .val (.int o), .val A.w] h = .ok (.int o) h := rfl
    show ∃ is : List Nat, lcGo _ _ _ (.tup [.int o, A.w] :: enumW (o + 1) (Γ.map Kd.w)) acc h = _ ∧ _
    by_cases hA : A = K
    · obtain ⟨is, e, p, q, ql⟩ := here_go (D := D) (h := h) (r := r) (n := n) (d := d) hk Γ (o + 1) (acc ++ [.int o]) (by simp only [List.length_append, List.length_cons, List.length_nil]; omega)
      refine ⟨o :: is, ?_, ?_, fun _ => by simp, by simp only [List.length_cons]; omega⟩
      · unfold lcGo
        simp only [put, tst, val, decide_eq_true hA, z]
        rw [e]
        simp
      · intro i hi
        rcases List.mem_cons.mp hi with rfl | hi
        · exact ⟨Nat.le_refl _, by rw [Nat.sub_self]; simp [hA]⟩
        · obtain ⟨p1, p2⟩ := p i hi
          refine ⟨by omega, ?_⟩
          have ei : i - o = (i - (o + 1)) + 1 := by omega
          rw [ei, List.getElem?_cons_succ]
          exact p2
    · obtain ⟨is, e, p, q, ql⟩ := here_go (D := D) (h := h) (r := r) (n := n) (d := d) hk Γ (o + 1) acc (by omega)
      refine ⟨is, ?_, ?_, fun hm => q ?_, by simp only [List.length_cons]; omega⟩
      · unfold lcGo
        simp only [put, tst, decide_eq_false hA]
        rw [e]
      · intro i hi
        obtain ⟨p1, p2⟩ := p i hi
        refine ⟨by omega, ?_⟩
        have ei : i - o = (i - (o + 1)) + 1 := by omega
        rw [ei, List.getElem?_cons_succ]
        exact p2
      · rcases List.mem_cons.mp hm with y | y
        · exact absurd y.symm hA
        · exact y
theorem here_ok {D : Dn} {h : Obs} {K : Kd} {r d : Sl} {Γ : List Kd} (hk : K.deep ≤ 60) (hl : Γ.length ≤ 1000) (hr : ∀ ws, r ≠ .own ws) (hd : ∀ ws, d ≠ .own ws) : ∃ is : List Nat,
    (nth b41 0).den D [r, .val K.w, .val (.lst (Γ.map Kd.w)), d, .non, .non, .non, .non] h = .nx [r, .val K.w, .val (.lst (Γ.map Kd.w)), d, .val (.lst (nms is)), .non, .non, .non] h ∧
      (∀ i ∈ is, Γ[i]? = some K) ∧ (K ∈ Γ → is ≠ []) ∧ is.length ≤ Γ.length := by
  obtain ⟨is, e, p, q, ql⟩ := here_go (D := D) (h := h) (r := r) (n := .val (.lst (Γ.map Kd.w))) (d := d) hk Γ 0 [] (by simpa using hl)
  refine ⟨is, ?_, fun i hi => (p i hi).2, q, ql⟩
  have u : (nth b41 0).den D [r, .val K.w, .val (.lst (Γ.map Kd.w)), d, .non, .non, .non, .non] h =
      ((lcGo (fun x => (lcT hE).put x (wipeS [r, .val K.w, .val (.lst (Γ.map Kd.w)), d, .non, .non, .non, .non] [6, 7])) (fun σ h => (lcC hE).tst D σ h) (fun σ h => (lcE hE).den D false σ h) (enumW 0 (Γ.map Kd.w)) [] h).bind fun ys h => R.ok (W.lst ys) h).out [r, .val K.w, .val (.lst (Γ.map Kd.w)), d, .non, .non, .non, .non] fun w h => .nx ([r, .val K.w, .val (.lst (Γ.map Kd.w)), d, .non, .non, .non, .non].set 4 (.val w)) h := rfl
  rw [u, e]
  rfl
abbrev St (K : Kd) (Γ : List Kd) (d : Int) (is : List Nat) : Sls := [.val (.ref 0), .val K.w, .val (.lst (Γ.map Kd.w)), .val (.int d), .val (.lst (nms is)), .non, .non, .non]
theorem pick_here {D : Dn} (dr : Dr D) {is : List Nat} {Γ : List Kd} {K : Kd} (hp : ∀ i ∈ is, Γ[i]? = some K) (hn : is ≠ []) (hl : is.length ≤ 1000) {a b : Int} {t : Obs} (v : Vd a b) : ∃ (i : Nat) (a1 b1 : Int), D.call 32 [.ref 0, .lst (nms is)] (PT a b t) = .ok (.int i) (PT a1 b1 t) ∧ Γ[i]? = some K ∧ Vd a1 b1 := by
  obtain ⟨w, a1, b1, e, hw, v1⟩ := dr.pick t (ws := nms is) v (by simpa [nms] using hn) (by simpa [nms] using hl)
  obtain ⟨i, hi, rfl⟩ := List.mem_map.mp hw
  exact ⟨i, a1, b1, e, hp i hi, v1⟩
theorem len_here {is : List Nat} {Γ : List Kd} {K : Kd} (hp : ∀ i ∈ is, Γ[i]? = some K) : ∀ i ∈ is, i < Γ.length := fun i hi => (List.getElem?_eq_some_iff.mp (hp i hi)).1
theorem name_ok {Γ : List Kd} {K : Kd} {i : Nat} {d : Int} {q : Nat} (h : Γ[i]? = some K) (hl : Γ.length ≤ 100) : Dn2 Γ K d q (.name i) where
  kd := h
  len := by have := M_two d.toNat q; simp [Tm.ws]; omega
  lim := by
    have := (List.getElem?_eq_some_iff.mp h).1
    simp [Tm.lim]
    omega
theorem kcase {D : Dn} (dr : Dr D) {f : Nat} {q : Nat} {d : Int} {K : Kd} {Γ : List Kd} {is : List Nat} {a b : Int} {t : Obs} (mk : 1 ≤ f → Made D (f - 1)) (hr : 2 * d.toNat + q ≤ f) (hk : K.deep ≤ q + 1) (hq : q ≤ 2) (hd : d.toNat ≤ 3) (g : Gd Γ) (hl : Γ.length + f ≤ 100) (kl : K.lw 2 = true) (v : Vd a b)
    (hp : ∀ i ∈ is, Γ[i]? = some K) (hin : K ∈ Γ → is ≠ []) (hil : is.length ≤ 1000) :
    ∃ (u : Tm) (a1 b1 : Int), Ss.den D (dropS b41 3) (St K Γ d is) (PT a b t) = .rt (.lst u.ws) (PT a1 b1 t) ∧ Dn2 Γ K d q u ∧ Vd a1 b1 := by
  have lg : (Γ.map Kd.w).length ≤ 100 := by rw [List.length_map]; omega
  have td : (d - 1).toNat = d.toNat - 1 := by omega
  have mk' : ∀ (q' : Nat) (K : Kd) (Γ : List Kd) (a b : Int), q = q' + 1 → K.deep ≤ q' + 1 → Gd Γ → Γ.length + f ≤ 101 → K.lw 2 = true → Vd a b →
      ∃ (u : Tm) (a1 b1 : Int), D.call 41 [.ref 0, K.w, .lst (Γ.map Kd.w), .int (d - 1)] (PT a b t) = .ok (.lst u.ws) (PT a1 b1 t) ∧ u.kd Γ = some K ∧ u.ws.length ≤ M (d.toNat - 1) q' ∧ u.lim 100 9 3 2 = true ∧ Vd a1 b1 := fun q' K Γ a b h1 h2 h4 h5 h6 h7 => by
    obtain ⟨u, a1, b1, e, ⟨x, y, z⟩, w⟩ := mk (by omega) q' (d - 1) K Γ a b t (by omega) h2 (by omega) (by omega) h4 (by omega) h6 h7
    rw [td] at y
    exact ⟨u, a1, b1, e, x, y, z, w⟩
  have hMs : ∀ q', M (d.toNat - 1) q' ≤ 209 ∨ 3 ≤ q' := fun q' => by
    by_cases h : q' ≤ 2
    · exact .inl (M_le (by omega) h)
    · exact .inr (by omega)
  have hM2 := M_two d.toNat q
  have wd := Kd.words
  cases K with
  | ltr i =>
    have hmem : Kd.ltr i ∈ Γ := by
      have hi : i < 2 := of_decide_eq_true kl
      have hi : i = 0 ∨ i = 1 := by omega
      rcases hi with rfl | rfl
      · exact g.l0
      · exact g.l1
    obtain ⟨j, a1, b1, e, hj, v1⟩ := pick_here dr hp (hin hmem) hil (t := t) v
    refine ⟨.name j, a1, b1, ?_, name_ok hj (by omega), v1⟩
    simp (disch := first | (show (_ : Nat) ≤ 1000; omega) | simp) [dropS, b41, St, Kd.w, eqS, e, Tm.ws, isW, Df.run, Ss.den, S.den, E.den, Es.den, Es.bo, Es.bt, Eo.den, Eo.tst, E.tst, It.den, R.bind, R.out, R.opt, startS, slotV, slotP, W.now, cmpW, intsW, idxW, L2.atI, L2.ixN, bltW, on1, on2, ifB, Tg.den, Tgs.den, tgo, binW, addW, intW, absW, lenW, truW, tyW, isTy, E.give, E.fresh, W.isNon, lineN_small, cstV, mulW]
  | cnt =>
    obtain ⟨x, a1, b1, e, x0, x3, v1⟩ := dr.draw 3 t v (by omega) (by omega)
    obtain ⟨y, a2, b2, e2, y0, y9, v2⟩ := dr.draw 9 t v1 (by omega) (by omega)
    obtain ⟨y, rfl⟩ : ∃ z : Nat, y = z := ⟨y.toNat, by omega⟩
    by_cases hx : 0 < x
    · refine ⟨.told y, a2, b2, ?_, ⟨rfl, by simp [Tm.ws]; omega, by simp [Tm.lim]; omega⟩, v2⟩
      simp (disch := first | (show (_ : Nat) ≤ 1000; omega) | simp) [dropS, b41, St, Kd.w, eqS, e, e2, hx, wd, Tm.ws, isW, Df.run, Ss.den, S.den, E.den, Es.den, Es.bo, Es.bt, Eo.den, Eo.tst, E.tst, It.den, R.bind, R.out, R.opt, startS, slotV, slotP, W.now, cmpW, intsW, idxW, L2.atI, L2.ixN, bltW, on1, on2, ifB, Tg.den, Tgs.den, tgo, binW, addW, intW, absW, lenW, truW, tyW, isTy, E.give, E.fresh, W.isNon, lineN_small, cstV, mulW]
    · refine ⟨.next (.told y), a2, b2, ?_, ⟨rfl, by simp [Tm.ws]; omega, by simp [Tm.lim]; omega⟩, v2⟩
      simp (disch := first | (show (_ : Nat) ≤ 1000; omega) | simp) [dropS, b41, St, Kd.w, eqS, e, e2, hx, wd, Tm.ws, isW, Df.run, Ss.den, S.den, E.den, Es.den, Es.bo, Es.bt, Eo.den, Eo.tst, E.tst, It.den, R.bind, R.out, R.opt, startS, slotV, slotP, W.now, cmpW, intsW, idxW, L2.atI, L2.ixN, bltW, on1, on2, ifB, Tg.den, Tgs.den, tgo, binW, addW, intW, absW, lenW, truW, tyW, isTy, E.give, E.fresh, W.isNon, lineN_small, cstV, mulW]
  | pair A B =>
    simp only [Kd.deep] at hk
    obtain ⟨l1, l2⟩ := Bool.and_eq_true_iff.mp kl
    obtain ⟨q', rfl⟩ : ∃ q', q = q' + 1 := ⟨q - 1, by
      have : 1 ≤ A.deep := by cases A <;> simp [Kd.deep] <;> omega
      omega⟩
    obtain ⟨ua, a1, b1, e1, k1, n1, i1, v1⟩ := mk' q' A Γ _ _ rfl (by omega) g (by omega) l1 v
    obtain ⟨ub, a2, b2, e2, k2, n2, i2, v2⟩ := mk' q' B Γ _ _ rfl (by omega) g (by omega) l2 v1
    have hMM := M_str d.toNat q'
    have hMq := hMs q'
    refine ⟨.both ua ub, a2, b2, ?_, ⟨?_, ?_, ?_⟩, v2⟩
    · simp (disch := first | (show (_ : Nat) ≤ 1000; omega) | simp) [dropS, b41, St, Kd.w, eqS, e1, e2, wd, Tm.ws, isW, Df.run, Ss.den, S.den, E.den, Es.den, Es.bo, Es.bt, Eo.den, Eo.tst, E.tst, It.den, R.bind, R.out, R.opt, startS, slotV, slotP, W.now, cmpW, intsW, idxW, L2.atI, L2.ixN, bltW, on1, on2, ifB, Tg.den, Tgs.den, tgo, binW, addW, intW, absW, lenW, truW, tyW, isTy, E.give, E.fresh, W.isNon, lineN_small, cstV, mulW]
    · simp [Tm.kd, k1, k2, okd_small (show (Kd.pair A B).deep ≤ 5 by simp only [Kd.deep]; omega)]
    · simp [Tm.ws]; omega
    · simp [Tm.lim, i1, i2]
  | sum A B =>
    simp only [Kd.deep] at hk
    obtain ⟨l1, l2⟩ := Bool.and_eq_true_iff.mp kl
    obtain ⟨q', rfl⟩ : ∃ q', q = q' + 1 := ⟨q - 1, by
      have : 1 ≤ A.deep := by cases A <;> simp [Kd.deep] <;> omega
      omega⟩
    obtain ⟨x, a1, b1, e, x0, x3, v1⟩ := dr.draw 2 t v (by omega) (by omega)
    have hMM := M_str d.toNat q'
    have hMq := hMs q'
    by_cases hx : x = 0
    · subst hx
      obtain ⟨ua, a2, b2, e2, k2, n2, i2, v2⟩ := mk' q' A Γ _ _ rfl (by omega) g (by omega) l1 v1
      refine ⟨.left B ua, a2, b2, ?_, ⟨?_, ?_, ?_⟩, v2⟩
      · simp (disch := first | (show (_ : Nat) ≤ 1000; omega) | simp) [dropS, b41, St, Kd.w, eqS, eqN, e, e2, wd, Tm.ws, isW, Df.run, Ss.den, S.den, E.den, Es.den, Es.bo, Es.bt, Eo.den, Eo.tst, E.tst, It.den, R.bind, R.out, R.opt, startS, slotV, slotP, W.now, cmpW, intsW, idxW, L2.atI, L2.ixN, bltW, on1, on2, ifB, Tg.den, Tgs.den, tgo, binW, addW, intW, absW, lenW, truW, tyW, isTy, E.give, E.fresh, W.isNon, lineN_small, cstV, mulW]
      · simp [Tm.kd, k2, okd_small (show (Kd.sum A B).deep ≤ 5 by simp only [Kd.deep]; omega)]
      · simp [Tm.ws]; omega
      · simp [Tm.lim, i2, l2]; omega
    · obtain ⟨ua, a2, b2, e2, k2, n2, i2, v2⟩ := mk' q' B Γ _ _ rfl (by omega) g (by omega) l2 v1
      refine ⟨.right A ua, a2, b2, ?_, ⟨?_, ?_, ?_⟩, v2⟩
      · simp (disch := first | (show (_ : Nat) ≤ 1000; omega) | simp) [dropS, b41, St, Kd.w, eqS, eqN, e, e2, hx, wd, Tm.ws, isW, Df.run, Ss.den, S.den, E.den, Es.den, Es.bo, Es.bt, Eo.den, Eo.tst, E.tst, It.den, R.bind, R.out, R.opt, startS, slotV, slotP, W.now, cmpW, intsW, idxW, L2.atI, L2.ixN, bltW, on1, on2, ifB, Tg.den, Tgs.den, tgo, binW, addW, intW, absW, lenW, truW, tyW, isTy, E.give, E.fresh, W.isNon, lineN_small, cstV, mulW]
      · simp [Tm.kd, k2, okd_small (show (Kd.sum A B).deep ≤ 5 by simp only [Kd.deep]; omega)]
      · simp [Tm.ws]; omega
      · simp [Tm.lim, i2, l1]; omega
  | fn A B =>
    simp only [Kd.deep] at hk
    obtain ⟨l1, l2⟩ := Bool.and_eq_true_iff.mp kl
    obtain ⟨q', rfl⟩ : ∃ q', q = q' + 1 := ⟨q - 1, by
      have : 1 ≤ A.deep := by cases A <;> simp [Kd.deep] <;> omega
      omega⟩
    have hMM := M_str d.toNat q'
    have hMq := hMs q'
    obtain ⟨ua, a2, b2, e2, k2, n2, i2, v2⟩ := mk' q' B (A :: Γ) _ _ rfl (by omega) (g.cons (by omega) l1) (by simp only [List.length_cons]; omega) l2 v
    simp only [List.map_cons] at e2
    refine ⟨.fn A ua, a2, b2, ?_, ⟨?_, ?_, ?_⟩, v2⟩
    · simp (disch := first | (show (_ : Nat) ≤ 1000; omega) | simp) [dropS, b41, St, Kd.w, eqS, e2, wd, Tm.ws, isW, Df.run, Ss.den, S.den, E.den, Es.den, Es.bo, Es.bt, Eo.den, Eo.tst, E.tst, It.den, R.bind, R.out, R.opt, startS, slotV, slotP, W.now, cmpW, intsW, idxW, L2.atI, L2.ixN, bltW, on1, on2, ifB, Tg.den, Tgs.den, tgo, binW, addW, intW, absW, lenW, truW, tyW, isTy, E.give, E.fresh, W.isNon, lineN_small, cstV, mulW]
    · simp [Tm.kd, k2, okd_small (show (Kd.fn A B).deep ≤ 5 by simp only [Kd.deep]; omega)]
    · simp [Tm.ws]; omega
    · simp [Tm.lim, i2, l1]; omega
end K13

set_option maxHeartbeats 4000000
namespace K13
open PySem Ev Mx
theorem tail_ok {D : Dn} (dr : Dr D) {f : Nat} {q : Nat} {d : Int} {K : Kd} {Γ : List Kd} {is : List Nat} {a b : Int} {t : Obs} (mk : 1 ≤ f → Made D (f - 1)) (ct : Cuts D f) (hr : 2 * d.toNat + q ≤ f) (hk : K.deep ≤ q + 1) (hq : q ≤ 2) (hd : d.toNat ≤ 3) (g : Gd Γ) (hl : Γ.length + f ≤ 100) (kl : K.lw 2 = true) (v : Vd a b)
    (hp : ∀ i ∈ is, Γ[i]? = some K) (hin : K ∈ Γ → is ≠ []) (hil : is.length ≤ 1000) :
    ∃ (u : Tm) (a1 b1 : Int), Ss.den D (dropS b41 2) (St K Γ d is) (PT a b t) = .rt (.lst u.ws) (PT a1 b1 t) ∧ Dn2 Γ K d q u ∧ Vd a1 b1 := by
  have sp : ∀ h, Ss.den D (dropS b41 2) (St K Γ d is) h = (match (nth b41 2).den D (St K Γ d is) h with | .nx σ h => Ss.den D (dropS b41 3) σ h | o => o) := fun _ => rfl
  rw [sp]
  by_cases h0 : 0 < d
  · obtain ⟨x, a1, b1, e, x0, x2, v1⟩ := dr.draw 2 t v (by omega) (by omega)
    by_cases hx : x = 0
    · subst hx
      obtain ⟨n, rfl⟩ : ∃ n : Nat, d = (n + 1 : Nat) := ⟨(d - 1).toNat, by omega⟩
      obtain ⟨u, a2, b2, e2, z, v2⟩ := ct q n K Γ a1 b1 t (by omega) hk hq (by omega) g hl kl v1
      refine ⟨u, a2, b2, ?_, z, v2⟩
      have e2 : D.call 40 [.ref 0, K.w, .lst (Γ.map Kd.w), .int ((n : Int) + 1)] (PT a1 b1 t) = .ok (.lst u.ws) (PT a2 b2 t) := e2
      have h0 : (0 : Int) < (n : Int) + 1 := by omega
      simp [nth, b41, St, e, e2, h0, eqN, isW, Df.run, Ss.den, S.den, E.den, Es.den, Es.bo, Es.bt, Eo.den, Eo.tst, E.tst, It.den, R.bind, R.out, R.opt, startS, slotV, slotP, W.now, cmpW, intsW, idxW, L2.atI, L2.ixN, bltW, on1, on2, ifB, Tg.den, Tgs.den, tgo, binW, addW, intW, absW, lenW, truW, tyW, isTy, E.give, E.fresh, W.isNon, lineN_small, cstV, mulW]
    · obtain ⟨u, a2, b2, e2, z, v2⟩ := kcase dr mk hr hk hq hd g hl kl v1 hp hin hil (t := t)
      refine ⟨u, a2, b2, ?_, z, v2⟩
      have s : (nth b41 2).den D (St K Γ d is) (PT a b t) = .nx (St K Γ d is) (PT a1 b1 t) := by
        simp [nth, b41, St, e, hx, h0, eqN, isW, Df.run, Ss.den, S.den, E.den, Es.den, Es.bo, Es.bt, Eo.den, Eo.tst, E.tst, It.den, R.bind, R.out, R.opt, startS, slotV, slotP, W.now, cmpW, intsW, idxW, L2.atI, L2.ixN, bltW, on1, on2, ifB, Tg.den, Tgs.den, tgo, binW, addW, intW, absW, lenW, truW, tyW, isTy, E.give, E.fresh, W.isNon, lineN_small, cstV, mulW]
      rw [s]
      exact e2
  · obtain ⟨u, a2, b2, e2, z, v2⟩ := kcase dr mk hr hk hq hd g hl kl v hp hin hil (t := t)
    refine ⟨u, a2, b2, ?_, z, v2⟩
    have s : (nth b41 2).den D (St K Γ d is) (PT a b t) = .nx (St K Γ d is) (PT a b t) := by
      simp [nth, b41, St, h0, isW, Df.run, Ss.den, S.den, E.den, Es.den, Es.bo, Es.bt, Eo.den, Eo.tst, E.tst, It.den, R.bind, R.out, R.opt, startS, slotV, slotP, W.now, cmpW, intsW, idxW, L2.atI, L2.ixN, bltW, on1, on2, ifB, Tg.den, Tgs.den, tgo, binW, addW, intW, absW, lenW, truW, tyW, isTy, E.give, E.fresh, W.isNon, lineN_small, cstV, mulW]
    rw [s]
    exact e2
theorem dats_nms : ∀ is : List Nat, W.dats (nms is) = some (is.map fun (i : Nat) => PyData.int i)
  | [] => by simp [nms, W.dats]
  | i :: is => by
    have e := dats_nms is
    simp only [nms] at e
    simp [nms, W.dats, W.dat, e]
theorem eq_nil (is : List Nat) : eqW (.lst (nms is)) (.lst []) = some is.isEmpty := by
  have e := dats_nms is
  cases is with
  | nil => rfl
  | cons i is =>
    simp only [eqW, W.dat, e, W.dats, Option.map_some, PyData.depth, PyData.depthAll]
    simp [PyData.eqv, PyData.eqvAll]
theorem made_ok {D : Dn} (dr : Dr D) {f : Nat} {q : Nat} {d : Int} {K : Kd} {Γ : List Kd} {a b : Int} {t : Obs} (mk : 1 ≤ f → Made D (f - 1)) (ct : Cuts D f) (hr : 2 * d.toNat + q ≤ f) (hk : K.deep ≤ q + 1) (hq : q ≤ 2) (hd : d.toNat ≤ 3) (g : Gd Γ) (hl : Γ.length + f ≤ 100) (kl : K.lw 2 = true) (v : Vd a b) :
    ∃ (u : Tm) (a1 b1 : Int), Df.run ⟨"_law_made", ["_law_pot_here", "_law_kind_here", "_law_names", "_law_deep", "_law_here", "_law_near", "_law_at", "_law_one"], 4, b41⟩ D [.ref 0, K.w, .lst (Γ.map Kd.w), .int d] (PT a b t) = .ok (.lst u.ws) (PT a1 b1 t) ∧ Dn2 Γ K d q u ∧ Vd a1 b1 := by
  obtain ⟨is, e0, hp, hin, hlen⟩ := here_ok (D := D) (h := PT a b t) (K := K) (r := .val (.ref 0)) (d := .val (.int d)) (Γ := Γ) (by omega) (by omega) (fun _ z => by cases z) (fun _ z => by cases z)
  have hil : is.length ≤ 1000 := by omega
  have run : ∀ h, Df.run ⟨"_law_made", ["_law_pot_here", "_law_kind_here", "_law_names", "_law_deep", "_law_here", "_law_near", "_law_at", "_law_one"], 4, b41⟩ D [.ref 0, K.w, .lst (Γ.map Kd.w), .int d] h = (match Ss.den D (.cons (nth b41 0) (.cons (nth b41 1) (dropS b41 2))) [.val (.ref 0), .val K.w, .val (.lst (Γ.map Kd.w)), .val (.int d), .non, .non, .non, .non] h with
    | .nx _ h => .ok .non h
    | .rt w h => .ok w h
    | .exc x _ h => .exc x h
    | _ => .bad) := fun _ => rfl
  rw [run, seq e0]
  have en := eq_nil is
  have n2 := K.now (PT a b t)
  have kx := K.ix0
  have kw := K.word_l
  have go : (∃ a1 b1, (nth b41 1).den D (St K Γ d is) (PT a b t) = .nx (St K Γ d is) (PT a1 b1 t) ∧ Vd a1 b1) → ∃ (u : Tm) (a1 b1 : Int), (match Ss.den D (.cons (nth b41 1) (dropS b41 2)) (St K Γ d is) (PT a b t) with
    | .nx _ h => R.ok W.non h
    | .rt w h => .ok w h
    | .exc x _ h => .exc x h
    | _ => .bad) = .ok (.lst u.ws) (PT a1 b1 t) ∧ Dn2 Γ K d q u ∧ Vd a1 b1 := fun ⟨a1, b1, e1, v1⟩ => by
    obtain ⟨u, a2, b2, e2, z, v2⟩ := tail_ok dr mk ct hr hk hq hd g hl kl v1 hp hin hil (t := t)
    refine ⟨u, a2, b2, ?_, z, v2⟩
    rw [seq e1, e2]
  have pk : is ≠ [] → (∃ a1 b1, Vd a1 b1 ∧ ∀ (i : Nat) (a2 b2 : Int), D.call 32 [.ref 0, .lst (nms is)] (PT a1 b1 t) = .ok (.int i) (PT a2 b2 t) → (nth b41 1).den D (St K Γ d is) (PT a b t) = .rt (.lst (Tm.name i).ws) (PT a2 b2 t)) → ∃ (u : Tm) (a1 b1 : Int), (match Ss.den D (.cons (nth b41 1) (dropS b41 2)) (St K Γ d is) (PT a b t) with
    | .nx _ h => R.ok W.non h
    | .rt w h => .ok w h
    | .exc x _ h => .exc x h
    | _ => .bad) = .ok (.lst u.ws) (PT a1 b1 t) ∧ Dn2 Γ K d q u ∧ Vd a1 b1 := fun hn ⟨a1, b1, v1, e1⟩ => by
    obtain ⟨i, a2, b2, e, hi, v2⟩ := pick_here dr hp hn hil (t := t) v1
    refine ⟨.name i, a2, b2, ?_, name_ok hi (by omega), v2⟩
    have sp : Ss.den D (.cons (nth b41 1) (dropS b41 2)) (St K Γ d is) (PT a b t) = (match (nth b41 1).den D (St K Γ d is) (PT a b t) with | .nx σ h => Ss.den D (dropS b41 2) σ h | o => o) := rfl
    rw [sp, e1 i a2 b2 e]
  have l0 : lineN 0 = true := lineN_small (by omega)
  have l1 : lineN 1 = true := lineN_small (by omega)
  have l2 : lineN 2 = true := lineN_small (by omega)
  by_cases hn : is = []
  · refine go ⟨a, b, ?_, v⟩
    have en : eqW (.lst (nms is)) (.lst []) = some true := by rw [en, hn]; rfl
    simp [nth, b41, St, en, l0, isW, Df.run, Ss.den, S.den, E.den, Es.den, Es.bo, Es.bt, Eo.den, Eo.tst, E.tst, It.den, R.bind, R.out, R.opt, startS, slotV, slotP, nwN, nwB, nwI, nwS, nwT, nwL, nwE, nwR, Kd.now, cmpW, intsW, bltW, on1, on2, ifB, Tg.den, Tgs.den, tgo, binW, addW, intW, absW, lenW, truW, tyW, isTy, E.give, E.fresh, W.isNon, lineN_small, cstV, mulW]
  · have en : eqW (.lst (nms is)) (.lst []) = some false := by
      rw [en]
      cases is with
      | nil => exact absurd rfl hn
      | cons _ _ => rfl
    by_cases hc : K.isL = true ∧ d < 1
    · refine pk hn ⟨a, b, v, fun i a2 b2 e => ?_⟩
      simp [nth, b41, St, en, l0, l1, l2, n2, kx, kw, eqS, hc.1, hc.2, e, Tm.ws, isW, Df.run, Ss.den, S.den, E.den, Es.den, Es.bo, Es.bt, Eo.den, Eo.tst, E.tst, It.den, R.bind, R.out, R.opt, startS, slotV, slotP, nwN, nwB, nwI, nwS, nwT, nwL, nwE, nwR, Kd.now, cmpW, intsW, bltW, on1, on2, ifB, Tg.den, Tgs.den, tgo, binW, addW, intW, absW, lenW, truW, tyW, isTy, E.give, E.fresh, W.isNon, lineN_small, cstV, mulW]
    · obtain ⟨x, a1, b1, e, x0, x4, v1⟩ := dr.draw 4 t v (by omega) (by omega)
      have go2 : ∀ (c : Bool), K.isL = c → (c = false ∨ ¬ d < 1) → ∃ (u : Tm) (a1 b1 : Int), (match Ss.den D (.cons (nth b41 1) (dropS b41 2)) (St K Γ d is) (PT a b t) with
        | .nx _ h => R.ok W.non h
        | .rt w h => .ok w h
        | .exc x _ h => .exc x h
        | _ => .bad) = .ok (.lst u.ws) (PT a1 b1 t) ∧ Dn2 Γ K d q u ∧ Vd a1 b1 := fun c hc hcd => by
        by_cases hx : x = 0
        · subst hx
          refine pk hn ⟨a1, b1, v1, fun i a2 b2 e2 => ?_⟩
          rcases hcd with rfl | hcd
          · simp [nth, b41, St, en, l0, l1, l2, n2, kx, kw, eqS, eqN, hc, e, e2, Tm.ws, isW, Df.run, Ss.den, S.den, E.den, Es.den, Es.bo, Es.bt, Eo.den, Eo.tst, E.tst, It.den, R.bind, R.out, R.opt, startS, slotV, slotP, nwN, nwB, nwI, nwS, nwT, nwL, nwE, nwR, Kd.now, cmpW, intsW, bltW, on1, on2, ifB, Tg.den, Tgs.den, tgo, binW, addW, intW, absW, lenW, truW, tyW, isTy, E.give, E.fresh, W.isNon, lineN_small, cstV, mulW]
          · cases c <;> simp [nth, b41, St, en, l0, l1, l2, n2, kx, kw, eqS, eqN, hc, hcd, e, e2, Tm.ws, isW, Df.run, Ss.den, S.den, E.den, Es.den, Es.bo, Es.bt, Eo.den, Eo.tst, E.tst, It.den, R.bind, R.out, R.opt, startS, slotV, slotP, nwN, nwB, nwI, nwS, nwT, nwL, nwE, nwR, Kd.now, cmpW, intsW, bltW, on1, on2, ifB, Tg.den, Tgs.den, tgo, binW, addW, intW, absW, lenW, truW, tyW, isTy, E.give, E.fresh, W.isNon, lineN_small, cstV, mulW]
        · refine go ⟨a1, b1, ?_, v1⟩
          rcases hcd with rfl | hcd
          · simp [nth, b41, St, en, l0, l1, l2, n2, kx, kw, eqS, eqN, hc, e, hx, Tm.ws, isW, Df.run, Ss.den, S.den, E.den, Es.den, Es.bo, Es.bt, Eo.den, Eo.tst, E.tst, It.den, R.bind, R.out, R.opt, startS, slotV, slotP, nwN, nwB, nwI, nwS, nwT, nwL, nwE, nwR, Kd.now, cmpW, intsW, bltW, on1, on2, ifB, Tg.den, Tgs.den, tgo, binW, addW, intW, absW, lenW, truW, tyW, isTy, E.give, E.fresh, W.isNon, lineN_small, cstV, mulW]
          · cases c <;> simp [nth, b41, St, en, l0, l1, l2, n2, kx, kw, eqS, eqN, hc, hcd, e, hx, Tm.ws, isW, Df.run, Ss.den, S.den, E.den, Es.den, Es.bo, Es.bt, Eo.den, Eo.tst, E.tst, It.den, R.bind, R.out, R.opt, startS, slotV, slotP, nwN, nwB, nwI, nwS, nwT, nwL, nwE, nwR, Kd.now, cmpW, intsW, bltW, on1, on2, ifB, Tg.den, Tgs.den, tgo, binW, addW, intW, absW, lenW, truW, tyW, isTy, E.give, E.fresh, W.isNon, lineN_small, cstV, mulW]
      refine go2 K.isL rfl ?_
      cases hi : K.isL with
      | false => exact .inl rfl
      | true => exact .inr (fun z => hc ⟨hi, z⟩)
theorem made_all : ∀ (f k : Nat), Made ⟨pg.T (k + 2 * f + 7), pg.cst, pg.par⟩ f := by
  have bs : ∀ (f k : Nat), (1 ≤ f → Made ⟨pg.T (k + 2 * f + 6), pg.cst, pg.par⟩ (f - 1)) → Cuts ⟨pg.T (k + 2 * f + 6), pg.cst, pg.par⟩ f → Made ⟨pg.T (k + 2 * f + 7), pg.cst, pg.par⟩ f := fun f k mk ct q d K Γ a b t hr hk hq hd g hl kl v =>
    made_ok (D := ⟨pg.T (k + 2 * f + 6), pg.cst, pg.par⟩) (dr (k + 2 * f)) mk ct hr hk hq hd g hl kl v
  intro f
  induction f with
  | zero =>
    intro k
    refine bs 0 k (fun h => by omega) (fun q d K Γ a b t hr => by omega)
  | succ f ih =>
    intro k
    refine bs (f + 1) k (fun _ => ?_) (fun q d K Γ a b t hr hk hq hd g hl kl v => ?_)
    · have e : k + 2 * (f + 1) + 6 = (k + 1) + 2 * f + 7 := by omega
      rw [e]
      exact ih (k + 1)
    · have e : k + 2 * (f + 1) + 6 = (k + 2 * f + 7) + 1 := by omega
      rw [e]
      exact cut_ok (D := ⟨pg.T (k + 2 * f + 7), pg.cst, pg.par⟩) (dr (k + 2 * f + 1)) (ih k) q d K Γ a b t (by omega) hk hq hd g (by omega) kl v
end K13

set_option maxHeartbeats 4000000
namespace K13
open PySem Ev Mx
variable {k : Nat} {h : Obs}
/-! ## what the stage tells of kinds -/
theorem c_L : pg.cst "LETTER" = some (.str "letter") := rfl
theorem c_T : pg.cst "TELLING" = some (.str "count") := rfl
theorem c_P : pg.cst "PAIR" = some (.str "pair") := rfl
theorem c_S : pg.cst "SUM" = some (.str "sum") := rfl
theorem c_F : pg.cst "FUN" = some (.str "fun") := rfl
theorem c_MS : pg.cst "MOST_SIGNS" = some (.int 60) := rfl
theorem c_MD : pg.cst "MOST_DEEP" = some (.int 12) := rfl
theorem l2_ : lineN 2 = true := lineN_small (by omega)
theorem l3_ : lineN 3 = true := lineN_small (by omega)
theorem l1_ : lineN 1 = true := lineN_small (by omega)
theorem l0_ : lineN 0 = true := lineN_small (by omega)
theorem shown_met : ∀ (n : Nat) (a : Kd) (h : Obs), a.deep ≤ n → pg.T (k + n) 11 [a.w] h = .ok (.bl a.shown) h ∧ pg.T (k + n) 12 [a.w] h = .ok (.bl a.met) h := by
  intro n
  induction n with
  | zero => intro a h hd; have := a.deep_pos; omega
  | succ n ih =>
    intro a h hd
    have r1 : pg.T (k + (n + 1)) 11 [a.w] h = Df.run ⟨"shown_kind", ["kind"], 1, b11⟩ ⟨pg.T (k + n), pg.cst, pg.par⟩ [a.w] h := rfl
    have r2 : pg.T (k + (n + 1)) 12 [a.w] h = Df.run ⟨"met_kind", ["kind"], 1, b12⟩ ⟨pg.T (k + n), pg.cst, pg.par⟩ [a.w] h := rfl
    rw [r1, r2]
    have wd := Kd.words
    cases a with
    | ltr i => constructor <;> simp [b11, b12, Kd.w, Kd.shown, Kd.met, eqS, wd, c_L, c_T, c_F, c_P, l2_, inW, inD, W.dat, W.dats, PyData.depth, PyData.depthAll, eqvS, eqvN, isW, Df.run, Ss.den, S.den, E.den, Es.den, Es.bo, Es.bt, Eo.den, Eo.tst, E.tst, It.den, R.bind, R.out, R.opt, startS, slotV, slotP, W.now, cmpW, intsW, idxW, L2.atI, L2.ixN, bltW, on1, on2, ifB, Tg.den, Tgs.den, tgo, binW, addW, intW, absW, lenW, truW, tyW, isTy, E.give, E.fresh, W.isNon, lineN_small, cstV, mulW]
    | cnt => constructor <;> simp [b11, b12, Kd.w, Kd.shown, Kd.met, eqS, wd, c_L, c_T, c_F, c_P, l2_, inW, inD, W.dat, W.dats, PyData.depth, PyData.depthAll, eqvS, eqvN, isW, Df.run, Ss.den, S.den, E.den, Es.den, Es.bo, Es.bt, Eo.den, Eo.tst, E.tst, It.den, R.bind, R.out, R.opt, startS, slotV, slotP, W.now, cmpW, intsW, idxW, L2.atI, L2.ixN, bltW, on1, on2, ifB, Tg.den, Tgs.den, tgo, binW, addW, intW, absW, lenW, truW, tyW, isTy, E.give, E.fresh, W.isNon, lineN_small, cstV, mulW]
    | pair x y =>
      simp only [Kd.deep] at hd
      obtain ⟨x1, x2⟩ := ih x h (by omega)
      obtain ⟨y1, y2⟩ := ih y h (by omega)
      constructor
      · cases hx : x.shown <;> rw [hx] at x1 <;> simp [b11, Kd.w, Kd.shown, eqS, wd, c_L, c_T, c_F, c_P, l2_, x1, y1, hx, inW, inD, W.dat, W.dats, PyData.depth, PyData.depthAll, eqvS, eqvN, isW, Df.run, Ss.den, S.den, E.den, Es.den, Es.bo, Es.bt, Eo.den, Eo.tst, E.tst, It.den, R.bind, R.out, R.opt, startS, slotV, slotP, W.now, cmpW, intsW, idxW, L2.atI, L2.ixN, bltW, on1, on2, ifB, Tg.den, Tgs.den, tgo, binW, addW, intW, absW, lenW, truW, tyW, isTy, E.give, E.fresh, W.isNon, lineN_small, cstV, mulW]
      · cases hx : x.met <;> rw [hx] at x2 <;> simp [b12, Kd.w, Kd.met, eqS, wd, c_L, c_T, c_F, c_P, l2_, x2, y2, hx, inW, inD, W.dat, W.dats, PyData.depth, PyData.depthAll, eqvS, eqvN, isW, Df.run, Ss.den, S.den, E.den, Es.den, Es.bo, Es.bt, Eo.den, Eo.tst, E.tst, It.den, R.bind, R.out, R.opt, startS, slotV, slotP, W.now, cmpW, intsW, idxW, L2.atI, L2.ixN, bltW, on1, on2, ifB, Tg.den, Tgs.den, tgo, binW, addW, intW, absW, lenW, truW, tyW, isTy, E.give, E.fresh, W.isNon, lineN_small, cstV, mulW]
    | sum x y =>
      simp only [Kd.deep] at hd
      obtain ⟨x1, x2⟩ := ih x h (by omega)
      obtain ⟨y1, y2⟩ := ih y h (by omega)
      constructor
      · cases hx : x.shown <;> rw [hx] at x1 <;> simp [b11, Kd.w, Kd.shown, eqS, wd, c_L, c_T, c_F, c_P, l2_, x1, y1, hx, inW, inD, W.dat, W.dats, PyData.depth, PyData.depthAll, eqvS, eqvN, isW, Df.run, Ss.den, S.den, E.den, Es.den, Es.bo, Es.bt, Eo.den, Eo.tst, E.tst, It.den, R.bind, R.out, R.opt, startS, slotV, slotP, W.now, cmpW, intsW, idxW, L2.atI, L2.ixN, bltW, on1, on2, ifB, Tg.den, Tgs.den, tgo, binW, addW, intW, absW, lenW, truW, tyW, isTy, E.give, E.fresh, W.isNon, lineN_small, cstV, mulW]
      · simp [b12, Kd.w, Kd.met, eqS, wd, c_L, c_T, c_F, c_P, l2_, inW, inD, W.dat, W.dats, PyData.depth, PyData.depthAll, eqvS, eqvN, isW, Df.run, Ss.den, S.den, E.den, Es.den, Es.bo, Es.bt, Eo.den, Eo.tst, E.tst, It.den, R.bind, R.out, R.opt, startS, slotV, slotP, W.now, cmpW, intsW, idxW, L2.atI, L2.ixN, bltW, on1, on2, ifB, Tg.den, Tgs.den, tgo, binW, addW, intW, absW, lenW, truW, tyW, isTy, E.give, E.fresh, W.isNon, lineN_small, cstV, mulW]
    | fn x y =>
      simp only [Kd.deep] at hd
      obtain ⟨x1, x2⟩ := ih x h (by omega)
      obtain ⟨y1, y2⟩ := ih y h (by omega)
      constructor
      · cases hx : x.met <;> rw [hx] at x2 <;> simp [b11, Kd.w, Kd.shown, eqS, wd, c_L, c_T, c_F, c_P, l2_, x2, y1, hx, inW, inD, W.dat, W.dats, PyData.depth, PyData.depthAll, eqvS, eqvN, isW, Df.run, Ss.den, S.den, E.den, Es.den, Es.bo, Es.bt, Eo.den, Eo.tst, E.tst, It.den, R.bind, R.out, R.opt, startS, slotV, slotP, W.now, cmpW, intsW, idxW, L2.atI, L2.ixN, bltW, on1, on2, ifB, Tg.den, Tgs.den, tgo, binW, addW, intW, absW, lenW, truW, tyW, isTy, E.give, E.fresh, W.isNon, lineN_small, cstV, mulW]
      · cases hx : x.shown <;> rw [hx] at x1 <;> simp [b12, Kd.w, Kd.met, eqS, wd, c_L, c_T, c_F, c_P, l2_, x1, y2, hx, inW, inD, W.dat, W.dats, PyData.depth, PyData.depthAll, eqvS, eqvN, isW, Df.run, Ss.den, S.den, E.den, Es.den, Es.bo, Es.bt, Eo.den, Eo.tst, E.tst, It.den, R.bind, R.out, R.opt, startS, slotV, slotP, W.now, cmpW, intsW, idxW, L2.atI, L2.ixN, bltW, on1, on2, ifB, Tg.den, Tgs.den, tgo, binW, addW, intW, absW, lenW, truW, tyW, isTy, E.give, E.fresh, W.isNon, lineN_small, cstV, mulW]
theorem data_ok : ∀ (n : Nat) (a : Kd) (h : Obs), a.deep ≤ n → pg.T (k + n) 13 [a.w] h = .ok (.bl a.data) h := by
  intro n
  induction n with
  | zero => intro a h hd; have := a.deep_pos; omega
  | succ n ih =>
    intro a h hd
    have r1 : pg.T (k + (n + 1)) 13 [a.w] h = Df.run ⟨"data_kind", ["kind"], 1, b13⟩ ⟨pg.T (k + n), pg.cst, pg.par⟩ [a.w] h := rfl
    rw [r1]
    have wd := Kd.words
    cases a with
    | ltr i => simp [b13, Kd.w, Kd.data, eqS, wd, c_T, c_P, c_S, l2_, inW, inD, W.dat, W.dats, PyData.depth, PyData.depthAll, eqvS, eqvN, isW, Df.run, Ss.den, S.den, E.den, Es.den, Es.bo, Es.bt, Eo.den, Eo.tst, E.tst, It.den, R.bind, R.out, R.opt, startS, slotV, slotP, W.now, cmpW, intsW, idxW, L2.atI, L2.ixN, bltW, on1, on2, ifB, Tg.den, Tgs.den, tgo, binW, addW, intW, absW, lenW, truW, tyW, isTy, E.give, E.fresh, W.isNon, lineN_small, cstV, mulW]
    | cnt => simp [b13, Kd.w, Kd.data, eqS, wd, c_T, c_P, c_S, l2_, inW, inD, W.dat, W.dats, PyData.depth, PyData.depthAll, eqvS, eqvN, isW, Df.run, Ss.den, S.den, E.den, Es.den, Es.bo, Es.bt, Eo.den, Eo.tst, E.tst, It.den, R.bind, R.out, R.opt, startS, slotV, slotP, W.now, cmpW, intsW, idxW, L2.atI, L2.ixN, bltW, on1, on2, ifB, Tg.den, Tgs.den, tgo, binW, addW, intW, absW, lenW, truW, tyW, isTy, E.give, E.fresh, W.isNon, lineN_small, cstV, mulW]
    | fn x y => simp [b13, Kd.w, Kd.data, eqS, wd, c_T, c_P, c_S, l2_, inW, inD, W.dat, W.dats, PyData.depth, PyData.depthAll, eqvS, eqvN, isW, Df.run, Ss.den, S.den, E.den, Es.den, Es.bo, Es.bt, Eo.den, Eo.tst, E.tst, It.den, R.bind, R.out, R.opt, startS, slotV, slotP, W.now, cmpW, intsW, idxW, L2.atI, L2.ixN, bltW, on1, on2, ifB, Tg.den, Tgs.den, tgo, binW, addW, intW, absW, lenW, truW, tyW, isTy, E.give, E.fresh, W.isNon, lineN_small, cstV, mulW]
    | pair x y | sum x y =>
      simp only [Kd.deep] at hd
      have x1 := ih x h (by omega)
      have y1 := ih y h (by omega)
      cases hx : x.data <;> rw [hx] at x1 <;> simp [b13, Kd.w, Kd.data, eqS, wd, c_T, c_P, c_S, l2_, x1, y1, hx, inW, inD, W.dat, W.dats, PyData.depth, PyData.depthAll, eqvS, eqvN, isW, Df.run, Ss.den, S.den, E.den, Es.den, Es.bo, Es.bt, Eo.den, Eo.tst, E.tst, It.den, R.bind, R.out, R.opt, startS, slotV, slotP, W.now, cmpW, intsW, idxW, L2.atI, L2.ixN, bltW, on1, on2, ifB, Tg.den, Tgs.den, tgo, binW, addW, intW, absW, lenW, truW, tyW, isTy, E.give, E.fresh, W.isNon, lineN_small, cstV, mulW]
theorem sd_ok : ∀ (n : Nat) (a : Kd) (h : Obs), a.deep ≤ n → pg.T (k + n) 14 [a.w] h = .ok (.int a.signs) h ∧ pg.T (k + n) 15 [a.w] h = .ok (.int a.deep) h := by
  intro n
  induction n with
  | zero => intro a h hd; have := a.deep_pos; omega
  | succ n ih =>
    intro a h hd
    have r1 : pg.T (k + (n + 1)) 14 [a.w] h = Df.run ⟨"signs_of", ["kind"], 1, b14⟩ ⟨pg.T (k + n), pg.cst, pg.par⟩ [a.w] h := rfl
    have r2 : pg.T (k + (n + 1)) 15 [a.w] h = Df.run ⟨"depth_of", ["kind"], 1, b15⟩ ⟨pg.T (k + n), pg.cst, pg.par⟩ [a.w] h := rfl
    rw [r1, r2]
    cases a with
    | ltr i => constructor <;> simp [b14, b15, Kd.w, Kd.signs, Kd.deep, eqN, isW, Df.run, Ss.den, S.den, E.den, Es.den, Es.bo, Es.bt, Eo.den, Eo.tst, E.tst, It.den, R.bind, R.out, R.opt, startS, slotV, slotP, W.now, cmpW, intsW, idxW, L2.atI, L2.ixN, bltW, on1, on2, ifB, Tg.den, Tgs.den, tgo, binW, addW, intW, absW, lenW, truW, tyW, isTy, E.give, E.fresh, W.isNon, lineN_small, cstV, mulW]
    | cnt => constructor <;> simp [b14, b15, Kd.w, Kd.signs, Kd.deep, eqN, isW, Df.run, Ss.den, S.den, E.den, Es.den, Es.bo, Es.bt, Eo.den, Eo.tst, E.tst, It.den, R.bind, R.out, R.opt, startS, slotV, slotP, W.now, cmpW, intsW, idxW, L2.atI, L2.ixN, bltW, on1, on2, ifB, Tg.den, Tgs.den, tgo, binW, addW, intW, absW, lenW, truW, tyW, isTy, E.give, E.fresh, W.isNon, lineN_small, cstV, mulW]
    | pair x y | sum x y | fn x y =>
      simp only [Kd.deep] at hd
      obtain ⟨x1, x2⟩ := ih x h (by omega)
      obtain ⟨y1, y2⟩ := ih y h (by omega)
      constructor
      · simp [b14, Kd.w, Kd.signs, eqN, x1, y1, isW, Df.run, Ss.den, S.den, E.den, Es.den, Es.bo, Es.bt, Eo.den, Eo.tst, E.tst, It.den, R.bind, R.out, R.opt, startS, slotV, slotP, W.now, cmpW, intsW, idxW, L2.atI, L2.ixN, bltW, on1, on2, ifB, Tg.den, Tgs.den, tgo, binW, addW, intW, absW, lenW, truW, tyW, isTy, E.give, E.fresh, W.isNon, lineN_small, cstV, mulW]
      · have mx : (if (y.deep : Int) > (x.deep : Int) then (y.deep : Int) else (x.deep : Int)) = ((max x.deep y.deep : Nat) : Int) := by
          split <;> omega
        simp [b15, Kd.w, Kd.deep, eqN, x2, y2, mx, isW, Df.run, Ss.den, S.den, E.den, Es.den, Es.bo, Es.bt, Eo.den, Eo.tst, E.tst, It.den, R.bind, R.out, R.opt, startS, slotV, slotP, W.now, cmpW, intsW, idxW, L2.atI, L2.ixN, bltW, on1, on2, ifB, Tg.den, Tgs.den, tgo, binW, addW, intW, absW, lenW, truW, tyW, isTy, E.give, E.fresh, W.isNon, lineN_small, cstV, mulW]
        try omega
/-- letters as values -/
abbrev lw (a : Kd) : List W := a.lets.map fun (i : Nat) => W.int (i : Int)
theorem lw_len (a : Kd) (n : Nat) (hn : a.deep ≤ n) (h9 : n ≤ 9) : (lw a).length ≤ 256 := by
  have h1 := a.lets_len
  have h2 := Kd.signs_deep a 9 (by omega)
  simp only [lw, List.length_map]
  omega
theorem lets_ok : ∀ (n : Nat) (a : Kd) (h : Obs), a.deep ≤ n → n ≤ 9 → pg.T (k + n) 16 [a.w] h = .ok (.lst (lw a)) h := by
  intro n
  induction n with
  | zero => intro a h hd; have := a.deep_pos; omega
  | succ n ih =>
    intro a h hd h9
    have r1 : pg.T (k + (n + 1)) 16 [a.w] h = Df.run ⟨"letters_in", ["kind"], 1, b16⟩ ⟨pg.T (k + n), pg.cst, pg.par⟩ [a.w] h := rfl
    rw [r1]
    have wd := Kd.words
    cases a with
    | ltr i => simp [b16, Kd.w, lw, Kd.lets, eqN, eqS, c_L, l1_, isW, Df.run, Ss.den, S.den, E.den, Es.den, Es.bo, Es.bt, Eo.den, Eo.tst, E.tst, It.den, R.bind, R.out, R.opt, startS, slotV, slotP, W.now, cmpW, intsW, idxW, L2.atI, L2.ixN, bltW, on1, on2, ifB, Tg.den, Tgs.den, tgo, binW, addW, intW, absW, lenW, truW, tyW, isTy, E.give, E.fresh, W.isNon, lineN_small, cstV, mulW]
    | cnt => simp [b16, Kd.w, lw, Kd.lets, eqN, eqS, wd, c_L, l0_, isW, Df.run, Ss.den, S.den, E.den, Es.den, Es.bo, Es.bt, Eo.den, Eo.tst, E.tst, It.den, R.bind, R.out, R.opt, startS, slotV, slotP, W.now, cmpW, intsW, idxW, L2.atI, L2.ixN, bltW, on1, on2, ifB, Tg.den, Tgs.den, tgo, binW, addW, intW, absW, lenW, truW, tyW, isTy, E.give, E.fresh, W.isNon, lineN_small, cstV, mulW]
    | pair x y | sum x y | fn x y =>
      simp only [Kd.deep] at hd
      have x1 := ih x h (by omega) (by omega)
      have y1 := ih y h (by omega) (by omega)
      have xl := lw_len x n (by omega) (by omega)
      have yl := lw_len y n (by omega) (by omega)
      have q : lineN ((lw x).length + (lw y).length) = true := lineN_small (by omega)
      simp only [lw, List.length_map] at q
      simp [b16, Kd.w, lw, Kd.lets, eqN, x1, y1, q, isW, Df.run, Ss.den, S.den, E.den, Es.den, Es.bo, Es.bt, Eo.den, Eo.tst, E.tst, It.den, R.bind, R.out, R.opt, startS, slotV, slotP, W.now, cmpW, intsW, idxW, L2.atI, L2.ixN, bltW, on1, on2, ifB, Tg.den, Tgs.den, tgo, binW, addW, intW, absW, lenW, truW, tyW, isTy, E.give, E.fresh, W.isNon, lineN_small, cstV, mulW]
theorem put_ok (l : Nat) (o : Kd) : ∀ (n : Nat) (a : Kd) (h : Obs), a.deep ≤ n → n ≤ 60 → pg.T (k + n) 17 [a.w, .int l, o.w] h = .ok (a.put l o).w h := by
  intro n
  induction n with
  | zero => intro a h hd; have := a.deep_pos; omega
  | succ n ih =>
    intro a h hd h60
    have r1 : pg.T (k + (n + 1)) 17 [a.w, .int l, o.w] h = Df.run ⟨"put_letter", ["kind", "letter", "other"], 3, b17⟩ ⟨pg.T (k + n), pg.cst, pg.par⟩ [a.w, .int l, o.w] h := rfl
    rw [r1]
    have wd := Kd.words
    have eq := Kd.eq a (.ltr l) (.inr (by simp [Kd.deep]))
    cases a with
    | ltr i =>
      by_cases hi : i = l
      · subst hi
        simp only [Kd.w] at eq
        simp [b17, Kd.w, Kd.put, eqN, eq, c_L, l2_, isW, Df.run, Ss.den, S.den, E.den, Es.den, Es.bo, Es.bt, Eo.den, Eo.tst, E.tst, It.den, R.bind, R.out, R.opt, startS, slotV, slotP, W.now, cmpW, intsW, idxW, L2.atI, L2.ixN, bltW, on1, on2, ifB, Tg.den, Tgs.den, tgo, binW, addW, intW, absW, lenW, truW, tyW, isTy, E.give, E.fresh, W.isNon, lineN_small, cstV, mulW]
      · simp only [Kd.w, Kd.ltr.injEq, hi, decide_false] at eq
        simp [b17, Kd.w, Kd.put, hi, eqN, eq, c_L, l2_, isW, Df.run, Ss.den, S.den, E.den, Es.den, Es.bo, Es.bt, Eo.den, Eo.tst, E.tst, It.den, R.bind, R.out, R.opt, startS, slotV, slotP, W.now, cmpW, intsW, idxW, L2.atI, L2.ixN, bltW, on1, on2, ifB, Tg.den, Tgs.den, tgo, binW, addW, intW, absW, lenW, truW, tyW, isTy, E.give, E.fresh, W.isNon, lineN_small, cstV, mulW]
    | cnt =>
      simp only [Kd.w, reduceCtorEq, decide_false] at eq
      simp [b17, Kd.w, Kd.put, eqN, eq, c_L, l2_, isW, Df.run, Ss.den, S.den, E.den, Es.den, Es.bo, Es.bt, Eo.den, Eo.tst, E.tst, It.den, R.bind, R.out, R.opt, startS, slotV, slotP, W.now, cmpW, intsW, idxW, L2.atI, L2.ixN, bltW, on1, on2, ifB, Tg.den, Tgs.den, tgo, binW, addW, intW, absW, lenW, truW, tyW, isTy, E.give, E.fresh, W.isNon, lineN_small, cstV, mulW]
    | pair x y | sum x y | fn x y =>
      simp only [Kd.deep] at hd
      have x1 := ih x h (by omega) (by omega)
      have y1 := ih y h (by omega) (by omega)
      simp [b17, Kd.w, Kd.put, eqN, x1, y1, l3_, isW, Df.run, Ss.den, S.den, E.den, Es.den, Es.bo, Es.bt, Eo.den, Eo.tst, E.tst, It.den, R.bind, R.out, R.opt, startS, slotV, slotP, W.now, cmpW, intsW, idxW, L2.atI, L2.ixN, bltW, on1, on2, ifB, Tg.den, Tgs.den, tgo, binW, addW, intW, absW, lenW, truW, tyW, isTy, E.give, E.fresh, W.isNon, lineN_small, cstV, mulW]
theorem t3 {w : W} {i j : Int} (hij : j ≤ i) : pg.T (k + 1) 3 [w, .int i, .int j] h = .ok .non h := by
  have r1 : pg.T (k + 1) 3 [w, .int i, .int j] h = Df.run ⟨"want_at_most", ["what", "limit", "number"], 3, b3⟩ ⟨pg.T k, pg.cst, pg.par⟩ [w, .int i, .int j] h := rfl
  rw [r1]
  have z : ¬ i < j := by omega
  simp [b3, z, isW, Df.run, Ss.den, S.den, E.den, Es.den, Es.bo, Es.bt, Eo.den, Eo.tst, E.tst, It.den, R.bind, R.out, R.opt, startS, slotV, slotP, W.now, cmpW, intsW, idxW, L2.atI, L2.ixN, bltW, on1, on2, ifB, Tg.den, Tgs.den, tgo, binW, addW, intW, absW, lenW, truW, tyW, isTy, E.give, E.fresh, W.isNon, lineN_small, cstV, mulW]
theorem t9 {a : Kd} (hd : due a.w = true) : pg.T (k + 6) 9 [a.w] h = .ok .non h := by
  have e := t8 (k := k) (h := h) a.pv
  rw [hd] at e
  have r1 : pg.T (k + 6) 9 [a.w] h = Df.run ⟨"want_kind", ["value"], 1, b9⟩ ⟨pg.T (k + 5), pg.cst, pg.par⟩ [a.w] h := rfl
  rw [r1]
  simp [b9, e, isW, Df.run, Ss.den, S.den, E.den, Es.den, Es.bo, Es.bt, Eo.den, Eo.tst, E.tst, It.den, R.bind, R.out, R.opt, startS, slotV, slotP, W.now, cmpW, intsW, idxW, L2.atI, L2.ixN, bltW, on1, on2, ifB, Tg.den, Tgs.den, tgo, binW, addW, intW, absW, lenW, truW, tyW, isTy, E.give, E.fresh, W.isNon, lineN_small, cstV, mulW]
theorem t10 {i : Nat} (hi : i ≤ 5) : pg.T (k + 4) 10 [.int i] h = .ok .non h := by
  have e := t6 (k := k) (h := h) (w := .int i) (.int _)
  simp only [decide_eq_true (show (0 : Int) ≤ i by omega), decide_eq_true (show (i : Int) ≤ 5 by omega), Bool.and_self] at e
  have r1 : pg.T (k + 4) 10 [.int i] h = Df.run ⟨"want_letter", ["value"], 1, b10⟩ ⟨pg.T (k + 3), pg.cst, pg.par⟩ [.int i] h := rfl
  rw [r1]
  simp [b10, e, isW, Df.run, Ss.den, S.den, E.den, Es.den, Es.bo, Es.bt, Eo.den, Eo.tst, E.tst, It.den, R.bind, R.out, R.opt, startS, slotV, slotP, W.now, cmpW, intsW, idxW, L2.atI, L2.ixN, bltW, on1, on2, ifB, Tg.den, Tgs.den, tgo, binW, addW, intW, absW, lenW, truW, tyW, isTy, E.give, E.fresh, W.isNon, lineN_small, cstV, mulW]
end K13

set_option maxHeartbeats 4000000
namespace K13
open PySem Ev Mx
variable {k : Nat} {h : Obs}
/-! ## letters put -/
theorem small_le {i : Int} (h1 : -1000000 ≤ i) (h2 : i ≤ 1000000) : small i = true := by
  unfold small
  rw [decide_eq_true (show (-(2 ^ 64) : Int) < i by omega), decide_eq_true (show i < 2 ^ 64 by omega)]
  rfl
theorem mul_ints {i j : Int} (s : small i = true) : mulW (.int i) (.int j) = some (.int (i * j)) := by
  show ifB (small i || small j) (W.int (i * j)) = _
  rw [s]
  rfl
def isI (l : Nat) (w : W) : Bool := match w with
  | .int i => decide (i = l)
  | _ => false
theorem isI_count (l : Nat) : ∀ is : List Nat, ((is.map fun (i : Nat) => W.int (i : Int)).filter (isI l)).length = is.count l
  | [] => rfl
  | i :: is => by
    have e := isI_count l is
    rw [List.map_cons, List.filter_cons]
    by_cases h : i = l
    · subst h
      have z : isI i (.int i) = true := decide_eq_true rfl
      rw [if_pos z, List.length_cons, e, List.count_cons_self]
    · have z : isI l (.int i) = false := decide_eq_false (by omega)
      rw [z, if_neg Bool.false_ne_true, e, List.count_cons_of_ne h]
def pl : E := match nth b18 0 with
  | .asg _ _ _ (.blt _ _ (.cons e .nil) _) _ => e
  | _ => .non 0 ⟨0, 0, 0, 0⟩
theorem pl_den {a o : Kd} {l : Nat} (hd : a.deep ≤ 9) : pl.den ⟨pg.T (k + 12), pg.cst, pg.par⟩ true [.val a.w, .val (.int l), .val o.w, .non, .non, .non] h = .ok (.lst (((lw a).filter (isI l)).map id)) h := by
  have e := lets_ok (k := k + 3) 9 a h hd (by omega)
  have hl := lw_len a 9 hd (by omega)
  refine lcFilt (i := 5) (ws := lw a) (p := isI l) (g := id) ?_ ?_ ?_ rfl (by omega)
  · have e : pg.T (k + 12) 16 [a.w] h = .ok (.lst (lw a)) h := e
    simp [It.den, E.den, Es.den, R.bind, R.opt, slotV, e, W.items]
  · intro w hw
    obtain ⟨i, _, rfl⟩ := List.mem_map.mp hw
    simp [wipeS, isI, eqN, isW, Df.run, Ss.den, S.den, E.den, Es.den, Es.bo, Es.bt, Eo.den, Eo.tst, E.tst, It.den, R.bind, R.out, R.opt, startS, slotV, slotP, W.now, cmpW, intsW, idxW, L2.atI, L2.ixN, bltW, on1, on2, ifB, Tg.den, Tgs.den, tgo, binW, addW, intW, absW, lenW, truW, tyW, isTy, E.give, E.fresh, W.isNon, lineN_small, cstV, mulW]
  · intro w hw _
    simp [wipeS, isW, Df.run, Ss.den, S.den, E.den, Es.den, Es.bo, Es.bt, Eo.den, Eo.tst, E.tst, It.den, R.bind, R.out, R.opt, startS, slotV, slotP, W.now, cmpW, intsW, idxW, L2.atI, L2.ixN, bltW, on1, on2, ifB, Tg.den, Tgs.den, tgo, binW, addW, intW, absW, lenW, truW, tyW, isTy, E.give, E.fresh, W.isNon, lineN_small, cstV, mulW]
theorem told1 {D : Dn} {x y : W} {l ci si so : Int} (sm : small ci = true) (s1 : D.call 14 [x] h = .ok (.int si) h) (s2 : D.call 14 [y] h = .ok (.int so) h) (cs : D.cst "MOST_SIGNS" = some (.int 60)) (w1 : D.call 3 [.str "signs", .int 60, .int (si + ci * (so - 1))] h = .ok .non h) :
    (nth b18 1).den D [.val x, .val (.int l), .val y, .val (.int ci), .non, .non] h = .nx [.val x, .val (.int l), .val y, .val (.int ci), .non, .non] h := by
  have mm := mul_ints (j := so - 1) sm
  simp [nth, b18, s1, s2, mm, w1, cs, isW, Df.run, Ss.den, S.den, E.den, Es.den, Es.bo, Es.bt, Eo.den, Eo.tst, E.tst, It.den, R.bind, R.out, R.opt, startS, slotV, slotP, W.now, cmpW, intsW, idxW, L2.atI, L2.ixN, bltW, on1, on2, ifB, Tg.den, Tgs.den, tgo, binW, addW, intW, absW, lenW, truW, tyW, isTy, E.give, E.fresh, W.isNon, lineN_small, cstV]
theorem t18 {a o : Kd} {l : Nat} (ha : a.deep ≤ 9) (ho : o.deep ≤ 9) (hs : a.signs + a.lets.count l * (o.signs - 1) ≤ 60) (hp : (a.put l o).deep ≤ 12) : pg.T (k + 13) 18 [a.w, .int l, o.w] h = .ok (a.put l o).w h := by
  have r1 : pg.T (k + 13) 18 [a.w, .int l, o.w] h = Df.run ⟨"put_letter_told", ["kind", "letter", "other", "times", "found", "one"], 3, b18⟩ ⟨pg.T (k + 12), pg.cst, pg.par⟩ [a.w, .int l, o.w] h := rfl
  rw [r1]
  have elc := pl_den (k := k) (h := h) (o := o) (l := l) ha
  simp only [pl, nth, b18, List.map_id] at elc
  have cn := isI_count l a.lets
  have s1 : pg.T (k + 12) 14 [a.w] h = .ok (.int a.signs) h := (sd_ok (k := k + 3) 9 a h (by omega)).1
  have s2 : pg.T (k + 12) 14 [o.w] h = .ok (.int o.signs) h := (sd_ok (k := k + 3) 9 o h (by omega)).1
  have s3 : pg.T (k + 12) 17 [a.w, .int l, o.w] h = .ok (a.put l o).w h := put_ok (k := k + 3) l o 9 a h ha (by omega)
  have s4 : pg.T (k + 12) 15 [(a.put l o).w] h = .ok (.int (a.put l o).deep) h := (sd_ok (k := k) 12 (a.put l o) h hp).2
  have hc : a.lets.count l ≤ 256 := by
    have h1 := lw_len a 9 ha (by omega)
    have h2 := List.count_le_length (a := l) (l := a.lets)
    simp only [lw, List.length_map] at h1
    omega
  have sm : small ((a.lets.count l : Nat) : Int) = true := small_le (by omega) (by omega)
  have op := o.signs_pos
  have ei : (a.signs : Int) + (a.lets.count l : Int) * ((o.signs : Int) - 1) ≤ 60 := by
    have e : ((o.signs : Int) - 1) = ((o.signs - 1 : Nat) : Int) := by omega
    rw [e, ← Int.natCast_mul, ← Int.natCast_add]
    omega
  have w1 : pg.T (k + 12) 3 [.str "signs", .int 60, .int ((a.signs : Int) + (a.lets.count l : Int) * ((o.signs : Int) - 1))] h = .ok .non h := t3 (k := k + 11) ei
  have w2 : pg.T (k + 12) 3 [.str "depth", .int 12, .int (a.put l o).deep] h = .ok .non h := t3 (k := k + 11) (by omega)
  have mm : mulW (.int ((a.lets.count l : Nat) : Int)) (.int ((o.signs : Int) - 1)) = some (.int (((a.lets.count l : Nat) : Int) * ((o.signs : Int) - 1))) := mul_ints sm
  have c0 : (nth b18 0).den ⟨pg.T (k + 12), pg.cst, pg.par⟩ [.val a.w, .val (.int l), .val o.w, .non, .non, .non] h = .nx [.val a.w, .val (.int l), .val o.w, .val (.int ((a.lets.count l : Nat) : Int)), .non, .non] h := by
    simp [nth, b18, ↓elc, cn, isW, Df.run, Ss.den, S.den, E.den, Es.den, Es.bo, Es.bt, Eo.den, Eo.tst, E.tst, It.den, R.bind, R.out, R.opt, startS, slotV, slotP, W.now, cmpW, intsW, idxW, L2.atI, L2.ixN, bltW, on1, on2, ifB, Tg.den, Tgs.den, tgo, binW, addW, intW, absW, lenW, truW, tyW, isTy, E.give, E.fresh, W.isNon, lineN_small, cstV]
  have c1 : (nth b18 1).den ⟨pg.T (k + 12), pg.cst, pg.par⟩ [.val a.w, .val (.int l), .val o.w, .val (.int ((a.lets.count l : Nat) : Int)), .non, .non] h = .nx [.val a.w, .val (.int l), .val o.w, .val (.int ((a.lets.count l : Nat) : Int)), .non, .non] h := told1 sm s1 s2 c_MS w1
  have c2 : (nth b18 2).den ⟨pg.T (k + 12), pg.cst, pg.par⟩ [.val a.w, .val (.int l), .val o.w, .val (.int ((a.lets.count l : Nat) : Int)), .non, .non] h = .nx [.val a.w, .val (.int l), .val o.w, .val (.int ((a.lets.count l : Nat) : Int)), .val (a.put l o).w, .non] h := by
    simp [nth, b18, s3, isW, Df.run, Ss.den, S.den, E.den, Es.den, Es.bo, Es.bt, Eo.den, Eo.tst, E.tst, It.den, R.bind, R.out, R.opt, startS, slotV, slotP, W.now, cmpW, intsW, idxW, L2.atI, L2.ixN, bltW, on1, on2, ifB, Tg.den, Tgs.den, tgo, binW, addW, intW, absW, lenW, truW, tyW, isTy, E.give, E.fresh, W.isNon, lineN_small, cstV]
  have c3 : (nth b18 3).den ⟨pg.T (k + 12), pg.cst, pg.par⟩ [.val a.w, .val (.int l), .val o.w, .val (.int ((a.lets.count l : Nat) : Int)), .val (a.put l o).w, .non] h = .nx [.val a.w, .val (.int l), .val o.w, .val (.int ((a.lets.count l : Nat) : Int)), .val (a.put l o).w, .non] h := by
    simp [nth, b18, s4, w2, c_MD, isW, Df.run, Ss.den, S.den, E.den, Es.den, Es.bo, Es.bt, Eo.den, Eo.tst, E.tst, It.den, R.bind, R.out, R.opt, startS, slotV, slotP, W.now, cmpW, intsW, idxW, L2.atI, L2.ixN, bltW, on1, on2, ifB, Tg.den, Tgs.den, tgo, binW, addW, intW, absW, lenW, truW, tyW, isTy, E.give, E.fresh, W.isNon, lineN_small, cstV]
  have run : Df.run ⟨"put_letter_told", ["kind", "letter", "other", "times", "found", "one"], 3, b18⟩ ⟨pg.T (k + 12), pg.cst, pg.par⟩ [a.w, .int l, o.w] h = (match Ss.den ⟨pg.T (k + 12), pg.cst, pg.par⟩ (.cons (nth b18 0) (.cons (nth b18 1) (.cons (nth b18 2) (.cons (nth b18 3) (.cons (nth b18 4) .nil))))) [.val a.w, .val (.int l), .val o.w, .non, .non, .non] h with
    | .nx _ h => .ok .non h
    | .rt w h => .ok w h
    | .exc x _ h => .exc x h
    | _ => .bad) := rfl
  rw [run, seq c0, seq c1, seq c2, seq c3]
  simp [nth, b18, isW, Df.run, Ss.den, S.den, E.den, Es.den, Es.bo, Es.bt, Eo.den, Eo.tst, E.tst, It.den, R.bind, R.out, R.opt, startS, slotV, slotP, W.now, cmpW, intsW, idxW, L2.atI, L2.ixN, bltW, on1, on2, ifB, Tg.den, Tgs.den, tgo, binW, addW, intW, absW, lenW, truW, tyW, isTy, E.give, E.fresh, W.isNon, lineN_small, cstV]
/-! ## asked -/
structure Sm (a : Kd) : Prop where
  d : a.deep ≤ 6
  s : a.signs ≤ 60
  l : a.lw 6 = true
theorem Sm.due {a : Kd} (s : Sm a) : Mx.due a.w = true := Kd.due_of s.l (by have := s.d; omega) s.s
theorem t19 {a : Kd} (s : Sm a) : pg.T (k + 8) 19 [a.w] h = .ok (.bl a.shown) h := by
  have r1 : pg.T (k + 8) 19 [a.w] h = Df.run ⟨"is_shown", ["kind"], 1, b19⟩ ⟨pg.T (k + 7), pg.cst, pg.par⟩ [a.w] h := rfl
  have e1 : pg.T (k + 7) 9 [a.w] h = .ok .non h := t9 (k := k + 1) s.due
  have e2 : pg.T (k + 7) 11 [a.w] h = .ok (.bl a.shown) h := (shown_met (k := k + 1) 6 a h s.d).1
  rw [r1]
  simp [b19, e1, e2, isW, Df.run, Ss.den, S.den, E.den, Es.den, Es.bo, Es.bt, Eo.den, Eo.tst, E.tst, It.den, R.bind, R.out, R.opt, startS, slotV, slotP, W.now, cmpW, intsW, idxW, L2.atI, L2.ixN, bltW, on1, on2, ifB, Tg.den, Tgs.den, tgo, binW, addW, intW, absW, lenW, truW, tyW, isTy, E.give, E.fresh, W.isNon, lineN_small, cstV, mulW]
theorem t20 {a : Kd} (s : Sm a) : pg.T (k + 8) 20 [a.w] h = .ok (.bl a.met) h := by
  have r1 : pg.T (k + 8) 20 [a.w] h = Df.run ⟨"is_met", ["kind"], 1, b20⟩ ⟨pg.T (k + 7), pg.cst, pg.par⟩ [a.w] h := rfl
  have e1 : pg.T (k + 7) 9 [a.w] h = .ok .non h := t9 (k := k + 1) s.due
  have e2 : pg.T (k + 7) 12 [a.w] h = .ok (.bl a.met) h := (shown_met (k := k + 1) 6 a h s.d).2
  rw [r1]
  simp [b20, e1, e2, isW, Df.run, Ss.den, S.den, E.den, Es.den, Es.bo, Es.bt, Eo.den, Eo.tst, E.tst, It.den, R.bind, R.out, R.opt, startS, slotV, slotP, W.now, cmpW, intsW, idxW, L2.atI, L2.ixN, bltW, on1, on2, ifB, Tg.den, Tgs.den, tgo, binW, addW, intW, absW, lenW, truW, tyW, isTy, E.give, E.fresh, W.isNon, lineN_small, cstV, mulW]
theorem t21 {a : Kd} (s : Sm a) : pg.T (k + 8) 21 [a.w] h = .ok (.bl a.data) h := by
  have r1 : pg.T (k + 8) 21 [a.w] h = Df.run ⟨"is_data", ["kind"], 1, b21⟩ ⟨pg.T (k + 7), pg.cst, pg.par⟩ [a.w] h := rfl
  have e1 : pg.T (k + 7) 9 [a.w] h = .ok .non h := t9 (k := k + 1) s.due
  have e2 : pg.T (k + 7) 13 [a.w] h = .ok (.bl a.data) h := data_ok (k := k + 1) 6 a h s.d
  rw [r1]
  simp [b21, e1, e2, isW, Df.run, Ss.den, S.den, E.den, Es.den, Es.bo, Es.bt, Eo.den, Eo.tst, E.tst, It.den, R.bind, R.out, R.opt, startS, slotV, slotP, W.now, cmpW, intsW, idxW, L2.atI, L2.ixN, bltW, on1, on2, ifB, Tg.den, Tgs.den, tgo, binW, addW, intW, absW, lenW, truW, tyW, isTy, E.give, E.fresh, W.isNon, lineN_small, cstV, mulW]
theorem t22 {a : Kd} (s : Sm a) : pg.T (k + 8) 22 [a.w] h = .ok (.int a.signs) h := by
  have r1 : pg.T (k + 8) 22 [a.w] h = Df.run ⟨"kind_size", ["kind"], 1, b22⟩ ⟨pg.T (k + 7), pg.cst, pg.par⟩ [a.w] h := rfl
  have e1 : pg.T (k + 7) 9 [a.w] h = .ok .non h := t9 (k := k + 1) s.due
  have e2 : pg.T (k + 7) 14 [a.w] h = .ok (.int a.signs) h := (sd_ok (k := k + 1) 6 a h s.d).1
  rw [r1]
  simp [b22, e1, e2, isW, Df.run, Ss.den, S.den, E.den, Es.den, Es.bo, Es.bt, Eo.den, Eo.tst, E.tst, It.den, R.bind, R.out, R.opt, startS, slotV, slotP, W.now, cmpW, intsW, idxW, L2.atI, L2.ixN, bltW, on1, on2, ifB, Tg.den, Tgs.den, tgo, binW, addW, intW, absW, lenW, truW, tyW, isTy, E.give, E.fresh, W.isNon, lineN_small, cstV, mulW]
/-- the letters, each once -/
def sl (a : Kd) : List Int := srtI (a.lets.map fun (i : Nat) => (i : Int))
theorem ints_lw : ∀ is : List Nat, intsOf (is.map fun (i : Nat) => W.int (i : Int)) = some (is.map fun (i : Nat) => (i : Int))
  | [] => rfl
  | i :: is => by
    have e := ints_lw is
    simp only [List.map_cons, intsOf, e, Option.map_some]
theorem srt_lw {a : Kd} (h : a.signs ≤ 60) : srtW (.lst (lw a)) = some (.lst ((sl a).map W.int)) := by
  have e := ints_lw a.lets
  have hl := a.lets_len
  have z : decide ((a.lets.map fun (i : Nat) => (i : Int)).length < 64) = true := decide_eq_true (by rw [List.length_map]; omega)
  simp only [srtW, lw, e, z, sl]
theorem t23 {a : Kd} (s : Sm a) : pg.T (k + 8) 23 [a.w] h = .ok (.lst ((sl a).map W.int)) h := by
  have r1 : pg.T (k + 8) 23 [a.w] h = Df.run ⟨"letters", ["kind"], 1, b23⟩ ⟨pg.T (k + 7), pg.cst, pg.par⟩ [a.w] h := rfl
  have e1 : pg.T (k + 7) 9 [a.w] h = .ok .non h := t9 (k := k + 1) s.due
  have e2 : pg.T (k + 7) 16 [a.w] h = .ok (.lst (lw a)) h := lets_ok (k := k + 1) 6 a h s.d (by omega)
  have e3 := srt_lw s.s
  rw [r1]
  simp [b23, e1, e2, e3, isW, Df.run, Ss.den, S.den, E.den, Es.den, Es.bo, Es.bt, Eo.den, Eo.tst, E.tst, It.den, R.bind, R.out, R.opt, startS, slotV, slotP, W.now, cmpW, intsW, idxW, L2.atI, L2.ixN, bltW, on1, on2, ifB, Tg.den, Tgs.den, tgo, binW, addW, intW, absW, lenW, truW, tyW, isTy, E.give, E.fresh, W.isNon, lineN_small, cstV, mulW]
theorem t24 {a o : Kd} {l : Nat} (s : Sm a) (so : Sm o) (hl : l ≤ 5) (hs : a.signs + a.lets.count l * (o.signs - 1) ≤ 60) (hp : (a.put l o).deep ≤ 12) : pg.T (k + 14) 24 [a.w, .int l, o.w] h = .ok (a.put l o).w h := by
  have r1 : pg.T (k + 14) 24 [a.w, .int l, o.w] h = Df.run ⟨"put_kind", ["kind", "letter", "other"], 3, b24⟩ ⟨pg.T (k + 13), pg.cst, pg.par⟩ [a.w, .int l, o.w] h := rfl
  have e1 : pg.T (k + 13) 9 [a.w] h = .ok .non h := t9 (k := k + 7) s.due
  have e2 : pg.T (k + 13) 9 [o.w] h = .ok .non h := t9 (k := k + 7) so.due
  have e3 : pg.T (k + 13) 10 [.int l] h = .ok .non h := t10 (k := k + 9) hl
  have e4 : pg.T (k + 13) 18 [a.w, .int l, o.w] h = .ok (a.put l o).w h := t18 (k := k) (by have := s.d; omega) (by have := so.d; omega) hs hp
  rw [r1]
  simp [b24, e1, e2, e3, e4, isW, Df.run, Ss.den, S.den, E.den, Es.den, Es.bo, Es.bt, Eo.den, Eo.tst, E.tst, It.den, R.bind, R.out, R.opt, startS, slotV, slotP, W.now, cmpW, intsW, idxW, L2.atI, L2.ixN, bltW, on1, on2, ifB, Tg.den, Tgs.den, tgo, binW, addW, intW, absW, lenW, truW, tyW, isTy, E.give, E.fresh, W.isNon, lineN_small, cstV, mulW]
/-! ## the law's own walks -/
theorem lshown : ∀ (n : Nat) (a : Kd) (h : Obs), a.deep ≤ n → pg.T (k + n) 33 [a.w] h = .ok (.bl a.shown) h ∧ pg.T (k + n) 34 [a.w] h = .ok (.bl a.met) h := by
  intro n
  induction n with
  | zero => intro a h hd; have := a.deep_pos; omega
  | succ n ih =>
    intro a h hd
    have r1 : pg.T (k + (n + 1)) 33 [a.w] h = Df.run ⟨"_law_is_shown", ["_law_kind_here"], 1, b33⟩ ⟨pg.T (k + n), pg.cst, pg.par⟩ [a.w] h := rfl
    have r2 : pg.T (k + (n + 1)) 34 [a.w] h = Df.run ⟨"_law_is_met", ["_law_kind_here"], 1, b34⟩ ⟨pg.T (k + n), pg.cst, pg.par⟩ [a.w] h := rfl
    rw [r1, r2]
    have wd := Kd.words
    cases a with
    | ltr i => constructor <;> simp [b33, b34, Kd.w, Kd.shown, Kd.met, eqS, wd, l2_, inW, inD, W.dat, W.dats, PyData.depth, PyData.depthAll, eqvS, eqvN, isW, Df.run, Ss.den, S.den, E.den, Es.den, Es.bo, Es.bt, Eo.den, Eo.tst, E.tst, It.den, R.bind, R.out, R.opt, startS, slotV, slotP, W.now, cmpW, intsW, idxW, L2.atI, L2.ixN, bltW, on1, on2, ifB, Tg.den, Tgs.den, tgo, binW, addW, intW, absW, lenW, truW, tyW, isTy, E.give, E.fresh, W.isNon, lineN_small, cstV, mulW]
    | cnt => constructor <;> simp [b33, b34, Kd.w, Kd.shown, Kd.met, eqS, wd, l2_, inW, inD, W.dat, W.dats, PyData.depth, PyData.depthAll, eqvS, eqvN, isW, Df.run, Ss.den, S.den, E.den, Es.den, Es.bo, Es.bt, Eo.den, Eo.tst, E.tst, It.den, R.bind, R.out, R.opt, startS, slotV, slotP, W.now, cmpW, intsW, idxW, L2.atI, L2.ixN, bltW, on1, on2, ifB, Tg.den, Tgs.den, tgo, binW, addW, intW, absW, lenW, truW, tyW, isTy, E.give, E.fresh, W.isNon, lineN_small, cstV, mulW]
    | pair x y =>
      simp only [Kd.deep] at hd
      obtain ⟨x1, x2⟩ := ih x h (by omega)
      obtain ⟨y1, y2⟩ := ih y h (by omega)
      constructor
      · cases hx : x.shown <;> rw [hx] at x1 <;> simp [b33, Kd.w, Kd.shown, eqS, wd, l2_, x1, y1, hx, inW, inD, W.dat, W.dats, PyData.depth, PyData.depthAll, eqvS, eqvN, isW, Df.run, Ss.den, S.den, E.den, Es.den, Es.bo, Es.bt, Eo.den, Eo.tst, E.tst, It.den, R.bind, R.out, R.opt, startS, slotV, slotP, W.now, cmpW, intsW, idxW, L2.atI, L2.ixN, bltW, on1, on2, ifB, Tg.den, Tgs.den, tgo, binW, addW, intW, absW, lenW, truW, tyW, isTy, E.give, E.fresh, W.isNon, lineN_small, cstV, mulW]
      · cases hx : x.met <;> rw [hx] at x2 <;> simp [b34, Kd.w, Kd.met, eqS, wd, l2_, x2, y2, hx, inW, inD, W.dat, W.dats, PyData.depth, PyData.depthAll, eqvS, eqvN, isW, Df.run, Ss.den, S.den, E.den, Es.den, Es.bo, Es.bt, Eo.den, Eo.tst, E.tst, It.den, R.bind, R.out, R.opt, startS, slotV, slotP, W.now, cmpW, intsW, idxW, L2.atI, L2.ixN, bltW, on1, on2, ifB, Tg.den, Tgs.den, tgo, binW, addW, intW, absW, lenW, truW, tyW, isTy, E.give, E.fresh, W.isNon, lineN_small, cstV, mulW]
    | sum x y =>
      simp only [Kd.deep] at hd
      obtain ⟨x1, x2⟩ := ih x h (by omega)
      obtain ⟨y1, y2⟩ := ih y h (by omega)
      constructor
      · cases hx : x.shown <;> rw [hx] at x1 <;> simp [b33, Kd.w, Kd.shown, eqS, wd, l2_, x1, y1, hx, inW, inD, W.dat, W.dats, PyData.depth, PyData.depthAll, eqvS, eqvN, isW, Df.run, Ss.den, S.den, E.den, Es.den, Es.bo, Es.bt, Eo.den, Eo.tst, E.tst, It.den, R.bind, R.out, R.opt, startS, slotV, slotP, W.now, cmpW, intsW, idxW, L2.atI, L2.ixN, bltW, on1, on2, ifB, Tg.den, Tgs.den, tgo, binW, addW, intW, absW, lenW, truW, tyW, isTy, E.give, E.fresh, W.isNon, lineN_small, cstV, mulW]
      · simp [b34, Kd.w, Kd.met, eqS, wd, l2_, inW, inD, W.dat, W.dats, PyData.depth, PyData.depthAll, eqvS, eqvN, isW, Df.run, Ss.den, S.den, E.den, Es.den, Es.bo, Es.bt, Eo.den, Eo.tst, E.tst, It.den, R.bind, R.out, R.opt, startS, slotV, slotP, W.now, cmpW, intsW, idxW, L2.atI, L2.ixN, bltW, on1, on2, ifB, Tg.den, Tgs.den, tgo, binW, addW, intW, absW, lenW, truW, tyW, isTy, E.give, E.fresh, W.isNon, lineN_small, cstV, mulW]
    | fn x y =>
      simp only [Kd.deep] at hd
      obtain ⟨x1, x2⟩ := ih x h (by omega)
      obtain ⟨y1, y2⟩ := ih y h (by omega)
      constructor
      · cases hx : x.met <;> rw [hx] at x2 <;> simp [b33, Kd.w, Kd.shown, eqS, wd, l2_, x2, y1, hx, inW, inD, W.dat, W.dats, PyData.depth, PyData.depthAll, eqvS, eqvN, isW, Df.run, Ss.den, S.den, E.den, Es.den, Es.bo, Es.bt, Eo.den, Eo.tst, E.tst, It.den, R.bind, R.out, R.opt, startS, slotV, slotP, W.now, cmpW, intsW, idxW, L2.atI, L2.ixN, bltW, on1, on2, ifB, Tg.den, Tgs.den, tgo, binW, addW, intW, absW, lenW, truW, tyW, isTy, E.give, E.fresh, W.isNon, lineN_small, cstV, mulW]
      · cases hx : x.shown <;> rw [hx] at x1 <;> simp [b34, Kd.w, Kd.met, eqS, wd, l2_, x1, y2, hx, inW, inD, W.dat, W.dats, PyData.depth, PyData.depthAll, eqvS, eqvN, isW, Df.run, Ss.den, S.den, E.den, Es.den, Es.bo, Es.bt, Eo.den, Eo.tst, E.tst, It.den, R.bind, R.out, R.opt, startS, slotV, slotP, W.now, cmpW, intsW, idxW, L2.atI, L2.ixN, bltW, on1, on2, ifB, Tg.den, Tgs.den, tgo, binW, addW, intW, absW, lenW, truW, tyW, isTy, E.give, E.fresh, W.isNon, lineN_small, cstV, mulW]
theorem ldata : ∀ (n : Nat) (a : Kd) (h : Obs), a.deep ≤ n → pg.T (k + n) 35 [a.w] h = .ok (.bl a.data) h := by
  intro n
  induction n with
  | zero => intro a h hd; have := a.deep_pos; omega
  | succ n ih =>
    intro a h hd
    have r1 : pg.T (k + (n + 1)) 35 [a.w] h = Df.run ⟨"_law_is_data", ["_law_kind_here"], 1, b35⟩ ⟨pg.T (k + n), pg.cst, pg.par⟩ [a.w] h := rfl
    rw [r1]
    have wd := Kd.words
    cases a with
    | ltr i => simp [b35, Kd.w, Kd.data, eqS, wd, l2_, inW, inD, W.dat, W.dats, PyData.depth, PyData.depthAll, eqvS, eqvN, isW, Df.run, Ss.den, S.den, E.den, Es.den, Es.bo, Es.bt, Eo.den, Eo.tst, E.tst, It.den, R.bind, R.out, R.opt, startS, slotV, slotP, W.now, cmpW, intsW, idxW, L2.atI, L2.ixN, bltW, on1, on2, ifB, Tg.den, Tgs.den, tgo, binW, addW, intW, absW, lenW, truW, tyW, isTy, E.give, E.fresh, W.isNon, lineN_small, cstV, mulW]
    | cnt => simp [b35, Kd.w, Kd.data, eqS, wd, l2_, inW, inD, W.dat, W.dats, PyData.depth, PyData.depthAll, eqvS, eqvN, isW, Df.run, Ss.den, S.den, E.den, Es.den, Es.bo, Es.bt, Eo.den, Eo.tst, E.tst, It.den, R.bind, R.out, R.opt, startS, slotV, slotP, W.now, cmpW, intsW, idxW, L2.atI, L2.ixN, bltW, on1, on2, ifB, Tg.den, Tgs.den, tgo, binW, addW, intW, absW, lenW, truW, tyW, isTy, E.give, E.fresh, W.isNon, lineN_small, cstV, mulW]
    | fn x y => simp [b35, Kd.w, Kd.data, eqS, wd, l2_, inW, inD, W.dat, W.dats, PyData.depth, PyData.depthAll, eqvS, eqvN, isW, Df.run, Ss.den, S.den, E.den, Es.den, Es.bo, Es.bt, Eo.den, Eo.tst, E.tst, It.den, R.bind, R.out, R.opt, startS, slotV, slotP, W.now, cmpW, intsW, idxW, L2.atI, L2.ixN, bltW, on1, on2, ifB, Tg.den, Tgs.den, tgo, binW, addW, intW, absW, lenW, truW, tyW, isTy, E.give, E.fresh, W.isNon, lineN_small, cstV, mulW]
    | pair x y | sum x y =>
      simp only [Kd.deep] at hd
      have x1 := ih x h (by omega)
      have y1 := ih y h (by omega)
      cases hx : x.data <;> rw [hx] at x1 <;> simp [b35, Kd.w, Kd.data, eqS, wd, l2_, x1, y1, hx, inW, inD, W.dat, W.dats, PyData.depth, PyData.depthAll, eqvS, eqvN, isW, Df.run, Ss.den, S.den, E.den, Es.den, Es.bo, Es.bt, Eo.den, Eo.tst, E.tst, It.den, R.bind, R.out, R.opt, startS, slotV, slotP, W.now, cmpW, intsW, idxW, L2.atI, L2.ixN, bltW, on1, on2, ifB, Tg.den, Tgs.den, tgo, binW, addW, intW, absW, lenW, truW, tyW, isTy, E.give, E.fresh, W.isNon, lineN_small, cstV, mulW]
theorem lsigns : ∀ (n : Nat) (a : Kd) (h : Obs), a.deep ≤ n → pg.T (k + n) 36 [a.w] h = .ok (.int a.signs) h := by
  intro n
  induction n with
  | zero => intro a h hd; have := a.deep_pos; omega
  | succ n ih =>
    intro a h hd
    have r1 : pg.T (k + (n + 1)) 36 [a.w] h = Df.run ⟨"_law_signs", ["_law_kind_here"], 1, b36⟩ ⟨pg.T (k + n), pg.cst, pg.par⟩ [a.w] h := rfl
    rw [r1]
    have wd := Kd.words
    cases a with
    | ltr i => simp [b36, Kd.w, Kd.signs, wd, l3_, inW, inD, W.dat, W.dats, PyData.depth, PyData.depthAll, eqvS, eqvN, isW, Df.run, Ss.den, S.den, E.den, Es.den, Es.bo, Es.bt, Eo.den, Eo.tst, E.tst, It.den, R.bind, R.out, R.opt, startS, slotV, slotP, W.now, cmpW, intsW, idxW, L2.atI, L2.ixN, bltW, on1, on2, ifB, Tg.den, Tgs.den, tgo, binW, addW, intW, absW, lenW, truW, tyW, isTy, E.give, E.fresh, W.isNon, lineN_small, cstV, mulW]
    | cnt => simp [b36, Kd.w, Kd.signs, wd, l3_, inW, inD, W.dat, W.dats, PyData.depth, PyData.depthAll, eqvS, eqvN, isW, Df.run, Ss.den, S.den, E.den, Es.den, Es.bo, Es.bt, Eo.den, Eo.tst, E.tst, It.den, R.bind, R.out, R.opt, startS, slotV, slotP, W.now, cmpW, intsW, idxW, L2.atI, L2.ixN, bltW, on1, on2, ifB, Tg.den, Tgs.den, tgo, binW, addW, intW, absW, lenW, truW, tyW, isTy, E.give, E.fresh, W.isNon, lineN_small, cstV, mulW]
    | pair x y | sum x y | fn x y =>
      simp only [Kd.deep] at hd
      have x1 := ih x h (by omega)
      have y1 := ih y h (by omega)
      simp [b36, Kd.w, Kd.signs, wd, l3_, x1, y1, inW, inD, W.dat, W.dats, PyData.depth, PyData.depthAll, eqvS, eqvN, isW, Df.run, Ss.den, S.den, E.den, Es.den, Es.bo, Es.bt, Eo.den, Eo.tst, E.tst, It.den, R.bind, R.out, R.opt, startS, slotV, slotP, W.now, cmpW, intsW, idxW, L2.atI, L2.ixN, bltW, on1, on2, ifB, Tg.den, Tgs.den, tgo, binW, addW, intW, absW, lenW, truW, tyW, isTy, E.give, E.fresh, W.isNon, lineN_small, cstV, mulW]
theorem llets : ∀ (n : Nat) (a : Kd) (h : Obs), a.deep ≤ n → n ≤ 9 → pg.T (k + n) 37 [a.w] h = .ok (.lst (lw a)) h := by
  intro n
  induction n with
  | zero => intro a h hd; have := a.deep_pos; omega
  | succ n ih =>
    intro a h hd h9
    have r1 : pg.T (k + (n + 1)) 37 [a.w] h = Df.run ⟨"_law_letters", ["_law_kind_here"], 1, b37⟩ ⟨pg.T (k + n), pg.cst, pg.par⟩ [a.w] h := rfl
    rw [r1]
    have wd := Kd.words
    cases a with
    | ltr i => simp [b37, Kd.w, lw, Kd.lets, eqS, wd, l1_, l3_, inW, inD, W.dat, W.dats, PyData.depth, PyData.depthAll, eqvS, eqvN, isW, Df.run, Ss.den, S.den, E.den, Es.den, Es.bo, Es.bt, Eo.den, Eo.tst, E.tst, It.den, R.bind, R.out, R.opt, startS, slotV, slotP, W.now, cmpW, intsW, idxW, L2.atI, L2.ixN, bltW, on1, on2, ifB, Tg.den, Tgs.den, tgo, binW, addW, intW, absW, lenW, truW, tyW, isTy, E.give, E.fresh, W.isNon, lineN_small, cstV, mulW]
    | cnt => simp [b37, Kd.w, lw, Kd.lets, eqS, wd, l0_, l3_, inW, inD, W.dat, W.dats, PyData.depth, PyData.depthAll, eqvS, eqvN, isW, Df.run, Ss.den, S.den, E.den, Es.den, Es.bo, Es.bt, Eo.den, Eo.tst, E.tst, It.den, R.bind, R.out, R.opt, startS, slotV, slotP, W.now, cmpW, intsW, idxW, L2.atI, L2.ixN, bltW, on1, on2, ifB, Tg.den, Tgs.den, tgo, binW, addW, intW, absW, lenW, truW, tyW, isTy, E.give, E.fresh, W.isNon, lineN_small, cstV, mulW]
    | pair x y | sum x y | fn x y =>
      simp only [Kd.deep] at hd
      have x1 := ih x h (by omega) (by omega)
      have y1 := ih y h (by omega) (by omega)
      have xl := lw_len x n (by omega) (by omega)
      have yl := lw_len y n (by omega) (by omega)
      have q : lineN ((lw x).length + (lw y).length) = true := lineN_small (by omega)
      simp only [lw, List.length_map] at q
      simp [b37, Kd.w, lw, Kd.lets, wd, l3_, x1, y1, q, inW, inD, W.dat, W.dats, PyData.depth, PyData.depthAll, eqvS, eqvN, isW, Df.run, Ss.den, S.den, E.den, Es.den, Es.bo, Es.bt, Eo.den, Eo.tst, E.tst, It.den, R.bind, R.out, R.opt, startS, slotV, slotP, W.now, cmpW, intsW, idxW, L2.atI, L2.ixN, bltW, on1, on2, ifB, Tg.den, Tgs.den, tgo, binW, addW, intW, absW, lenW, truW, tyW, isTy, E.give, E.fresh, W.isNon, lineN_small, cstV, mulW]
theorem lput (l : Nat) (o : Kd) : ∀ (n : Nat) (a : Kd) (h : Obs), a.deep ≤ n → n ≤ 60 → pg.T (k + n) 38 [a.w, .int l, o.w] h = .ok (a.put l o).w h := by
  intro n
  induction n with
  | zero => intro a h hd; have := a.deep_pos; omega
  | succ n ih =>
    intro a h hd h60
    have r1 : pg.T (k + (n + 1)) 38 [a.w, .int l, o.w] h = Df.run ⟨"_law_put", ["_law_kind_here", "_law_letter", "_law_other"], 3, b38⟩ ⟨pg.T (k + n), pg.cst, pg.par⟩ [a.w, .int l, o.w] h := rfl
    rw [r1]
    have wd := Kd.words
    have eq := Kd.eq a (.ltr l) (.inr (by simp [Kd.deep]))
    cases a with
    | ltr i =>
      by_cases hi : i = l
      · subst hi
        simp only [Kd.w] at eq
        simp [b38, Kd.w, Kd.put, wd, eq, l2_, l3_, inW, inD, W.dat, W.dats, PyData.depth, PyData.depthAll, eqvS, eqvN, isW, Df.run, Ss.den, S.den, E.den, Es.den, Es.bo, Es.bt, Eo.den, Eo.tst, E.tst, It.den, R.bind, R.out, R.opt, startS, slotV, slotP, W.now, cmpW, intsW, idxW, L2.atI, L2.ixN, bltW, on1, on2, ifB, Tg.den, Tgs.den, tgo, binW, addW, intW, absW, lenW, truW, tyW, isTy, E.give, E.fresh, W.isNon, lineN_small, cstV, mulW]
      · simp only [Kd.w, Kd.ltr.injEq, hi, decide_false] at eq
        simp [b38, Kd.w, Kd.put, hi, wd, eq, l2_, l3_, inW, inD, W.dat, W.dats, PyData.depth, PyData.depthAll, eqvS, eqvN, isW, Df.run, Ss.den, S.den, E.den, Es.den, Es.bo, Es.bt, Eo.den, Eo.tst, E.tst, It.den, R.bind, R.out, R.opt, startS, slotV, slotP, W.now, cmpW, intsW, idxW, L2.atI, L2.ixN, bltW, on1, on2, ifB, Tg.den, Tgs.den, tgo, binW, addW, intW, absW, lenW, truW, tyW, isTy, E.give, E.fresh, W.isNon, lineN_small, cstV, mulW]
    | cnt =>
      simp only [Kd.w, reduceCtorEq, decide_false] at eq
      simp [b38, Kd.w, Kd.put, wd, eq, l2_, l3_, inW, inD, W.dat, W.dats, PyData.depth, PyData.depthAll, eqvS, eqvN, isW, Df.run, Ss.den, S.den, E.den, Es.den, Es.bo, Es.bt, Eo.den, Eo.tst, E.tst, It.den, R.bind, R.out, R.opt, startS, slotV, slotP, W.now, cmpW, intsW, idxW, L2.atI, L2.ixN, bltW, on1, on2, ifB, Tg.den, Tgs.den, tgo, binW, addW, intW, absW, lenW, truW, tyW, isTy, E.give, E.fresh, W.isNon, lineN_small, cstV, mulW]
    | pair x y | sum x y | fn x y =>
      simp only [Kd.deep] at hd
      have x1 := ih x h (by omega) (by omega)
      have y1 := ih y h (by omega) (by omega)
      simp [b38, Kd.w, Kd.put, wd, x1, y1, l3_, inW, inD, W.dat, W.dats, PyData.depth, PyData.depthAll, eqvS, eqvN, isW, Df.run, Ss.den, S.den, E.den, Es.den, Es.bo, Es.bt, Eo.den, Eo.tst, E.tst, It.den, R.bind, R.out, R.opt, startS, slotV, slotP, W.now, cmpW, intsW, idxW, L2.atI, L2.ixN, bltW, on1, on2, ifB, Tg.den, Tgs.den, tgo, binW, addW, intW, absW, lenW, truW, tyW, isTy, E.give, E.fresh, W.isNon, lineN_small, cstV, mulW]
end K13

set_option maxHeartbeats 4000000
namespace K13
open PySem Ev Mx
variable {k : Nat} {h : Obs}
theorem ins1_mem_ (z k : Int) : ∀ l : List Int, k ∈ ins1 z l ↔ k = z ∨ k ∈ l
  | [] => by simp [ins1]
  | x :: r => by
    unfold ins1
    split
    · simp
    · split
      · rename_i e
        subst e
        simp
      · rw [List.mem_cons, ins1_mem_ z k r, List.mem_cons]
        constructor
        · rintro (h | h | h) <;> simp [h]
        · rintro (h | h | h) <;> simp [h]
theorem srtI_mem_ (k : Int) : ∀ l : List Int, k ∈ srtI l ↔ k ∈ l
  | [] => by simp [srtI]
  | z :: r => by
    show k ∈ ins1 z (srtI r) ↔ _
    rw [ins1_mem_, srtI_mem_ k r, List.mem_cons]
theorem srtI_len : ∀ l : List Int, (srtI l).length ≤ l.length
  | [] => Nat.le_refl _
  | z :: r => by
    have h1 : ∀ (z : Int) (l : List Int), (ins1 z l).length ≤ l.length + 1 := fun z l => by
      induction l with
      | nil => simp [ins1]
      | cons x r ih =>
        unfold ins1
        split
        · simp
        · split
          · simp
          · simp only [List.length_cons]; omega
    have h2 := srtI_len r
    have h3 := h1 z (srtI r)
    show (ins1 z (srtI r)).length ≤ _
    simp only [List.length_cons]
    omega
theorem sl_in {a : Kd} (l : Nat) : ((l : Int) ∈ sl a) ↔ l ∈ a.lets := by
  unfold sl
  rw [srtI_mem_, List.mem_map]
  constructor
  · rintro ⟨j, hj, e⟩
    have : j = l := by omega
    subst this
    exact hj
  · exact fun h => ⟨l, h, rfl⟩
theorem sl_rep {a : Kd} (hl : a.lw 6 = true) (hs : a.signs ≤ 60) : Rep 1 400 (.lst ((sl a).map W.int)) := by
  have h1 : (sl a).length ≤ 31 := by
    have := srtI_len (a.lets.map fun (i : Nat) => (i : Int))
    have := a.lets_len
    unfold sl
    simp only [List.length_map] at *
    omega
  refine (Rep.lst (D := 0) (C := 8) (ws := (sl a).map W.int) fun w hw => ?_).mono (by omega) (by rw [List.length_map]; omega)
  obtain ⟨z, hz, rfl⟩ := List.mem_map.mp hw
  unfold sl at hz
  rw [srtI_mem_, List.mem_map] at hz
  obtain ⟨j, hj, rfl⟩ := hz
  have := Kd.lets_lw 6 a hl j hj
  exact (Rep.nat (n := j) (by omega)).mono (by omega) (by omega)
theorem rep_due {a : Kd} (hl : a.lw 6 = true) (hs : a.signs ≤ 60) : Rep 2 4000 (.lst [.bl a.shown, .bl a.met, .bl a.data, .int a.signs, .lst ((sl a).map W.int)]) ∧ Rep 2 4000 (.lst [.bl a.shown, .bl a.met, .bl a.data, .int a.signs]) := by
  have b : ∀ x : Bool, Rep 1 400 (.bl x) := fun x => (Rep.bl x).mono (by omega) (by omega)
  have n : Rep 1 400 (.int a.signs) := (Rep.nat (n := a.signs) (by omega)).mono (by omega) (by omega)
  constructor
  · refine (Rep.lst (D := 1) (C := 400) fun w hw => ?_).mono (by omega) (by simp)
    exact Tm.mem_cons (b _) (Tm.mem_cons (b _) (Tm.mem_cons (b _) (Tm.mem_cons n (Tm.mem_cons (sl_rep hl hs) (fun _ h => by cases h))))) w hw
  · refine (Rep.lst (D := 1) (C := 400) fun w hw => ?_).mono (by omega) (by simp)
    exact Tm.mem_cons (b _) (Tm.mem_cons (b _) (Tm.mem_cons (b _) (Tm.mem_cons n (fun _ h => by cases h)))) w hw
/-! ## _law_kinds_right -/
abbrev D42 (k : Nat) : Dn := ⟨pg.T (k + 20), pg.cst, pg.par⟩
abbrev due_ (a : Kd) : W := .lst [.bl a.shown, .bl a.met, .bl a.data, .int a.signs, .lst ((sl a).map W.int)]
theorem kr (k : Nat) {a : Kd} (hd : a.deep ≤ 5) (hs : a.signs ≤ 31) (hl : a.lw 6 = true) {x y : Int} {t : Obs} (v : Vd x y) : ∃ x1 y1, pg.T (k + 21) 42 [.ref 0, a.w] (PT x y t) = .ok (.bl true) (PT x1 y1 t) ∧ Vd x1 y1 := by
  have sm : Sm a := ⟨by omega, by omega, hl⟩
  have n1 : ∀ h, pg.T (k + 20) 33 [a.w] h = .ok (.bl a.shown) h := fun h => (lshown (k := k + 14) 6 a h (by omega)).1
  have n2 : ∀ h, pg.T (k + 20) 34 [a.w] h = .ok (.bl a.met) h := fun h => (lshown (k := k + 14) 6 a h (by omega)).2
  have n3 : ∀ h, pg.T (k + 20) 35 [a.w] h = .ok (.bl a.data) h := fun h => ldata (k := k + 14) 6 a h (by omega)
  have n4 : ∀ h, pg.T (k + 20) 36 [a.w] h = .ok (.int a.signs) h := fun h => lsigns (k := k + 14) 6 a h (by omega)
  have n5 : ∀ h, pg.T (k + 20) 37 [a.w] h = .ok (.lst (lw a)) h := fun h => llets (k := k + 14) 6 a h (by omega) (by omega)
  have m1 : ∀ h, pg.T (k + 20) 19 [a.w] h = .ok (.bl a.shown) h := fun h => t19 (k := k + 12) sm
  have m2 : ∀ h, pg.T (k + 20) 20 [a.w] h = .ok (.bl a.met) h := fun h => t20 (k := k + 12) sm
  have m3 : ∀ h, pg.T (k + 20) 21 [a.w] h = .ok (.bl a.data) h := fun h => t21 (k := k + 12) sm
  have m4 : ∀ h, pg.T (k + 20) 22 [a.w] h = .ok (.int a.signs) h := fun h => t22 (k := k + 12) sm
  have m5 : ∀ h, pg.T (k + 20) 23 [a.w] h = .ok (.lst ((sl a).map W.int)) h := fun h => t23 (k := k + 12) sm
  have m6 : ∀ h, pg.T (k + 20) 8 [a.w] h = .ok (.bl true) h := fun h => by
    have e := t8 (k := k + 15) (h := h) a.pv
    rw [sm.due] at e
    exact e
  have sr := srt_lw sm.s
  have q4 : lineN 4 = true := lineN_small (by omega)
  have q5 : lineN 5 = true := lineN_small (by omega)
  obtain ⟨r1, r2⟩ := rep_due hl (show a.signs ≤ 60 by omega)
  obtain ⟨u1, u1e⟩ := r1.txt (by omega) (by omega)
  obtain ⟨u2, u2e⟩ := r2.txt (by omega) (by omega)
  have s0 : ∀ h, (nth b42 0).den (D42 k) [.val (.ref 0), .val a.w, .non, .non] h = .nx [.val (.ref 0), .val a.w, .val (due_ a), .non] h := fun h => by
    simp [nth, b42, n1, n2, n3, n4, n5, sr, q5, isW, Df.run, Ss.den, S.den, E.den, Es.den, Es.bo, Es.bt, Eo.den, Eo.tst, E.tst, It.den, R.bind, R.out, R.opt, startS, slotV, slotP, nwN, nwB, nwI, nwS, nwT, nwL, nwE, nwR, Kd.now, cmpW, intsW, bltW, on1, on2, ifB, Tg.den, Tgs.den, tgo, binW, addW, intW, absW, lenW, truW, tyW, isTy, E.give, E.fresh, W.isNon, lineN_small, cstV, mulW]
  have s1 : ∀ h, (nth b42 1).den (D42 k) [.val (.ref 0), .val a.w, .val (due_ a), .non] h = .nx [.val (.ref 0), .val a.w, .val (due_ a), .non] h := fun h => by
    simp [nth, b42, m1, m2, m3, m4, m5, m6, q5, u1e, eqS, isW, Df.run, Ss.den, S.den, E.den, Es.den, Es.bo, Es.bt, Eo.den, Eo.tst, E.tst, It.den, R.bind, R.out, R.opt, startS, slotV, slotP, nwN, nwB, nwI, nwS, nwT, nwL, nwE, nwR, Kd.now, cmpW, intsW, bltW, on1, on2, ifB, Tg.den, Tgs.den, tgo, binW, addW, intW, absW, lenW, truW, tyW, isTy, E.give, E.fresh, W.isNon, lineN_small, cstV, mulW]
  have p1 : pg.par 19 = (["kind"] : List Str) := rfl
  have p2 : pg.par 20 = (["kind"] : List Str) := rfl
  have p3 : pg.par 21 = (["kind"] : List Str) := rfl
  have p4 : pg.par 22 = (["kind"] : List Str) := rfl
  have cu : cut [W.bl a.shown, .bl a.met, .bl a.data, .int a.signs, .lst ((sl a).map W.int)] none (some 4) = [W.bl a.shown, .bl a.met, .bl a.data, .int a.signs] := rfl
  have s2 : ∀ h, (nth b42 2).den (D42 k) [.val (.ref 0), .val a.w, .val (due_ a), .non] h = .nx [.val (.ref 0), .val a.w, .val (due_ a), .non] h := fun h => by
    simp [nth, b42, m1, m2, m3, m4, p1, p2, p3, p4, kwPut, kwAll, Ks.den, slcW, cu, q4, u2e, eqS, isW, Df.run, Ss.den, S.den, E.den, Es.den, Es.bo, Es.bt, Eo.den, Eo.tst, E.tst, It.den, R.bind, R.out, R.opt, startS, slotV, slotP, nwN, nwB, nwI, nwS, nwT, nwL, nwE, nwR, Kd.now, cmpW, intsW, bltW, on1, on2, ifB, Tg.den, Tgs.den, tgo, binW, addW, intW, absW, lenW, truW, tyW, isTy, E.give, E.fresh, W.isNon, lineN_small, cstV, mulW]
  obtain ⟨o, x1, y1, e3, od, ol, v1⟩ := (dr (k + 14)).kind 2 t (by omega) v
  have e3 : pg.T (k + 20) 39 [.ref 0, .int 2] (PT x y t) = .ok o.w (PT x1 y1 t) := e3
  have s3 : (nth b42 3).den (D42 k) [.val (.ref 0), .val a.w, .val (due_ a), .non] (PT x y t) = .nx [.val (.ref 0), .val a.w, .val (due_ a), .val o.w] (PT x1 y1 t) := by
    simp [nth, b42, e3, isW, Df.run, Ss.den, S.den, E.den, Es.den, Es.bo, Es.bt, Eo.den, Eo.tst, E.tst, It.den, R.bind, R.out, R.opt, startS, slotV, slotP, nwN, nwB, nwI, nwS, nwT, nwL, nwE, nwR, Kd.now, cmpW, intsW, bltW, on1, on2, ifB, Tg.den, Tgs.den, tgo, binW, addW, intW, absW, lenW, truW, tyW, isTy, E.give, E.fresh, W.isNon, lineN_small, cstV, mulW]
  have o6 : o.lw 6 = true := Kd.lw_mono (by omega) ol
  have os := Kd.signs_deep o 3 (by omega)
  have smf : Sm (.fn o a) := ⟨by simp only [Kd.deep]; omega, by simp only [Kd.signs]; omega, by simp [Kd.lw, o6, hl]⟩
  have smf2 : Sm (.fn a o) := ⟨by simp only [Kd.deep]; omega, by simp only [Kd.signs]; omega, by simp [Kd.lw, o6, hl]⟩
  have sms : Sm (.sum a o) := ⟨by simp only [Kd.deep]; omega, by simp only [Kd.signs]; omega, by simp [Kd.lw, o6, hl]⟩
  have f1 : ∀ h, pg.T (k + 20) 19 [.tup [.str "fun", o.w, a.w]] h = .ok (.bl (o.met && a.shown)) h := fun h => by
    have e := t19 (k := k + 12) (h := h) smf
    simp only [Kd.w, Kd.shown] at e
    exact e
  have f2 : ∀ h, pg.T (k + 20) 20 [.tup [.str "fun", o.w, a.w]] h = .ok (.bl (o.shown && a.met)) h := fun h => by
    have e := t20 (k := k + 12) (h := h) smf
    simp only [Kd.w, Kd.met] at e
    exact e
  have f3 : ∀ h, pg.T (k + 20) 20 [.tup [.str "sum", a.w, o.w]] h = .ok (.bl false) h := fun h => by
    have e := t20 (k := k + 12) (h := h) sms
    simp only [Kd.w, Kd.met] at e
    exact e
  have f4 : ∀ h, pg.T (k + 20) 21 [.tup [.str "fun", a.w, o.w]] h = .ok (.bl false) h := fun h => by
    have e := t21 (k := k + 12) (h := h) smf2
    simp only [Kd.w, Kd.data] at e
    exact e
  have g1 : ∀ h, pg.T (k + 20) 33 [o.w] h = .ok (.bl o.shown) h := fun h => (lshown (k := k + 14) 6 o h (by omega)).1
  have g2 : ∀ h, pg.T (k + 20) 34 [o.w] h = .ok (.bl o.met) h := fun h => (lshown (k := k + 14) 6 o h (by omega)).2
  have i0 : idxW (due_ a) (.int 0) = some (.bl a.shown) := rfl
  have i1 : idxW (due_ a) (.int 1) = some (.bl a.met) := rfl
  have s4 : ∀ h, (nth b42 4).den (D42 k) [.val (.ref 0), .val a.w, .val (due_ a), .val o.w] h = .nx [.val (.ref 0), .val a.w, .val (due_ a), .val o.w] h := fun h => by
    cases hm : o.met <;> cases hn : o.shown <;> rw [hm] at f1 g2 <;> rw [hn] at f2 g1 <;> simp [nth, b42, f1, f2, g1, g2, i0, i1, l3_, eqB, isW, Df.run, Ss.den, S.den, E.den, Es.den, Es.bo, Es.bt, Eo.den, Eo.tst, E.tst, It.den, R.bind, R.out, R.opt, startS, slotV, slotP, nwN, nwB, nwI, nwS, nwT, nwL, nwE, nwR, Kd.now, cmpW, intsW, bltW, on1, on2, ifB, Tg.den, Tgs.den, tgo, binW, addW, intW, absW, lenW, truW, tyW, isTy, E.give, E.fresh, W.isNon, lineN_small, cstV, mulW]
  refine ⟨x1, y1, ?_, v1⟩
  have run : pg.T (k + 21) 42 [.ref 0, a.w] (PT x y t) = (match Ss.den (D42 k) (.cons (nth b42 0) (.cons (nth b42 1) (.cons (nth b42 2) (.cons (nth b42 3) (.cons (nth b42 4) (.cons (nth b42 5) .nil)))))) [.val (.ref 0), .val a.w, .non, .non] (PT x y t) with
    | .nx _ h => .ok .non h
    | .rt w h => .ok w h
    | .exc x _ h => .exc x h
    | _ => .bad) := rfl
  rw [run, seq (s0 _), seq (s1 _), seq (s2 _), seq s3, seq (s4 _)]
  simp [nth, b42, f3, f4, l3_, isW, Df.run, Ss.den, S.den, E.den, Es.den, Es.bo, Es.bt, Eo.den, Eo.tst, E.tst, It.den, R.bind, R.out, R.opt, startS, slotV, slotP, nwN, nwB, nwI, nwS, nwT, nwL, nwE, nwR, Kd.now, cmpW, intsW, bltW, on1, on2, ifB, Tg.den, Tgs.den, tgo, binW, addW, intW, absW, lenW, truW, tyW, isTy, E.give, E.fresh, W.isNon, lineN_small, cstV, mulW]
end K13

set_option maxHeartbeats 4000000
namespace K13
open PySem Ev Mx
variable {k : Nat} {h : Obs}
/-! ## letters put in nodes -/
def kdOf : Nat → W → Option Kd
  | 0, _ => none
  | n + 1, w => match w with
    | .tup [.str s, .int i] => some (.ltr i.toNat)
    | .tup [.str s] => some .cnt
    | .tup [.str s, a, b] => match kdOf n a, kdOf n b with
      | some x, some y => match decide (s = "pair") with
        | true => some (.pair x y)
        | false => match decide (s = "sum") with
          | true => some (.sum x y)
          | false => some (.fn x y)
      | _, _ => none
    | _ => none
theorem kdOf_w : ∀ (a : Kd) (n : Nat), a.deep ≤ n → kdOf n a.w = some a
  | a, 0, h => by have := a.deep_pos; omega
  | .ltr i, n + 1, h => by simp [Kd.w, kdOf]
  | .cnt, n + 1, h => by simp [Kd.w, kdOf]
  | .pair a b, n + 1, h => by
    simp only [Kd.deep] at h
    simp [Kd.w, kdOf, kdOf_w a n (by omega), kdOf_w b n (by omega)]
  | .sum a b, n + 1, h => by
    simp only [Kd.deep] at h
    have wd := Kd.words
    simp [Kd.w, kdOf, kdOf_w a n (by omega), kdOf_w b n (by omega), wd]
  | .fn a b, n + 1, h => by
    simp only [Kd.deep] at h
    have wd := Kd.words
    simp [Kd.w, kdOf, kdOf_w a n (by omega), kdOf_w b n (by omega), wd]
def np (l : Nat) (o : Kd) (w : W) : W := match w with
  | .tup [.str s, x] => match isKw s with
    | true => match kdOf 9 x with
      | some A => .tup [.str s, (A.put l o).w]
      | none => w
    | false => w
  | _ => w
theorem np_kd {l : Nat} {o A : Kd} {s : Str} (hk : isKw s = true) (hd : A.deep ≤ 9) : np l o (.tup [.str s, A.w]) = .tup [.str s, (A.put l o).w] := by
  simp [np, hk, kdOf_w A 9 hd]
theorem np_num {l : Nat} {o : Kd} {s : Str} {i : Nat} (h : isKw s = false) : np l o (.tup [.str s, .int i]) = .tup [.str s, .int i] := by
  simp [np, h]
theorem np_al {l : Nat} {o : Kd} {s : Str} : np l o (.tup [.str s]) = .tup [.str s] := rfl
abbrev Nd (w : W) : Prop := Node 3 2 100 9 w
theorem np_node {l : Nat} {o : Kd} {w : W} (n : Nd w) (ho : o.deep ≤ 2) (hl : o.lw 2 = true) : Node 4 2 100 9 (np l o w) := by
  cases n with
  | @kd s A hk hd hA =>
    rw [np_kd hk (by omega)]
    exact .kd hk (by have := Kd.put_deep l o A; omega) (Kd.put_lw 2 l o hl A hA)
  | @num s i hs =>
    have z : isKw s = false := by rcases hs with ⟨rfl, _⟩ | ⟨rfl, _⟩; exact kw_num.1; exact kw_num.2
    rw [np_num z]
    exact .num hs
  | al ha => exact .al ha
theorem np_five {o : Kd} {w : W} (n : Nd w) : np 5 o w = w := by
  cases n with
  | @kd s A hk hd hA =>
    rw [np_kd hk (by omega), Kd.put_not 5 o A (fun z => by have := Kd.lets_lw 2 A hA 5 z; omega)]
  | @num s i hs =>
    have z : isKw s = false := by rcases hs with ⟨rfl, _⟩ | ⟨rfl, _⟩; exact kw_num.1; exact kw_num.2
    exact np_num z
  | al ha => rfl
theorem told_ok (k : Nat) {A o : Kd} {l : Nat} (hd : A.deep ≤ 3) (ho : o.deep ≤ 2) : pg.T (k + 20) 18 [A.w, .int l, o.w] h = .ok (A.put l o).w h := by
  have h1 := Kd.signs_deep A 3 hd
  have h2 := Kd.signs_deep o 2 ho
  have h3 := A.lets_len
  have h4 := List.count_le_length (a := l) (l := A.lets)
  have h5 := Kd.put_deep l o A
  have h6 : A.lets.count l * (o.signs - 1) ≤ 4 * 2 := Nat.mul_le_mul (by omega) (by omega)
  exact t18 (k := k + 7) (by omega) (by omega) (by omega) (by omega)
theorem c_WK : pg.cst "WITH_KIND" = some (.tup [.str "fun", .str "left", .str "right", .str "turns"]) := rfl
theorem pbody (k : Nat) {l : Nat} {o : Kd} {w : W} {s0 s3 : Sl} {acc : List W} (n : Nd w) (ho : o.deep ≤ 2) (ha : acc.length ≤ 900) : (forB (nth b29 4)).den ⟨pg.T (k + 20), pg.cst, pg.par⟩ [s0, .val (.int l), .val o.w, s3, .own acc, .val w] h =
    .nx [s0, .val (.int l), .val o.w, s3, .own (acc ++ [np l o w]), .val w] h := by
  have sl : acc.length < sizeLine := sl_small (by omega)
  cases n with
  | @kd s A hk hd hA =>
    rw [np_kd hk (by omega)]
    have e := told_ok (h := h) k (l := l) hd ho
    have hk' := hk
    unfold isKw at hk'
    simp [nth, forB, unfrz, b29, c_WK, hk', e, l2_, sl, inW, inD, W.dat, W.dats, PyData.depth, PyData.depthAll, eqvS, eqvN, isW, Df.run, Ss.den, S.den, E.den, Es.den, Es.bo, Es.bt, Eo.den, Eo.tst, E.tst, It.den, R.bind, R.out, R.opt, startS, slotV, slotP, W.now, cmpW, intsW, idxW, L2.atI, L2.ixN, bltW, on1, on2, ifB, Tg.den, Tgs.den, tgo, binW, addW, intW, absW, lenW, truW, tyW, isTy, E.give, E.fresh, W.isNon, lineN_small, cstV, mulW]
  | @num s i hs =>
    have z : isKw s = false := by rcases hs with ⟨rfl, _⟩ | ⟨rfl, _⟩; exact kw_num.1; exact kw_num.2
    rw [np_num z]
    have z' := z
    unfold isKw at z'
    simp [nth, forB, unfrz, b29, c_WK, z', l2_, sl, inW, inD, W.dat, W.dats, PyData.depth, PyData.depthAll, eqvS, eqvN, isW, Df.run, Ss.den, S.den, E.den, Es.den, Es.bo, Es.bt, Eo.den, Eo.tst, E.tst, It.den, R.bind, R.out, R.opt, startS, slotV, slotP, W.now, cmpW, intsW, idxW, L2.atI, L2.ixN, bltW, on1, on2, ifB, Tg.den, Tgs.den, tgo, binW, addW, intW, absW, lenW, truW, tyW, isTy, E.give, E.fresh, W.isNon, lineN_small, cstV, mulW]
  | @al s ha' =>
    rw [np_al]
    have z' := al_kw ha'
    unfold isKw at z'
    simp [nth, forB, unfrz, b29, c_WK, z', l2_, sl, inW, inD, W.dat, W.dats, PyData.depth, PyData.depthAll, eqvS, eqvN, isW, Df.run, Ss.den, S.den, E.den, Es.den, Es.bo, Es.bt, Eo.den, Eo.tst, E.tst, It.den, R.bind, R.out, R.opt, startS, slotV, slotP, W.now, cmpW, intsW, idxW, L2.atI, L2.ixN, bltW, on1, on2, ifB, Tg.den, Tgs.den, tgo, binW, addW, intW, absW, lenW, truW, tyW, isTy, E.give, E.fresh, W.isNon, lineN_small, cstV, mulW]
theorem ploop (k : Nat) {l : Nat} {o : Kd} {s0 s3 : Sl} (ho : o.deep ≤ 2) : ∀ (ws acc : List W) (x : Sl), (∀ w ∈ ws, Nd w) → acc.length + ws.length ≤ 900 → ∃ y, forGo (fun w σ h => (forT (nth b29 4)).den ⟨pg.T (k + 20), pg.cst, pg.par⟩ w σ h) (fun σ h => (forB (nth b29 4)).den ⟨pg.T (k + 20), pg.cst, pg.par⟩ σ h) ws [s0, .val (.int l), .val o.w, s3, .own acc, x] h =
    .nx [s0, .val (.int l), .val o.w, s3, .own (acc ++ ws.map (np l o)), y] h
  | [], acc, x, _, _ => ⟨x, by simp [forGo]⟩
  | w :: ws, acc, x, q, hl => by
    simp only [List.length_cons] at hl
    obtain ⟨y, e⟩ := ploop k (l := l) (s0 := s0) (s3 := s3) ho ws (acc ++ [np l o w]) (.val w) (fun z hz => q z (List.mem_cons_of_mem _ hz)) (by simp only [List.length_append, List.length_cons, List.length_nil]; omega)
    refine ⟨y, ?_⟩
    have put : (forT (nth b29 4)).den ⟨pg.T (k + 20), pg.cst, pg.par⟩ w [s0, .val (.int l), .val o.w, s3, .own acc, x] h = .ok [s0, .val (.int l), .val o.w, s3, .own acc, .val w] h := rfl
    have b := pbody (h := h) k (l := l) (s0 := s0) (s3 := s3) (acc := acc) (q w List.mem_cons_self) ho (by omega)
    unfold forGo
    simp only [put, b]
    rw [e]
    simp
theorem t28 (k : Nat) {w : W} {ns : List W} (hw : w = .lst ns ∨ w = .tup ns) (p : PVs ns) (hl : ns.length ≤ 1000) (ht : tm w = true) : pg.T (k + 8) 28 [w] h = .ok (.lst ns) h := by
  have pw : PV w := by rcases hw with rfl | rfl; exact .lst _ p; exact .tup _ p
  have e := t27 (k := k) (h := h) pw (fun ms em => by rcases hw with rfl | rfl <;> (cases em; exact hl))
  rw [ht] at e
  have r1 : pg.T (k + 8) 28 [w] h = Df.run ⟨"want_term", ["value"], 1, b28⟩ ⟨pg.T (k + 7), pg.cst, pg.par⟩ [w] h := rfl
  rw [r1]
  rcases hw with rfl | rfl <;> simp [b28, e, listW, isW, Df.run, Ss.den, S.den, E.den, Es.den, Es.bo, Es.bt, Eo.den, Eo.tst, E.tst, It.den, R.bind, R.out, R.opt, startS, slotV, slotP, W.now, cmpW, intsW, idxW, L2.atI, L2.ixN, bltW, on1, on2, ifB, Tg.den, Tgs.den, tgo, binW, addW, intW, absW, lenW, truW, tyW, isTy, E.give, E.fresh, W.isNon, lineN_small, cstV, mulW]
theorem t29 (k : Nat) {u : Tm} {w : W} {l : Nat} {o : Kd} (hw : w = .lst u.ws ∨ w = .tup u.ws) (hu : u.lim 100 9 3 2 = true) (hz : u.ws.length ≤ 300) (h5 : l ≤ 5) (ho : o.deep ≤ 2) (hl : o.lw 2 = true) : pg.T (k + 21) 29 [w, .int l, o.w] h = .ok (.lst (u.ws.map (np l o))) h := by
  have ht : tm w = true := Tm.tm_ok hu (by omega) (by omega) (by omega) (by omega) hz hw
  have e1 : pg.T (k + 20) 28 [w] h = .ok (.lst u.ws) h := t28 (k + 12) hw u.pvs (by omega) ht
  have e2 : pg.T (k + 20) 10 [.int l] h = .ok .non h := t10 (k := k + 16) h5
  have e3 : pg.T (k + 20) 9 [o.w] h = .ok .non h := t9 (k := k + 14) (Kd.due_small (Kd.lw_mono (by omega) hl) (by omega))
  obtain ⟨y, lp⟩ := ploop (h := h) k (l := l) (s0 := .val w) (s3 := .val (.lst u.ws)) ho u.ws [] .non (fun x hx => u.nodes hu x hx) (by simp; omega)
  have s0 : (nth b29 0).den ⟨pg.T (k + 20), pg.cst, pg.par⟩ [.val w, .val (.int l), .val o.w, .non, .non, .non] h = .nx [.val w, .val (.int l), .val o.w, .val (.lst u.ws), .non, .non] h := by
    simp [nth, b29, e1, isW, Df.run, Ss.den, S.den, E.den, Es.den, Es.bo, Es.bt, Eo.den, Eo.tst, E.tst, It.den, R.bind, R.out, R.opt, startS, slotV, slotP, nwN, nwB, nwI, nwS, nwT, nwL, nwE, nwR, Kd.now, cmpW, intsW, bltW, on1, on2, ifB, Tg.den, Tgs.den, tgo, binW, addW, intW, absW, lenW, truW, tyW, isTy, E.give, E.fresh, W.isNon, lineN_small, cstV, mulW]
  have s1 : (nth b29 1).den ⟨pg.T (k + 20), pg.cst, pg.par⟩ [.val w, .val (.int l), .val o.w, .val (.lst u.ws), .non, .non] h = .nx [.val w, .val (.int l), .val o.w, .val (.lst u.ws), .non, .non] h := by
    simp [nth, b29, e2, isW, Df.run, Ss.den, S.den, E.den, Es.den, Es.bo, Es.bt, Eo.den, Eo.tst, E.tst, It.den, R.bind, R.out, R.opt, startS, slotV, slotP, nwN, nwB, nwI, nwS, nwT, nwL, nwE, nwR, Kd.now, cmpW, intsW, bltW, on1, on2, ifB, Tg.den, Tgs.den, tgo, binW, addW, intW, absW, lenW, truW, tyW, isTy, E.give, E.fresh, W.isNon, lineN_small, cstV, mulW]
  have s2 : (nth b29 2).den ⟨pg.T (k + 20), pg.cst, pg.par⟩ [.val w, .val (.int l), .val o.w, .val (.lst u.ws), .non, .non] h = .nx [.val w, .val (.int l), .val o.w, .val (.lst u.ws), .non, .non] h := by
    simp [nth, b29, e3, isW, Df.run, Ss.den, S.den, E.den, Es.den, Es.bo, Es.bt, Eo.den, Eo.tst, E.tst, It.den, R.bind, R.out, R.opt, startS, slotV, slotP, nwN, nwB, nwI, nwS, nwT, nwL, nwE, nwR, Kd.now, cmpW, intsW, bltW, on1, on2, ifB, Tg.den, Tgs.den, tgo, binW, addW, intW, absW, lenW, truW, tyW, isTy, E.give, E.fresh, W.isNon, lineN_small, cstV, mulW]
  have s3 : (nth b29 3).den ⟨pg.T (k + 20), pg.cst, pg.par⟩ [.val w, .val (.int l), .val o.w, .val (.lst u.ws), .non, .non] h = .nx [.val w, .val (.int l), .val o.w, .val (.lst u.ws), .own [], .non] h := by
    simp [nth, b29, l0_, isW, Df.run, Ss.den, S.den, E.den, Es.den, Es.bo, Es.bt, Eo.den, Eo.tst, E.tst, It.den, R.bind, R.out, R.opt, startS, slotV, slotP, nwN, nwB, nwI, nwS, nwT, nwL, nwE, nwR, Kd.now, cmpW, intsW, bltW, on1, on2, ifB, Tg.den, Tgs.den, tgo, binW, addW, intW, absW, lenW, truW, tyW, isTy, E.give, E.fresh, W.isNon, lineN_small, cstV, mulW]
  have s4 : (nth b29 4).den ⟨pg.T (k + 20), pg.cst, pg.par⟩ [.val w, .val (.int l), .val o.w, .val (.lst u.ws), .own [], .non] h = .nx [.val w, .val (.int l), .val o.w, .val (.lst u.ws), .own (u.ws.map (np l o)), y] h := lp
  have run : pg.T (k + 21) 29 [w, .int l, o.w] h = (match Ss.den ⟨pg.T (k + 20), pg.cst, pg.par⟩ (.cons (nth b29 0) (.cons (nth b29 1) (.cons (nth b29 2) (.cons (nth b29 3) (.cons (nth b29 4) (.cons (nth b29 5) .nil)))))) [.val w, .val (.int l), .val o.w, .non, .non, .non] h with
    | .nx _ h => .ok .non h
    | .rt w h => .ok w h
    | .exc x _ h => .exc x h
    | _ => .bad) := rfl
  rw [run, seq s0, seq s1, seq s2, seq s3, seq s4]
  simp [nth, b29, frzS, isW, Df.run, Ss.den, S.den, E.den, Es.den, Es.bo, Es.bt, Eo.den, Eo.tst, E.tst, It.den, R.bind, R.out, R.opt, startS, slotV, slotP, nwN, nwB, nwI, nwS, nwT, nwL, nwE, nwR, Kd.now, cmpW, intsW, bltW, on1, on2, ifB, Tg.den, Tgs.den, tgo, binW, addW, intW, absW, lenW, truW, tyW, isTy, E.give, E.fresh, W.isNon, lineN_small, cstV, mulW]
end K13

set_option maxHeartbeats 4000000
namespace K13
open PySem Ev Mx
variable {h : Obs}
theorem in_ints (i : Int) (ns : List Int) : inW (.int i) (.lst (ns.map W.int)) = some (decide (i ∈ ns)) := by
  have e1 : ∀ ns : List Int, W.dats (ns.map W.int) = some (ns.map PyData.int) := fun ns => by
    induction ns with
    | nil => simp [W.dats]
    | cons n r ih => simp [W.dats, W.dat, ih]
  have e2 : ∀ ns : List Int, ((ns.map PyData.int).any fun y => PyData.eqv y (.int i)) = decide (i ∈ ns) := fun ns => by
    induction ns with
    | nil => rfl
    | cons n r ih =>
      rw [List.map_cons, List.any_cons, ih, eqvN]
      by_cases z : i = n <;> simp [z]
  show inD (.int i) (ns.map W.int) = _
  unfold inD
  rw [e1]
  simp only [W.dat]
  rw [decide_eq_true (show min (PyData.depthAll (ns.map PyData.int)) (PyData.int i).depth ≤ 62 by simp [PyData.depth]), e2]
abbrev DR (k : Nat) : Dn := ⟨pg.T (k + 30), pg.cst, pg.par⟩
abbrev sR (n : Nat) : S := nth b43 n
/-- put is the law's put -/
theorem pk (k : Nat) {a o : Kd} {l : Nat} (ha : a.deep ≤ 5) (hs : a.signs ≤ 31) (hl : a.lw 6 = true) (ho : o.deep ≤ 2) (ol : o.lw 6 = true) (h5 : l ≤ 5) (hb : a.signs + a.lets.count l * (o.signs - 1) ≤ 60) : pg.T (k + 30) 24 [a.w, .int l, o.w] h = .ok (a.put l o).w h ∧ pg.T (k + 30) 38 [a.w, .int l, o.w] h = .ok (a.put l o).w h := by
  have so := Kd.signs_deep o 2 ho
  have h5' := Kd.put_deep l o a
  exact ⟨t24 (k := k + 16) ⟨by omega, by omega, hl⟩ ⟨by omega, by omega, ol⟩ h5 hb (by omega), lput (k := k + 20) l o 10 a h (by omega) (by omega)⟩
structure Q0 (a o : Kd) (l : Nat) : Prop where
  ad : a.deep ≤ 4
  al : a.lw 2 = true
  od : o.deep ≤ 2
  ol : o.lw 2 = true
  l2 : l ≤ 2
theorem Q0.cnt {a o : Kd} {l : Nat} (q : Q0 a o l) : a.signs ≤ 15 ∧ a.lets.count l * (o.signs - 1) ≤ 16 ∧ o.signs ≤ 3 := by
  have h1 := Kd.signs_deep a 4 q.ad
  have h2 := Kd.signs_deep o 2 q.od
  have h3 := a.lets_len
  have h4 := List.count_le_length (a := l) (l := a.lets)
  have h6 : a.lets.count l * (o.signs - 1) ≤ 8 * 2 := Nat.mul_le_mul (by omega) (by omega)
  omega
theorem st0 (k : Nat) {x y : Int} (v : Vd x y) : ∃ (a o : Kd) (l : Nat) (x1 y1 : Int), (sR 0).den (DR k) (startS 11 [.ref 0]) (PT x y []) = .nx [.val (.ref 0), .val a.w, .val o.w, .val (.int l), .non, .non, .non, .non, .non, .non, .non] (PT x1 y1 []) ∧ Q0 a o l ∧ Vd x1 y1 := by
  have d := dr (k + 24)
  obtain ⟨a, x1, y1, e1, h1, l1, v1⟩ := d.kind 3 [] (by omega) v
  obtain ⟨o, x2, y2, e2, h2, l2, v2⟩ := d.kind 1 [] (by omega) v1
  obtain ⟨i, x3, y3, e3, i0, i3, v3⟩ := d.draw 3 [] v2 (by omega) (by omega)
  obtain ⟨l, rfl⟩ : ∃ l : Nat, i = l := ⟨i.toNat, by omega⟩
  have e1 : pg.T (k + 30) 39 [.ref 0, .int 3] (PT x y []) = .ok a.w (PT x1 y1 []) := e1
  have e2 : pg.T (k + 30) 39 [.ref 0, .int 1] (PT x1 y1 []) = .ok o.w (PT x2 y2 []) := e2
  have e3 : pg.T (k + 30) 31 [.ref 0, .int 3] (PT x2 y2 []) = .ok (.int l) (PT x3 y3 []) := e3
  refine ⟨a, o, l, x3, y3, ?_, ⟨h1, l1, h2, l2, by omega⟩, v3⟩
  simp [sR, nth, b43, e1, e2, e3, isW, Df.run, Ss.den, S.den, E.den, Es.den, Es.bo, Es.bt, Eo.den, Eo.tst, E.tst, It.den, R.bind, R.out, R.opt, startS, slotV, slotP, nwN, nwB, nwI, nwS, nwT, nwL, nwE, nwR, Kd.now, cmpW, intsW, bltW, on1, on2, ifB, Tg.den, Tgs.den, tgo, binW, addW, intW, absW, lenW, truW, tyW, isTy, E.give, E.fresh, W.isNon, lineN_small, cstV, mulW]
theorem st12 (k : Nat) {a o : Kd} {l : Nat} (q : Q0 a o l) {x y : Int} (v : Vd x y) : ∃ (x1 y1 : Int), Ss.den (DR k) (.cons (sR 1) (.cons (sR 2) .nil)) [.val (.ref 0), .val a.w, .val o.w, .val (.int l), .non, .non, .non, .non, .non, .non, .non] (PT x y []) =
    .nx [.val (.ref 0), .val a.w, .val o.w, .val (.int l), .val (a.put l o).w, .non, .non, .non, .non, .non, .non] (PT x1 y1 []) ∧ Vd x1 y1 := by
  obtain ⟨c1, c2, c3⟩ := q.cnt
  have a6 : a.lw 6 = true := Kd.lw_mono (by omega) q.al
  have o6 : o.lw 6 = true := Kd.lw_mono (by omega) q.ol
  have ad := q.ad
  have od := q.od
  have pd := Kd.put_deep l o a
  have ps := Kd.put_signs l o a
  obtain ⟨p1, _⟩ := pk (h := PT x y []) k (a := a) (o := o) (l := l) (by omega) (by omega) a6 q.od o6 (by have := q.l2; omega) (by omega)
  obtain ⟨x1, y1, e1, v1⟩ := kr (k + 9) (a := a) (t := []) (by omega) (by omega) a6 v
  obtain ⟨x2, y2, e2, v2⟩ := kr (k + 9) (a := a.put l o) (t := []) (by omega) (by omega) (Kd.put_lw 6 l o o6 a a6) v1
  obtain ⟨x3, y3, e3, v3⟩ := kr (k + 9) (a := o) (t := []) (by omega) (by omega) o6 v2
  have e1 : pg.T (k + 30) 42 [.ref 0, a.w] (PT x y []) = .ok (.bl true) (PT x1 y1 []) := e1
  have e2 : pg.T (k + 30) 42 [.ref 0, (a.put l o).w] (PT x1 y1 []) = .ok (.bl true) (PT x2 y2 []) := e2
  have e3 : pg.T (k + 30) 42 [.ref 0, o.w] (PT x2 y2 []) = .ok (.bl true) (PT x3 y3 []) := e3
  refine ⟨x3, y3, ?_, v3⟩
  simp [sR, nth, b43, p1, e1, e2, e3, isW, Df.run, Ss.den, S.den, E.den, Es.den, Es.bo, Es.bt, Eo.den, Eo.tst, E.tst, It.den, R.bind, R.out, R.opt, startS, slotV, slotP, nwN, nwB, nwI, nwS, nwT, nwL, nwE, nwR, Kd.now, cmpW, intsW, bltW, on1, on2, ifB, Tg.den, Tgs.den, tgo, binW, addW, intW, absW, lenW, truW, tyW, isTy, E.give, E.fresh, W.isNon, lineN_small, cstV, mulW]
theorem st3 (k : Nat) {a o : Kd} {l : Nat} (q : Q0 a o l) {s5 s6 s7 s8 s9 s10 : Sl} : (sR 3).den (DR k) [.val (.ref 0), .val a.w, .val o.w, .val (.int l), .val (a.put l o).w, s5, s6, s7, s8, s9, s10] h = .nx [.val (.ref 0), .val a.w, .val o.w, .val (.int l), .val (a.put l o).w, s5, s6, s7, s8, s9, s10] h := by
  obtain ⟨c1, c2, c3⟩ := q.cnt
  have a6 : a.lw 6 = true := Kd.lw_mono (by omega) q.al
  have o6 : o.lw 6 = true := Kd.lw_mono (by omega) q.ol
  have ad := q.ad
  have od := q.od
  have pd := Kd.put_deep l o a
  obtain ⟨p1, p2⟩ := pk (h := h) k (a := a) (o := o) (l := l) (by omega) (by omega) a6 q.od o6 (by have := q.l2; omega) (by omega)
  have e := Kd.eq (a.put l o) (a.put l o) (.inl (by omega))
  rw [decide_eq_true rfl] at e
  have par : pg.par 24 = (["kind", "letter", "other"] : List Str) := rfl
  have k1 : (("letter" : Str) == "other") = false ∧ (("kind" : Str) == "other") = false ∧ (("kind" : Str) == "letter") = false := by decide +kernel
  simp [sR, nth, b43, p1, p2, e, par, kwPut, kwAll, Ks.den, List.lookup, k1, isW, Df.run, Ss.den, S.den, E.den, Es.den, Es.bo, Es.bt, Eo.den, Eo.tst, E.tst, It.den, R.bind, R.out, R.opt, startS, slotV, slotP, nwN, nwB, nwI, nwS, nwT, nwL, nwE, nwR, Kd.now, cmpW, intsW, bltW, on1, on2, ifB, Tg.den, Tgs.den, tgo, binW, addW, intW, absW, lenW, truW, tyW, isTy, E.give, E.fresh, W.isNon, lineN_small, cstV, mulW]
theorem st4 (k : Nat) {a o : Kd} {l : Nat} (q : Q0 a o l) {s5 s6 s7 s8 s9 s10 : Sl} : (sR 4).den (DR k) [.val (.ref 0), .val a.w, .val o.w, .val (.int l), .val (a.put l o).w, s5, s6, s7, s8, s9, s10] h = .nx [.val (.ref 0), .val a.w, .val o.w, .val (.int l), .val (a.put l o).w, s5, s6, s7, s8, s9, s10] h := by
  obtain ⟨c1, c2, c3⟩ := q.cnt
  have a6 : a.lw 6 = true := Kd.lw_mono (by omega) q.al
  have ad := q.ad
  have l2 := q.l2
  have p1 := (pk (h := h) k (a := a) (o := .ltr l) (l := l) (by omega) (by omega) a6 (by simp [Kd.deep]) (decide_eq_true (by omega)) (by omega) (by simp [Kd.signs]; omega)).1
  rw [Kd.put_self] at p1
  simp only [Kd.w.eq_1] at p1
  have p3 : pg.T (k + 30) 23 [a.w] h = .ok (.lst ((sl a).map W.int)) h := t23 (k := k + 22) ⟨by omega, by omega, a6⟩
  have e := Kd.eq a a (.inl (by omega))
  rw [decide_eq_true rfl] at e
  have ii := in_ints l (sl a)
  have i2 : decide ((l : Int) ∈ sl a) = decide (l ∈ a.lets) := decide_eq_decide.mpr (sl_in l)
  rw [i2] at ii
  by_cases hm : l ∈ a.lets
  · rw [decide_eq_true hm] at ii
    simp [sR, nth, b43, p1, p3, e, ii, l2_, isW, Df.run, Ss.den, S.den, E.den, Es.den, Es.bo, Es.bt, Eo.den, Eo.tst, E.tst, It.den, R.bind, R.out, R.opt, startS, slotV, slotP, nwN, nwB, nwI, nwS, nwT, nwL, nwE, nwR, Kd.now, cmpW, intsW, bltW, on1, on2, ifB, Tg.den, Tgs.den, tgo, binW, addW, intW, absW, lenW, truW, tyW, isTy, E.give, E.fresh, W.isNon, lineN_small, cstV, mulW]
  · rw [decide_eq_false hm] at ii
    have pn := Kd.put_not l o a hm
    rw [pn]
    simp [sR, nth, b43, p1, p3, e, ii, l2_, isW, Df.run, Ss.den, S.den, E.den, Es.den, Es.bo, Es.bt, Eo.den, Eo.tst, E.tst, It.den, R.bind, R.out, R.opt, startS, slotV, slotP, nwN, nwB, nwI, nwS, nwT, nwL, nwE, nwR, Kd.now, cmpW, intsW, bltW, on1, on2, ifB, Tg.den, Tgs.den, tgo, binW, addW, intW, absW, lenW, truW, tyW, isTy, E.give, E.fresh, W.isNon, lineN_small, cstV, mulW]
theorem st5 (k : Nat) {a o : Kd} {l : Nat} {x y : Int} (v : Vd x y) {s4 s7 s8 s9 s10 : Sl} (n4 : ∀ ws, s4 ≠ .own ws) : ∃ (m : Kd) (x1 y1 : Int), (sR 5).den (DR k) [.val (.ref 0), .val a.w, .val o.w, .val (.int l), s4, .non, .non, s7, s8, s9, s10] (PT x y []) = .nx [.val (.ref 0), .val a.w, .val o.w, .val (.int l), s4, .val m.w, .val (.int ((l + 1) % 3 : Nat)), s7, s8, s9, s10] (PT x1 y1 []) ∧
    m.deep ≤ 2 ∧ m.lw 2 = true ∧ Vd x1 y1 := by
  obtain ⟨m, x1, y1, e1, h1, l1, v1⟩ := (dr (k + 24)).kind 1 [] (by omega) v
  have e1 : pg.T (k + 30) 39 [.ref 0, .int 1] (PT x y []) = .ok m.w (PT x1 y1 []) := e1
  refine ⟨m, x1, y1, ?_, h1, l1, v1⟩
  simp [sR, nth, b43, e1, isW, Df.run, Ss.den, S.den, E.den, Es.den, Es.bo, Es.bt, Eo.den, Eo.tst, E.tst, It.den, R.bind, R.out, R.opt, startS, slotV, slotP, nwN, nwB, nwI, nwS, nwT, nwL, nwE, nwR, Kd.now, cmpW, intsW, bltW, on1, on2, ifB, Tg.den, Tgs.den, tgo, binW, addW, intW, absW, lenW, truW, tyW, isTy, E.give, E.fresh, W.isNon, lineN_small, cstV, mulW]
theorem st6 (k : Nat) {a o m : Kd} {l : Nat} (q : Q0 a o l) (md : m.deep ≤ 2) (ml : m.lw 2 = true) {s4 s7 s8 s9 s10 : Sl} : (sR 6).den (DR k) [.val (.ref 0), .val a.w, .val o.w, .val (.int l), s4, .val m.w, .val (.int ((l + 1) % 3 : Nat)), s7, s8, s9, s10] h = .nx [.val (.ref 0), .val a.w, .val o.w, .val (.int l), s4, .val m.w, .val (.int ((l + 1) % 3 : Nat)), s7, s8, s9, s10] h := by
  have qm : Q0 a m l := ⟨q.ad, q.al, md, ml, q.l2⟩
  obtain ⟨c1, c2, c3⟩ := qm.cnt
  have a6 : a.lw 6 = true := Kd.lw_mono (by omega) q.al
  have m6 : m.lw 6 = true := Kd.lw_mono (by omega) ml
  have ad := q.ad
  have l2 := q.l2
  have pd := Kd.put_deep l m a
  have ps := Kd.put_signs l m a
  obtain ⟨p1, p2⟩ := pk (h := h) k (a := a) (o := m) (l := l) (by omega) (by omega) a6 md m6 (by omega) (by omega)
  obtain ⟨p3, p4⟩ := pk (h := h) k (a := a.put l m) (o := .cnt) (l := (l + 1) % 3) (by omega) (by omega) (Kd.put_lw 6 l m m6 a a6) (by simp [Kd.deep]) rfl (by omega) (by simp [Kd.signs]; omega)
  simp only [Kd.w.eq_2] at p3 p4
  have pd2 := Kd.put_deep ((l + 1) % 3) .cnt (a.put l m)
  have e := Kd.eq ((a.put l m).put ((l + 1) % 3) .cnt) ((a.put l m).put ((l + 1) % 3) .cnt) (.inl (by simp only [Kd.deep] at pd2; omega))
  rw [decide_eq_true rfl] at e
  obtain ⟨b, hb⟩ : ∃ b : Kd, b = (a.put l m).put ((l + 1) % 3) .cnt := ⟨_, rfl⟩
  rw [← hb] at p3 p4 e
  obtain ⟨cc, hcc⟩ : ∃ b : Kd, b = a.put l m := ⟨_, rfl⟩
  rw [← hcc] at p1 p2 p3 p4
  obtain ⟨li, hli⟩ : ∃ z : Int, z = (((l + 1) % 3 : Nat) : Int) := ⟨_, rfl⟩
  rw [← hli] at p3 p4 ⊢
  clear hli hcc hb pd2 ps pd
  simp [sR, nth, b43, p1, p2, p3, p4, e, l1_, isW, Df.run, Ss.den, S.den, E.den, Es.den, Es.bo, Es.bt, Eo.den, Eo.tst, E.tst, It.den, R.bind, R.out, R.opt, startS, slotV, slotP, nwN, nwB, nwI, nwS, nwT, nwL, nwE, nwR, Kd.now, cmpW, intsW, bltW, on1, on2, ifB, Tg.den, Tgs.den, tgo, binW, addW, intW, absW, lenW, truW, tyW, isTy, E.give, E.fresh, W.isNon, lineN_small, cstV, mulW]
theorem st7 (k : Nat) {a o : Kd} {x y : Int} (v : Vd x y) {s3 s4 s5 s6 : Sl} (n3 : ∀ ws, s3 ≠ .own ws) : ∃ (u : Tm) (x1 y1 : Int), (sR 7).den (DR k) [.val (.ref 0), .val a.w, .val o.w, s3, s4, s5, s6, .non, .non, .non, .non] (PT x y []) = .nx [.val (.ref 0), .val a.w, .val o.w, s3, s4, s5, s6, .val (.lst u.ws), .non, .non, .non] (PT x1 y1 []) ∧
    u.lim 100 9 3 2 = true ∧ u.ws.length ≤ 209 ∧ Vd x1 y1 := by
  have d := dr (k + 24)
  obtain ⟨K, x1, y1, e1, h1, l1, v1⟩ := d.kind 2 [] (by omega) v
  obtain ⟨A, x2, y2, e2, h2, l2, v2⟩ := d.kind 1 [] (by omega) v1
  have m := made_all 8 (k + 7) 2 3 K (A :: [.ltr 0, .ltr 1]) x2 y2 [] (by omega) h1 (by omega) (by omega) ⟨fun B hB => by
    rcases List.mem_cons.mp hB with rfl | hB
    · exact ⟨by omega, l2⟩
    · rcases List.mem_cons.mp hB with rfl | hB
      · exact ⟨by simp [Kd.deep], rfl⟩
      · have e := List.mem_singleton.mp hB
        subst e
        exact ⟨by simp [Kd.deep], rfl⟩, by simp, by simp⟩ (by simp) l1 v2
  obtain ⟨u, x3, y3, e3, z, v3⟩ := m
  have e1 : pg.T (k + 30) 39 [.ref 0, .int 2] (PT x y []) = .ok K.w (PT x1 y1 []) := e1
  have e2 : pg.T (k + 30) 39 [.ref 0, .int 1] (PT x1 y1 []) = .ok A.w (PT x2 y2 []) := e2
  have e3 : pg.T (k + 30) 41 [.ref 0, K.w, .lst (A.w :: [.tup [.str "letter", .int 0], .tup [.str "letter", .int 1]]), .int 3] (PT x2 y2 []) = .ok (.lst u.ws) (PT x3 y3 []) := e3
  refine ⟨u, x3, y3, ?_, z.lim, ?_, v3⟩
  · simp [sR, nth, b43, e1, e2, e3, l2_, l3_, isW, Df.run, Ss.den, S.den, E.den, Es.den, Es.bo, Es.bt, Eo.den, Eo.tst, E.tst, It.den, R.bind, R.out, R.opt, startS, slotV, slotP, nwN, nwB, nwI, nwS, nwT, nwL, nwE, nwR, Kd.now, cmpW, intsW, bltW, on1, on2, ifB, Tg.den, Tgs.den, tgo, binW, addW, intW, absW, lenW, truW, tyW, isTy, E.give, E.fresh, W.isNon, lineN_small, cstV, mulW]
  · have := z.len
    have e : M (Int.toNat 3) 2 = 209 := by simp [M]
    omega
theorem dbody (k : Nat) {l : Nat} {o : Kd} {w : W} {s0 s1 s4 s5 s6 s7 s10 : Sl} {acc : List W} (n : Nd w) (ha : acc.length ≤ 900) : (forB (sR 9)).den (DR k) [s0, s1, .val o.w, .val (.int l), s4, s5, s6, s7, .own acc, .val w, s10] h =
    .nx [s0, s1, .val o.w, .val (.int l), s4, s5, s6, s7, .own (acc ++ [np l o w]), .val w, s10] h := by
  have sl : acc.length < sizeLine := sl_small (by omega)
  have l4 : lineN 4 = true := lineN_small (by omega)
  cases n with
  | @kd s A hk hd hA =>
    rw [np_kd hk (by omega)]
    have e : pg.T (k + 30) 38 [A.w, .int l, o.w] h = .ok (A.put l o).w h := lput (k := k + 20) l o 10 A h (by omega) (by omega)
    have hk' := hk
    unfold isKw at hk'
    simp [sR, nth, forB, unfrz, b43, hk', e, l2_, l4, sl, inW, inD, W.dat, W.dats, PyData.depth, PyData.depthAll, eqvS, eqvN, isW, Df.run, Ss.den, S.den, E.den, Es.den, Es.bo, Es.bt, Eo.den, Eo.tst, E.tst, It.den, R.bind, R.out, R.opt, startS, slotV, slotP, W.now, cmpW, intsW, idxW, L2.atI, L2.ixN, bltW, on1, on2, ifB, Tg.den, Tgs.den, tgo, binW, addW, intW, absW, lenW, truW, tyW, isTy, E.give, E.fresh, W.isNon, lineN_small, cstV, mulW]
  | @num s i hs =>
    have z : isKw s = false := by rcases hs with ⟨rfl, _⟩ | ⟨rfl, _⟩; exact kw_num.1; exact kw_num.2
    rw [np_num z]
    have z' := z
    unfold isKw at z'
    simp [sR, nth, forB, unfrz, b43, z', l2_, l4, sl, inW, inD, W.dat, W.dats, PyData.depth, PyData.depthAll, eqvS, eqvN, isW, Df.run, Ss.den, S.den, E.den, Es.den, Es.bo, Es.bt, Eo.den, Eo.tst, E.tst, It.den, R.bind, R.out, R.opt, startS, slotV, slotP, W.now, cmpW, intsW, idxW, L2.atI, L2.ixN, bltW, on1, on2, ifB, Tg.den, Tgs.den, tgo, binW, addW, intW, absW, lenW, truW, tyW, isTy, E.give, E.fresh, W.isNon, lineN_small, cstV, mulW]
  | @al s ha' =>
    rw [np_al]
    have z' := al_kw ha'
    unfold isKw at z'
    simp [sR, nth, forB, unfrz, b43, z', l2_, l4, sl, inW, inD, W.dat, W.dats, PyData.depth, PyData.depthAll, eqvS, eqvN, isW, Df.run, Ss.den, S.den, E.den, Es.den, Es.bo, Es.bt, Eo.den, Eo.tst, E.tst, It.den, R.bind, R.out, R.opt, startS, slotV, slotP, W.now, cmpW, intsW, idxW, L2.atI, L2.ixN, bltW, on1, on2, ifB, Tg.den, Tgs.den, tgo, binW, addW, intW, absW, lenW, truW, tyW, isTy, E.give, E.fresh, W.isNon, lineN_small, cstV, mulW]
theorem dloop (k : Nat) {l : Nat} {o : Kd} {s0 s1 s4 s5 s6 s7 s10 : Sl} : ∀ (ws acc : List W) (x : Sl), (∀ w ∈ ws, Nd w) → acc.length + ws.length ≤ 900 → ∃ y, forGo (fun w σ h => (forT (sR 9)).den (DR k) w σ h) (fun σ h => (forB (sR 9)).den (DR k) σ h) ws [s0, s1, .val o.w, .val (.int l), s4, s5, s6, s7, .own acc, x, s10] h =
    .nx [s0, s1, .val o.w, .val (.int l), s4, s5, s6, s7, .own (acc ++ ws.map (np l o)), y, s10] h
  | [], acc, x, _, _ => ⟨x, by simp [forGo]⟩
  | w :: ws, acc, x, q, hl => by
    simp only [List.length_cons] at hl
    obtain ⟨y, e⟩ := dloop k (l := l) (o := o) (s0 := s0) (s1 := s1) (s4 := s4) (s5 := s5) (s6 := s6) (s7 := s7) (s10 := s10) ws (acc ++ [np l o w]) (.val w) (fun z hz => q z (List.mem_cons_of_mem _ hz)) (by simp only [List.length_append, List.length_cons, List.length_nil]; omega)
    refine ⟨y, ?_⟩
    have put : (forT (sR 9)).den (DR k) w [s0, s1, .val o.w, .val (.int l), s4, s5, s6, s7, .own acc, x, s10] h = .ok [s0, s1, .val o.w, .val (.int l), s4, s5, s6, s7, .own acc, .val w, s10] h := rfl
    have b := dbody (h := h) k (l := l) (o := o) (s0 := s0) (s1 := s1) (s4 := s4) (s5 := s5) (s6 := s6) (s7 := s7) (s10 := s10) (acc := acc) (q w List.mem_cons_self) (by omega)
    unfold forGo
    simp only [put, b]
    rw [e]
    simp
theorem last (k : Nat) {a o : Kd} {l : Nat} (q : Q0 a o l) {u : Tm} (hu : u.lim 100 9 3 2 = true) (hz : u.ws.length ≤ 209) {s4 s5 s6 : Sl} : Ss.den (DR k) (.cons (sR 8) (.cons (sR 9) (.cons (sR 10) (.cons (sR 11) (.cons (sR 12) .nil))))) [.val (.ref 0), .val a.w, .val o.w, .val (.int l), s4, s5, s6, .val (.lst u.ws), .non, .non, .non] h = .rt (.bl true) h := by
  have nds : ∀ w ∈ u.ws, Nd w := fun w hw => u.nodes hu w hw
  obtain ⟨y, lp⟩ := dloop (h := h) k (l := l) (o := o) (s0 := .val (.ref 0)) (s1 := .val a.w) (s4 := s4) (s5 := s5) (s6 := s6) (s7 := .val (.lst u.ws)) (s10 := .non) u.ws [] .non nds (by simp; omega)
  have l2 := q.l2
  have s8 : (sR 8).den (DR k) [.val (.ref 0), .val a.w, .val o.w, .val (.int l), s4, s5, s6, .val (.lst u.ws), .non, .non, .non] h = .nx [.val (.ref 0), .val a.w, .val o.w, .val (.int l), s4, s5, s6, .val (.lst u.ws), .own [], .non, .non] h := by
    simp [sR, nth, b43, l0_, isW, Df.run, Ss.den, S.den, E.den, Es.den, Es.bo, Es.bt, Eo.den, Eo.tst, E.tst, It.den, R.bind, R.out, R.opt, startS, slotV, slotP, nwN, nwB, nwI, nwS, nwT, nwL, nwE, nwR, Kd.now, cmpW, intsW, bltW, on1, on2, ifB, Tg.den, Tgs.den, tgo, binW, addW, intW, absW, lenW, truW, tyW, isTy, E.give, E.fresh, W.isNon, lineN_small, cstV, mulW]
  have s9 : (sR 9).den (DR k) [.val (.ref 0), .val a.w, .val o.w, .val (.int l), s4, s5, s6, .val (.lst u.ws), .own [], .non, .non] h = .nx [.val (.ref 0), .val a.w, .val o.w, .val (.int l), s4, s5, s6, .val (.lst u.ws), .own (u.ws.map (np l o)), y, .non] h := lp
  have r1 : Rep 7 500000 (.lst u.ws) := (Rep.lst (D := 6) (C := 2000) fun w hw => (nds w hw).rep (by omega) (by omega) (by omega) (by omega)).mono (by omega) (by omega)
  have r2 : Rep 7 500000 (.lst (u.ws.map (np l o))) := (Rep.lst (D := 6) (C := 2000) fun w hw => by
    obtain ⟨x, hx, rfl⟩ := List.mem_map.mp hw
    exact (np_node (nds x hx) q.od q.ol).rep (by omega) (by omega) (by omega) (by omega)).mono (by omega) (by rw [List.length_map]; omega)
  have r3 : Rep 8 1100000 (.lst [.lst (u.ws.map (np l o)), .lst (u.ws.map (np l o))]) := (Rep.lst (D := 7) (C := 500000) fun w hw => Tm.mem_cons r2 (Tm.mem_cons r2 (fun _ h => by cases h)) w hw).mono (by omega) (by simp)
  obtain ⟨t1, t1e⟩ := r1.txt (by omega) (by omega)
  obtain ⟨t3, t3e⟩ := r3.txt (by omega) (by omega)
  have eq := r1.eq (by omega)
  have p1 : ∀ {w : W}, w = .lst u.ws ∨ w = .tup u.ws → pg.T (k + 30) 29 [w, .int l, o.w] h = .ok (.lst (u.ws.map (np l o))) h := fun hw => t29 (k + 9) hw hu (by omega) (by omega) q.od q.ol
  have p5 : pg.T (k + 30) 29 [.lst u.ws, .int 5, o.w] h = .ok (.lst u.ws) h := by
    have e : pg.T (k + 30) 29 [.lst u.ws, .int 5, o.w] h = .ok (.lst (u.ws.map (np 5 o))) h := t29 (k + 9) (l := 5) (.inl rfl) hu (by omega) (by omega) q.od q.ol
    rw [e]
    congr 2
    have : ∀ ws : List W, (∀ w ∈ ws, Nd w) → ws.map (np 5 o) = ws := fun ws => by
      induction ws with
      | nil => intro _; rfl
      | cons w ws ih => intro n; rw [List.map_cons, np_five (n w List.mem_cons_self), ih fun x hx => n x (List.mem_cons_of_mem _ hx)]
    exact this _ nds
  have q1 := p1 (.inl rfl)
  have q2 := p1 (.inr rfl)
  have s10 : (sR 10).den (DR k) [.val (.ref 0), .val a.w, .val o.w, .val (.int l), s4, s5, s6, .val (.lst u.ws), .own (u.ws.map (np l o)), y, .non] h = .nx [.val (.ref 0), .val a.w, .val o.w, .val (.int l), s4, s5, s6, .val (.lst u.ws), .own (u.ws.map (np l o)), y, .val (.str t1)] h := by
    simp [sR, nth, b43, t1e, isW, Df.run, Ss.den, S.den, E.den, Es.den, Es.bo, Es.bt, Eo.den, Eo.tst, E.tst, It.den, R.bind, R.out, R.opt, startS, slotV, slotP, nwN, nwB, nwI, nwS, nwT, nwL, nwE, nwR, Kd.now, cmpW, intsW, bltW, on1, on2, ifB, Tg.den, Tgs.den, tgo, binW, addW, intW, absW, lenW, truW, tyW, isTy, E.give, E.fresh, W.isNon, lineN_small, cstV, mulW]
  have par : pg.par 29 = (["term", "letter", "kind"] : List Str) := rfl
  have k1 : (("letter" : Str) == "kind") = false ∧ (("term" : Str) == "kind") = false ∧ (("term" : Str) == "letter") = false := by decide +kernel
  have s11 : (sR 11).den (DR k) [.val (.ref 0), .val a.w, .val o.w, .val (.int l), s4, s5, s6, .val (.lst u.ws), .own (u.ws.map (np l o)), y, .val (.str t1)] h = .nx [.val (.ref 0), .val a.w, .val o.w, .val (.int l), s4, s5, s6, .val (.lst u.ws), .val (.lst (u.ws.map (np l o))), y, .val (.str t1)] h := by
    simp [sR, nth, b43, frzS, q1, q2, par, kwPut, kwAll, Ks.den, List.lookup, k1, tupleW, t3e, eqS, l2_, isW, Df.run, Ss.den, S.den, E.den, Es.den, Es.bo, Es.bt, Eo.den, Eo.tst, E.tst, It.den, R.bind, R.out, R.opt, startS, slotV, slotP, nwN, nwB, nwI, nwS, nwT, nwL, nwE, nwR, Kd.now, cmpW, intsW, bltW, on1, on2, ifB, Tg.den, Tgs.den, tgo, binW, addW, intW, absW, lenW, truW, tyW, isTy, E.give, E.fresh, W.isNon, lineN_small, cstV, mulW]
  rw [seq s8, seq s9, seq s10, seq s11]
  simp [sR, nth, b43, p5, eq, t1e, eqS, isW, Df.run, Ss.den, S.den, E.den, Es.den, Es.bo, Es.bt, Eo.den, Eo.tst, E.tst, It.den, R.bind, R.out, R.opt, startS, slotV, slotP, nwN, nwB, nwI, nwS, nwT, nwL, nwE, nwR, Kd.now, cmpW, intsW, bltW, on1, on2, ifB, Tg.den, Tgs.den, tgo, binW, addW, intW, absW, lenW, truW, tyW, isTy, E.give, E.fresh, W.isNon, lineN_small, cstV, mulW]
theorem seq2 {D : Dn} {s1 s2 : S} {r : Ss} {σ σ1 : Sls} {h h1 : Obs} (e : Ss.den D (.cons s1 (.cons s2 .nil)) σ h = .nx σ1 h1) : Ss.den D (.cons s1 (.cons s2 r)) σ h = Ss.den D r σ1 h1 := by
  simp only [Ss.den] at e ⊢
  cases q : s1.den D σ h with
  | nx σ2 h2 =>
    rw [q] at e
    simp only at e ⊢
    cases q2 : s2.den D σ2 h2 with
    | nx σ3 h3 =>
      rw [q2] at e
      cases e
      rfl
    | _ => rw [q2] at e; cases e
  | _ => rw [q] at e; cases e
theorem t43 (k : Nat) {x y : Int} (v : Vd x y) : ∃ h, pg.T (k + 31) 43 [.ref 0] (PT x y []) = .ok (.bl true) h := by
  obtain ⟨a, o, l, x1, y1, e0, q, v1⟩ := st0 k v
  obtain ⟨x2, y2, e12, v2⟩ := st12 k q v1
  have e3 := st3 (h := PT x2 y2 []) k q (s5 := .non) (s6 := .non) (s7 := .non) (s8 := .non) (s9 := .non) (s10 := .non)
  have e4 := st4 (h := PT x2 y2 []) k q (s5 := .non) (s6 := .non) (s7 := .non) (s8 := .non) (s9 := .non) (s10 := .non)
  obtain ⟨m, x3, y3, e5, md, ml, v3⟩ := st5 k (a := a) (o := o) (l := l) v2 (s4 := .val (a.put l o).w) (s7 := .non) (s8 := .non) (s9 := .non) (s10 := .non) (fun _ z => by cases z)
  have e6 := st6 (h := PT x3 y3 []) k q md ml (s4 := .val (a.put l o).w) (s7 := .non) (s8 := .non) (s9 := .non) (s10 := .non)
  obtain ⟨u, x4, y4, e7, hu, hz, v4⟩ := st7 k (a := a) (o := o) v3 (s3 := .val (.int l)) (s4 := .val (a.put l o).w) (s5 := .val m.w) (s6 := .val (.int ((l + 1) % 3 : Nat))) (fun _ z => by cases z)
  have e8 := last (h := PT x4 y4 []) k q hu hz (s4 := .val (a.put l o).w) (s5 := .val m.w) (s6 := .val (.int ((l + 1) % 3 : Nat)))
  refine ⟨PT x4 y4 [], ?_⟩
  have run : pg.T (k + 31) 43 [.ref 0] (PT x y []) = (match Ss.den (DR k) (.cons (sR 0) (.cons (sR 1) (.cons (sR 2) (.cons (sR 3) (.cons (sR 4) (.cons (sR 5) (.cons (sR 6) (.cons (sR 7) (.cons (sR 8) (.cons (sR 9) (.cons (sR 10) (.cons (sR 11) (.cons (sR 12) .nil))))))))))))) (startS 11 [.ref 0]) (PT x y []) with
    | .nx _ h => .ok .non h
    | .rt w h => .ok w h
    | .exc x _ h => .exc x h
    | _ => .bad) := rfl
  rw [run, seq e0, seq2 e12, seq e3, seq e4, seq e5, seq e6, seq e7, e8]
theorem law_all (ns : List Int) (hn : ns.length ≤ 63) : ∃ h, pg.T 60 44 [.scr ns] [] = .ok (.bl true) h := by
  obtain ⟨a, b, e, v⟩ := t30 (k := 58) ns
  obtain ⟨h, e2⟩ := t43 28 v
  refine ⟨h, ?_⟩
  have run : pg.T 60 44 [.scr ns] [] = Df.run ⟨"law", ["_law_script"], 1, b44⟩ ⟨pg.T 59, pg.cst, pg.par⟩ [.scr ns] [] := rfl
  rw [run]
  have e : pg.T 59 30 [.scr ns, .int 0] [] = .ok (.ref 0) (PT a b []) := e
  have e2 : pg.T 59 43 [.ref 0] (PT a b []) = .ok (.bl true) h := e2
  simp [b44, e, e2, isW, Df.run, Ss.den, S.den, E.den, Es.den, Es.bo, Es.bt, Eo.den, Eo.tst, E.tst, It.den, R.bind, R.out, R.opt, startS, slotV, slotP, W.now, cmpW, intsW, idxW, L2.atI, L2.ixN, bltW, on1, on2, ifB, Tg.den, Tgs.den, tgo, binW, addW, intW, absW, lenW, truW, tyW, isTy, E.give, E.fresh, W.isNon, lineN_small, cstV, mulW]
end K13

set_option maxHeartbeats 0
namespace K13
open PySem PySem.Spec PyProof.Rows L2 Ev
abbrev fs_ : Nat → Option Str := fun (i : Nat) => (pg.defs[i]?).map Df.nm
section
variable {K : PySem.W.Frag} {h : Heap} {mg : Str → Option Value}
theorem un_0 : defBody (at_ "is_integer") = Ss.un b0 := by kernel_rfl
theorem sc_0 : FnScope (["value"] : List Str) (List.take 1 (["value"] : List Str)) (defScope (at_ "is_integer")) := ⟨by kernel_rfl, by kernel_rfl, by kernel_rfl, by decide +kernel, by kernel_rfl, by decide +kernel, by decide +kernel⟩
theorem ok_0 : Ss.okS ⟨(["value"] : List Str), fs_, kws_⟩ (defScope (at_ "is_integer")) b0 = true := by kernel_rfl
theorem bd_0 (kV doc pm : Value) (an : Option Addr) (cdv ct : Value) (us : List Value) (hl : us.length = (List.take 1 (["value"] : List Str)).length) : bindArgs (PySem.W.fnOf "is_integer" "is_integer" (defArgs (at_ "is_integer")) (defBody (at_ "is_integer")) (defScope (at_ "is_integer")) .none kV doc pm an cdv ct) ⟨us, []⟩ = pure ((List.take 1 (["value"] : List Str)).zip us) := match us, hl with | [_], _ => rfl
theorem kw_0 (kV doc pm : Value) (an : Option Addr) (cdv ct : Value) : KwOk kws_ 0 (PySem.W.fnOf "is_integer" "is_integer" (defArgs (at_ "is_integer")) (defBody (at_ "is_integer")) (defScope (at_ "is_integer")) .none kV doc pm an cdv ct) (List.take 1 (["value"] : List Str)) := by
  intro n ks hm us zs h1 h2
  simp only [kws_, List.mem_cons, List.not_mem_nil, or_false, Prod.mk.injEq] at hm
  omega
theorem df_0 (X : K.In h) (G : h.Ns mainGlobals mg) (c : He.SaysD fa_ fn_ K) : DefOk K mg fs_ kws_ 0 ⟨"is_integer", (["value"] : List Str), 1, b0⟩ := by
  obtain ⟨fd, F⟩ := c.def_ 0 (d := dtD ⟨"is_integer", (["value"] : List Str), 1, b0⟩ (at_ "is_integer")) rfl
  exact def_of (st := at_ "is_integer") F (He.glo_ok X G (c.fact 0 (f := .glo "is_integer") rfl)) un_0 sc_0 ok_0 (by decide) bd_0 kw_0
end
section
variable {K : PySem.W.Frag} {h : Heap} {mg : Str → Option Value}
theorem un_1 : defBody (at_ "is_count") = Ss.un b1 := by kernel_rfl
theorem sc_1 : FnScope (["value"] : List Str) (List.take 1 (["value"] : List Str)) (defScope (at_ "is_count")) := ⟨by kernel_rfl, by kernel_rfl, by kernel_rfl, by decide +kernel, by kernel_rfl, by decide +kernel, by decide +kernel⟩
theorem ok_1 : Ss.okS ⟨(["value"] : List Str), fs_, kws_⟩ (defScope (at_ "is_count")) b1 = true := by kernel_rfl
theorem bd_1 (kV doc pm : Value) (an : Option Addr) (cdv ct : Value) (us : List Value) (hl : us.length = (List.take 1 (["value"] : List Str)).length) : bindArgs (PySem.W.fnOf "is_count" "is_count" (defArgs (at_ "is_count")) (defBody (at_ "is_count")) (defScope (at_ "is_count")) .none kV doc pm an cdv ct) ⟨us, []⟩ = pure ((List.take 1 (["value"] : List Str)).zip us) := match us, hl with | [_], _ => rfl
theorem kw_1 (kV doc pm : Value) (an : Option Addr) (cdv ct : Value) : KwOk kws_ 1 (PySem.W.fnOf "is_count" "is_count" (defArgs (at_ "is_count")) (defBody (at_ "is_count")) (defScope (at_ "is_count")) .none kV doc pm an cdv ct) (List.take 1 (["value"] : List Str)) := by
  intro n ks hm us zs h1 h2
  simp only [kws_, List.mem_cons, List.not_mem_nil, or_false, Prod.mk.injEq] at hm
  omega
theorem df_1 (X : K.In h) (G : h.Ns mainGlobals mg) (c : He.SaysD fa_ fn_ K) : DefOk K mg fs_ kws_ 1 ⟨"is_count", (["value"] : List Str), 1, b1⟩ := by
  obtain ⟨fd, F⟩ := c.def_ 1 (d := dtD ⟨"is_count", (["value"] : List Str), 1, b1⟩ (at_ "is_count")) rfl
  exact def_of (st := at_ "is_count") F (He.glo_ok X G (c.fact 1 (f := .glo "is_count") rfl)) un_1 sc_1 ok_1 (by decide) bd_1 kw_1
end
section
variable {K : PySem.W.Frag} {h : Heap} {mg : Str → Option Value}
theorem un_2 : defBody (at_ "is_list") = Ss.un b2 := by kernel_rfl
theorem sc_2 : FnScope (["value"] : List Str) (List.take 1 (["value"] : List Str)) (defScope (at_ "is_list")) := ⟨by kernel_rfl, by kernel_rfl, by kernel_rfl, by decide +kernel, by kernel_rfl, by decide +kernel, by decide +kernel⟩
theorem ok_2 : Ss.okS ⟨(["value"] : List Str), fs_, kws_⟩ (defScope (at_ "is_list")) b2 = true := by kernel_rfl
theorem bd_2 (kV doc pm : Value) (an : Option Addr) (cdv ct : Value) (us : List Value) (hl : us.length = (List.take 1 (["value"] : List Str)).length) : bindArgs (PySem.W.fnOf "is_list" "is_list" (defArgs (at_ "is_list")) (defBody (at_ "is_list")) (defScope (at_ "is_list")) .none kV doc pm an cdv ct) ⟨us, []⟩ = pure ((List.take 1 (["value"] : List Str)).zip us) := match us, hl with | [_], _ => rfl
theorem kw_2 (kV doc pm : Value) (an : Option Addr) (cdv ct : Value) : KwOk kws_ 2 (PySem.W.fnOf "is_list" "is_list" (defArgs (at_ "is_list")) (defBody (at_ "is_list")) (defScope (at_ "is_list")) .none kV doc pm an cdv ct) (List.take 1 (["value"] : List Str)) := by
  intro n ks hm us zs h1 h2
  simp only [kws_, List.mem_cons, List.not_mem_nil, or_false, Prod.mk.injEq] at hm
  omega
theorem df_2 (X : K.In h) (G : h.Ns mainGlobals mg) (c : He.SaysD fa_ fn_ K) : DefOk K mg fs_ kws_ 2 ⟨"is_list", (["value"] : List Str), 1, b2⟩ := by
  obtain ⟨fd, F⟩ := c.def_ 2 (d := dtD ⟨"is_list", (["value"] : List Str), 1, b2⟩ (at_ "is_list")) rfl
  exact def_of (st := at_ "is_list") F (He.glo_ok X G (c.fact 2 (f := .glo "is_list") rfl)) un_2 sc_2 ok_2 (by decide) bd_2 kw_2
end
section
variable {K : PySem.W.Frag} {h : Heap} {mg : Str → Option Value}
theorem un_3 : defBody (at_ "want_at_most") = Ss.un b3 := by kernel_rfl
theorem sc_3 : FnScope (["what", "limit", "number"] : List Str) (List.take 3 (["what", "limit", "number"] : List Str)) (defScope (at_ "want_at_most")) := ⟨by kernel_rfl, by kernel_rfl, by kernel_rfl, by decide +kernel, by kernel_rfl, by decide +kernel, by decide +kernel⟩
theorem ok_3 : Ss.okS ⟨(["what", "limit", "number"] : List Str), fs_, kws_⟩ (defScope (at_ "want_at_most")) b3 = true := by kernel_rfl
theorem bd_3 (kV doc pm : Value) (an : Option Addr) (cdv ct : Value) (us : List Value) (hl : us.length = (List.take 3 (["what", "limit", "number"] : List Str)).length) : bindArgs (PySem.W.fnOf "want_at_most" "want_at_most" (defArgs (at_ "want_at_most")) (defBody (at_ "want_at_most")) (defScope (at_ "want_at_most")) .none kV doc pm an cdv ct) ⟨us, []⟩ = pure ((List.take 3 (["what", "limit", "number"] : List Str)).zip us) := match us, hl with | [_, _, _], _ => rfl
theorem kw_3 (kV doc pm : Value) (an : Option Addr) (cdv ct : Value) : KwOk kws_ 3 (PySem.W.fnOf "want_at_most" "want_at_most" (defArgs (at_ "want_at_most")) (defBody (at_ "want_at_most")) (defScope (at_ "want_at_most")) .none kV doc pm an cdv ct) (List.take 3 (["what", "limit", "number"] : List Str)) := by
  intro n ks hm us zs h1 h2
  simp only [kws_, List.mem_cons, List.not_mem_nil, or_false, Prod.mk.injEq] at hm
  omega
theorem df_3 (X : K.In h) (G : h.Ns mainGlobals mg) (c : He.SaysD fa_ fn_ K) : DefOk K mg fs_ kws_ 3 ⟨"want_at_most", (["what", "limit", "number"] : List Str), 3, b3⟩ := by
  obtain ⟨fd, F⟩ := c.def_ 3 (d := dtD ⟨"want_at_most", (["what", "limit", "number"] : List Str), 3, b3⟩ (at_ "want_at_most")) rfl
  exact def_of (st := at_ "want_at_most") F (He.glo_ok X G (c.fact 3 (f := .glo "want_at_most") rfl)) un_3 sc_3 ok_3 (by decide) bd_3 kw_3
end
section
variable {K : PySem.W.Frag} {h : Heap} {mg : Str → Option Value}
theorem un_4 : defBody (at_ "is_leaf") = Ss.un b4 := by kernel_rfl
theorem sc_4 : FnScope (["value"] : List Str) (List.take 1 (["value"] : List Str)) (defScope (at_ "is_leaf")) := ⟨by kernel_rfl, by kernel_rfl, by kernel_rfl, by decide +kernel, by kernel_rfl, by decide +kernel, by decide +kernel⟩
theorem ok_4 : Ss.okS ⟨(["value"] : List Str), fs_, kws_⟩ (defScope (at_ "is_leaf")) b4 = true := by kernel_rfl
theorem bd_4 (kV doc pm : Value) (an : Option Addr) (cdv ct : Value) (us : List Value) (hl : us.length = (List.take 1 (["value"] : List Str)).length) : bindArgs (PySem.W.fnOf "is_leaf" "is_leaf" (defArgs (at_ "is_leaf")) (defBody (at_ "is_leaf")) (defScope (at_ "is_leaf")) .none kV doc pm an cdv ct) ⟨us, []⟩ = pure ((List.take 1 (["value"] : List Str)).zip us) := match us, hl with | [_], _ => rfl
theorem kw_4 (kV doc pm : Value) (an : Option Addr) (cdv ct : Value) : KwOk kws_ 4 (PySem.W.fnOf "is_leaf" "is_leaf" (defArgs (at_ "is_leaf")) (defBody (at_ "is_leaf")) (defScope (at_ "is_leaf")) .none kV doc pm an cdv ct) (List.take 1 (["value"] : List Str)) := by
  intro n ks hm us zs h1 h2
  simp only [kws_, List.mem_cons, List.not_mem_nil, or_false, Prod.mk.injEq] at hm
  omega
theorem df_4 (X : K.In h) (G : h.Ns mainGlobals mg) (c : He.SaysD fa_ fn_ K) : DefOk K mg fs_ kws_ 4 ⟨"is_leaf", (["value"] : List Str), 1, b4⟩ := by
  obtain ⟨fd, F⟩ := c.def_ 4 (d := dtD ⟨"is_leaf", (["value"] : List Str), 1, b4⟩ (at_ "is_leaf")) rfl
  exact def_of (st := at_ "is_leaf") F (He.glo_ok X G (c.fact 4 (f := .glo "is_leaf") rfl)) un_4 sc_4 ok_4 (by decide) bd_4 kw_4
end
section
variable {K : PySem.W.Frag} {h : Heap} {mg : Str → Option Value}
theorem un_5 : defBody (at_ "is_letter_word") = Ss.un b5 := by kernel_rfl
theorem sc_5 : FnScope (["value"] : List Str) (List.take 1 (["value"] : List Str)) (defScope (at_ "is_letter_word")) := ⟨by kernel_rfl, by kernel_rfl, by kernel_rfl, by decide +kernel, by kernel_rfl, by decide +kernel, by decide +kernel⟩
theorem ok_5 : Ss.okS ⟨(["value"] : List Str), fs_, kws_⟩ (defScope (at_ "is_letter_word")) b5 = true := by kernel_rfl
theorem bd_5 (kV doc pm : Value) (an : Option Addr) (cdv ct : Value) (us : List Value) (hl : us.length = (List.take 1 (["value"] : List Str)).length) : bindArgs (PySem.W.fnOf "is_letter_word" "is_letter_word" (defArgs (at_ "is_letter_word")) (defBody (at_ "is_letter_word")) (defScope (at_ "is_letter_word")) .none kV doc pm an cdv ct) ⟨us, []⟩ = pure ((List.take 1 (["value"] : List Str)).zip us) := match us, hl with | [_], _ => rfl
theorem kw_5 (kV doc pm : Value) (an : Option Addr) (cdv ct : Value) : KwOk kws_ 5 (PySem.W.fnOf "is_letter_word" "is_letter_word" (defArgs (at_ "is_letter_word")) (defBody (at_ "is_letter_word")) (defScope (at_ "is_letter_word")) .none kV doc pm an cdv ct) (List.take 1 (["value"] : List Str)) := by
  intro n ks hm us zs h1 h2
  simp only [kws_, List.mem_cons, List.not_mem_nil, or_false, Prod.mk.injEq] at hm
  omega
theorem df_5 (X : K.In h) (G : h.Ns mainGlobals mg) (c : He.SaysD fa_ fn_ K) : DefOk K mg fs_ kws_ 5 ⟨"is_letter_word", (["value"] : List Str), 1, b5⟩ := by
  obtain ⟨fd, F⟩ := c.def_ 5 (d := dtD ⟨"is_letter_word", (["value"] : List Str), 1, b5⟩ (at_ "is_letter_word")) rfl
  exact def_of (st := at_ "is_letter_word") F (He.glo_ok X G (c.fact 5 (f := .glo "is_letter_word") rfl)) un_5 sc_5 ok_5 (by decide) bd_5 kw_5
end
section
variable {K : PySem.W.Frag} {h : Heap} {mg : Str → Option Value}
theorem un_6 : defBody (at_ "is_letter") = Ss.un b6 := by kernel_rfl
theorem sc_6 : FnScope (["value"] : List Str) (List.take 1 (["value"] : List Str)) (defScope (at_ "is_letter")) := ⟨by kernel_rfl, by kernel_rfl, by kernel_rfl, by decide +kernel, by kernel_rfl, by decide +kernel, by decide +kernel⟩
theorem ok_6 : Ss.okS ⟨(["value"] : List Str), fs_, kws_⟩ (defScope (at_ "is_letter")) b6 = true := by kernel_rfl
theorem bd_6 (kV doc pm : Value) (an : Option Addr) (cdv ct : Value) (us : List Value) (hl : us.length = (List.take 1 (["value"] : List Str)).length) : bindArgs (PySem.W.fnOf "is_letter" "is_letter" (defArgs (at_ "is_letter")) (defBody (at_ "is_letter")) (defScope (at_ "is_letter")) .none kV doc pm an cdv ct) ⟨us, []⟩ = pure ((List.take 1 (["value"] : List Str)).zip us) := match us, hl with | [_], _ => rfl
theorem kw_6 (kV doc pm : Value) (an : Option Addr) (cdv ct : Value) : KwOk kws_ 6 (PySem.W.fnOf "is_letter" "is_letter" (defArgs (at_ "is_letter")) (defBody (at_ "is_letter")) (defScope (at_ "is_letter")) .none kV doc pm an cdv ct) (List.take 1 (["value"] : List Str)) := by
  intro n ks hm us zs h1 h2
  simp only [kws_, List.mem_cons, List.not_mem_nil, or_false, Prod.mk.injEq] at hm
  omega
theorem df_6 (X : K.In h) (G : h.Ns mainGlobals mg) (c : He.SaysD fa_ fn_ K) : DefOk K mg fs_ kws_ 6 ⟨"is_letter", (["value"] : List Str), 1, b6⟩ := by
  obtain ⟨fd, F⟩ := c.def_ 6 (d := dtD ⟨"is_letter", (["value"] : List Str), 1, b6⟩ (at_ "is_letter")) rfl
  exact def_of (st := at_ "is_letter") F (He.glo_ok X G (c.fact 6 (f := .glo "is_letter") rfl)) un_6 sc_6 ok_6 (by decide) bd_6 kw_6
end
section
variable {K : PySem.W.Frag} {h : Heap} {mg : Str → Option Value}
theorem un_7 : defBody (at_ "is_branch") = Ss.un b7 := by kernel_rfl
theorem sc_7 : FnScope (["value"] : List Str) (List.take 1 (["value"] : List Str)) (defScope (at_ "is_branch")) := ⟨by kernel_rfl, by kernel_rfl, by kernel_rfl, by decide +kernel, by kernel_rfl, by decide +kernel, by decide +kernel⟩
theorem ok_7 : Ss.okS ⟨(["value"] : List Str), fs_, kws_⟩ (defScope (at_ "is_branch")) b7 = true := by kernel_rfl
theorem bd_7 (kV doc pm : Value) (an : Option Addr) (cdv ct : Value) (us : List Value) (hl : us.length = (List.take 1 (["value"] : List Str)).length) : bindArgs (PySem.W.fnOf "is_branch" "is_branch" (defArgs (at_ "is_branch")) (defBody (at_ "is_branch")) (defScope (at_ "is_branch")) .none kV doc pm an cdv ct) ⟨us, []⟩ = pure ((List.take 1 (["value"] : List Str)).zip us) := match us, hl with | [_], _ => rfl
theorem kw_7 (kV doc pm : Value) (an : Option Addr) (cdv ct : Value) : KwOk kws_ 7 (PySem.W.fnOf "is_branch" "is_branch" (defArgs (at_ "is_branch")) (defBody (at_ "is_branch")) (defScope (at_ "is_branch")) .none kV doc pm an cdv ct) (List.take 1 (["value"] : List Str)) := by
  intro n ks hm us zs h1 h2
  simp only [kws_, List.mem_cons, List.not_mem_nil, or_false, Prod.mk.injEq] at hm
  omega
theorem df_7 (X : K.In h) (G : h.Ns mainGlobals mg) (c : He.SaysD fa_ fn_ K) : DefOk K mg fs_ kws_ 7 ⟨"is_branch", (["value"] : List Str), 1, b7⟩ := by
  obtain ⟨fd, F⟩ := c.def_ 7 (d := dtD ⟨"is_branch", (["value"] : List Str), 1, b7⟩ (at_ "is_branch")) rfl
  exact def_of (st := at_ "is_branch") F (He.glo_ok X G (c.fact 7 (f := .glo "is_branch") rfl)) un_7 sc_7 ok_7 (by decide) bd_7 kw_7
end
section
variable {K : PySem.W.Frag} {h : Heap} {mg : Str → Option Value}
theorem un_8 : defBody (at_ "is_kind") = Ss.un b8 := by kernel_rfl
theorem sc_8 : FnScope (["value", "left", "signs", "one", "deep"] : List Str) (List.take 1 (["value", "left", "signs", "one", "deep"] : List Str)) (defScope (at_ "is_kind")) := ⟨by kernel_rfl, by kernel_rfl, by kernel_rfl, by decide +kernel, by kernel_rfl, by decide +kernel, by decide +kernel⟩
theorem ok_8 : Ss.okS ⟨(["value", "left", "signs", "one", "deep"] : List Str), fs_, kws_⟩ (defScope (at_ "is_kind")) b8 = true := by kernel_rfl
theorem bd_8 (kV doc pm : Value) (an : Option Addr) (cdv ct : Value) (us : List Value) (hl : us.length = (List.take 1 (["value", "left", "signs", "one", "deep"] : List Str)).length) : bindArgs (PySem.W.fnOf "is_kind" "is_kind" (defArgs (at_ "is_kind")) (defBody (at_ "is_kind")) (defScope (at_ "is_kind")) .none kV doc pm an cdv ct) ⟨us, []⟩ = pure ((List.take 1 (["value", "left", "signs", "one", "deep"] : List Str)).zip us) := match us, hl with | [_], _ => rfl
theorem kw_8 (kV doc pm : Value) (an : Option Addr) (cdv ct : Value) : KwOk kws_ 8 (PySem.W.fnOf "is_kind" "is_kind" (defArgs (at_ "is_kind")) (defBody (at_ "is_kind")) (defScope (at_ "is_kind")) .none kV doc pm an cdv ct) (List.take 1 (["value", "left", "signs", "one", "deep"] : List Str)) := by
  intro n ks hm us zs h1 h2
  simp only [kws_, List.mem_cons, List.not_mem_nil, or_false, Prod.mk.injEq] at hm
  omega
theorem df_8 (X : K.In h) (G : h.Ns mainGlobals mg) (c : He.SaysD fa_ fn_ K) : DefOk K mg fs_ kws_ 8 ⟨"is_kind", (["value", "left", "signs", "one", "deep"] : List Str), 1, b8⟩ := by
  obtain ⟨fd, F⟩ := c.def_ 8 (d := dtD ⟨"is_kind", (["value", "left", "signs", "one", "deep"] : List Str), 1, b8⟩ (at_ "is_kind")) rfl
  exact def_of (st := at_ "is_kind") F (He.glo_ok X G (c.fact 8 (f := .glo "is_kind") rfl)) un_8 sc_8 ok_8 (by decide) bd_8 kw_8
end
section
variable {K : PySem.W.Frag} {h : Heap} {mg : Str → Option Value}
theorem un_9 : defBody (at_ "want_kind") = Ss.un b9 := by kernel_rfl
theorem sc_9 : FnScope (["value"] : List Str) (List.take 1 (["value"] : List Str)) (defScope (at_ "want_kind")) := ⟨by kernel_rfl, by kernel_rfl, by kernel_rfl, by decide +kernel, by kernel_rfl, by decide +kernel, by decide +kernel⟩
theorem ok_9 : Ss.okS ⟨(["value"] : List Str), fs_, kws_⟩ (defScope (at_ "want_kind")) b9 = true := by kernel_rfl
theorem bd_9 (kV doc pm : Value) (an : Option Addr) (cdv ct : Value) (us : List Value) (hl : us.length = (List.take 1 (["value"] : List Str)).length) : bindArgs (PySem.W.fnOf "want_kind" "want_kind" (defArgs (at_ "want_kind")) (defBody (at_ "want_kind")) (defScope (at_ "want_kind")) .none kV doc pm an cdv ct) ⟨us, []⟩ = pure ((List.take 1 (["value"] : List Str)).zip us) := match us, hl with | [_], _ => rfl
theorem kw_9 (kV doc pm : Value) (an : Option Addr) (cdv ct : Value) : KwOk kws_ 9 (PySem.W.fnOf "want_kind" "want_kind" (defArgs (at_ "want_kind")) (defBody (at_ "want_kind")) (defScope (at_ "want_kind")) .none kV doc pm an cdv ct) (List.take 1 (["value"] : List Str)) := by
  intro n ks hm us zs h1 h2
  simp only [kws_, List.mem_cons, List.not_mem_nil, or_false, Prod.mk.injEq] at hm
  omega
theorem df_9 (X : K.In h) (G : h.Ns mainGlobals mg) (c : He.SaysD fa_ fn_ K) : DefOk K mg fs_ kws_ 9 ⟨"want_kind", (["value"] : List Str), 1, b9⟩ := by
  obtain ⟨fd, F⟩ := c.def_ 9 (d := dtD ⟨"want_kind", (["value"] : List Str), 1, b9⟩ (at_ "want_kind")) rfl
  exact def_of (st := at_ "want_kind") F (He.glo_ok X G (c.fact 9 (f := .glo "want_kind") rfl)) un_9 sc_9 ok_9 (by decide) bd_9 kw_9
end
section
variable {K : PySem.W.Frag} {h : Heap} {mg : Str → Option Value}
theorem un_10 : defBody (at_ "want_letter") = Ss.un b10 := by kernel_rfl
theorem sc_10 : FnScope (["value"] : List Str) (List.take 1 (["value"] : List Str)) (defScope (at_ "want_letter")) := ⟨by kernel_rfl, by kernel_rfl, by kernel_rfl, by decide +kernel, by kernel_rfl, by decide +kernel, by decide +kernel⟩
theorem ok_10 : Ss.okS ⟨(["value"] : List Str), fs_, kws_⟩ (defScope (at_ "want_letter")) b10 = true := by kernel_rfl
theorem bd_10 (kV doc pm : Value) (an : Option Addr) (cdv ct : Value) (us : List Value) (hl : us.length = (List.take 1 (["value"] : List Str)).length) : bindArgs (PySem.W.fnOf "want_letter" "want_letter" (defArgs (at_ "want_letter")) (defBody (at_ "want_letter")) (defScope (at_ "want_letter")) .none kV doc pm an cdv ct) ⟨us, []⟩ = pure ((List.take 1 (["value"] : List Str)).zip us) := match us, hl with | [_], _ => rfl
theorem kw_10 (kV doc pm : Value) (an : Option Addr) (cdv ct : Value) : KwOk kws_ 10 (PySem.W.fnOf "want_letter" "want_letter" (defArgs (at_ "want_letter")) (defBody (at_ "want_letter")) (defScope (at_ "want_letter")) .none kV doc pm an cdv ct) (List.take 1 (["value"] : List Str)) := by
  intro n ks hm us zs h1 h2
  simp only [kws_, List.mem_cons, List.not_mem_nil, or_false, Prod.mk.injEq] at hm
  omega
theorem df_10 (X : K.In h) (G : h.Ns mainGlobals mg) (c : He.SaysD fa_ fn_ K) : DefOk K mg fs_ kws_ 10 ⟨"want_letter", (["value"] : List Str), 1, b10⟩ := by
  obtain ⟨fd, F⟩ := c.def_ 10 (d := dtD ⟨"want_letter", (["value"] : List Str), 1, b10⟩ (at_ "want_letter")) rfl
  exact def_of (st := at_ "want_letter") F (He.glo_ok X G (c.fact 10 (f := .glo "want_letter") rfl)) un_10 sc_10 ok_10 (by decide) bd_10 kw_10
end
section
variable {K : PySem.W.Frag} {h : Heap} {mg : Str → Option Value}
theorem un_11 : defBody (at_ "shown_kind") = Ss.un b11 := by kernel_rfl
theorem sc_11 : FnScope (["kind"] : List Str) (List.take 1 (["kind"] : List Str)) (defScope (at_ "shown_kind")) := ⟨by kernel_rfl, by kernel_rfl, by kernel_rfl, by decide +kernel, by kernel_rfl, by decide +kernel, by decide +kernel⟩
theorem ok_11 : Ss.okS ⟨(["kind"] : List Str), fs_, kws_⟩ (defScope (at_ "shown_kind")) b11 = true := by kernel_rfl
theorem bd_11 (kV doc pm : Value) (an : Option Addr) (cdv ct : Value) (us : List Value) (hl : us.length = (List.take 1 (["kind"] : List Str)).length) : bindArgs (PySem.W.fnOf "shown_kind" "shown_kind" (defArgs (at_ "shown_kind")) (defBody (at_ "shown_kind")) (defScope (at_ "shown_kind")) .none kV doc pm an cdv ct) ⟨us, []⟩ = pure ((List.take 1 (["kind"] : List Str)).zip us) := match us, hl with | [_], _ => rfl
theorem kw_11 (kV doc pm : Value) (an : Option Addr) (cdv ct : Value) : KwOk kws_ 11 (PySem.W.fnOf "shown_kind" "shown_kind" (defArgs (at_ "shown_kind")) (defBody (at_ "shown_kind")) (defScope (at_ "shown_kind")) .none kV doc pm an cdv ct) (List.take 1 (["kind"] : List Str)) := by
  intro n ks hm us zs h1 h2
  simp only [kws_, List.mem_cons, List.not_mem_nil, or_false, Prod.mk.injEq] at hm
  omega
theorem df_11 (X : K.In h) (G : h.Ns mainGlobals mg) (c : He.SaysD fa_ fn_ K) : DefOk K mg fs_ kws_ 11 ⟨"shown_kind", (["kind"] : List Str), 1, b11⟩ := by
  obtain ⟨fd, F⟩ := c.def_ 11 (d := dtD ⟨"shown_kind", (["kind"] : List Str), 1, b11⟩ (at_ "shown_kind")) rfl
  exact def_of (st := at_ "shown_kind") F (He.glo_ok X G (c.fact 11 (f := .glo "shown_kind") rfl)) un_11 sc_11 ok_11 (by decide) bd_11 kw_11
end
section
variable {K : PySem.W.Frag} {h : Heap} {mg : Str → Option Value}
theorem un_12 : defBody (at_ "met_kind") = Ss.un b12 := by kernel_rfl
theorem sc_12 : FnScope (["kind"] : List Str) (List.take 1 (["kind"] : List Str)) (defScope (at_ "met_kind")) := ⟨by kernel_rfl, by kernel_rfl, by kernel_rfl, by decide +kernel, by kernel_rfl, by decide +kernel, by decide +kernel⟩
theorem ok_12 : Ss.okS ⟨(["kind"] : List Str), fs_, kws_⟩ (defScope (at_ "met_kind")) b12 = true := by kernel_rfl
theorem bd_12 (kV doc pm : Value) (an : Option Addr) (cdv ct : Value) (us : List Value) (hl : us.length = (List.take 1 (["kind"] : List Str)).length) : bindArgs (PySem.W.fnOf "met_kind" "met_kind" (defArgs (at_ "met_kind")) (defBody (at_ "met_kind")) (defScope (at_ "met_kind")) .none kV doc pm an cdv ct) ⟨us, []⟩ = pure ((List.take 1 (["kind"] : List Str)).zip us) := match us, hl with | [_], _ => rfl
theorem kw_12 (kV doc pm : Value) (an : Option Addr) (cdv ct : Value) : KwOk kws_ 12 (PySem.W.fnOf "met_kind" "met_kind" (defArgs (at_ "met_kind")) (defBody (at_ "met_kind")) (defScope (at_ "met_kind")) .none kV doc pm an cdv ct) (List.take 1 (["kind"] : List Str)) := by
  intro n ks hm us zs h1 h2
  simp only [kws_, List.mem_cons, List.not_mem_nil, or_false, Prod.mk.injEq] at hm
  omega
theorem df_12 (X : K.In h) (G : h.Ns mainGlobals mg) (c : He.SaysD fa_ fn_ K) : DefOk K mg fs_ kws_ 12 ⟨"met_kind", (["kind"] : List Str), 1, b12⟩ := by
  obtain ⟨fd, F⟩ := c.def_ 12 (d := dtD ⟨"met_kind", (["kind"] : List Str), 1, b12⟩ (at_ "met_kind")) rfl
  exact def_of (st := at_ "met_kind") F (He.glo_ok X G (c.fact 12 (f := .glo "met_kind") rfl)) un_12 sc_12 ok_12 (by decide) bd_12 kw_12
end
section
variable {K : PySem.W.Frag} {h : Heap} {mg : Str → Option Value}
theorem un_13 : defBody (at_ "data_kind") = Ss.un b13 := by kernel_rfl
theorem sc_13 : FnScope (["kind"] : List Str) (List.take 1 (["kind"] : List Str)) (defScope (at_ "data_kind")) := ⟨by kernel_rfl, by kernel_rfl, by kernel_rfl, by decide +kernel, by kernel_rfl, by decide +kernel, by decide +kernel⟩
theorem ok_13 : Ss.okS ⟨(["kind"] : List Str), fs_, kws_⟩ (defScope (at_ "data_kind")) b13 = true := by kernel_rfl
theorem bd_13 (kV doc pm : Value) (an : Option Addr) (cdv ct : Value) (us : List Value) (hl : us.length = (List.take 1 (["kind"] : List Str)).length) : bindArgs (PySem.W.fnOf "data_kind" "data_kind" (defArgs (at_ "data_kind")) (defBody (at_ "data_kind")) (defScope (at_ "data_kind")) .none kV doc pm an cdv ct) ⟨us, []⟩ = pure ((List.take 1 (["kind"] : List Str)).zip us) := match us, hl with | [_], _ => rfl
theorem kw_13 (kV doc pm : Value) (an : Option Addr) (cdv ct : Value) : KwOk kws_ 13 (PySem.W.fnOf "data_kind" "data_kind" (defArgs (at_ "data_kind")) (defBody (at_ "data_kind")) (defScope (at_ "data_kind")) .none kV doc pm an cdv ct) (List.take 1 (["kind"] : List Str)) := by
  intro n ks hm us zs h1 h2
  simp only [kws_, List.mem_cons, List.not_mem_nil, or_false, Prod.mk.injEq] at hm
  omega
theorem df_13 (X : K.In h) (G : h.Ns mainGlobals mg) (c : He.SaysD fa_ fn_ K) : DefOk K mg fs_ kws_ 13 ⟨"data_kind", (["kind"] : List Str), 1, b13⟩ := by
  obtain ⟨fd, F⟩ := c.def_ 13 (d := dtD ⟨"data_kind", (["kind"] : List Str), 1, b13⟩ (at_ "data_kind")) rfl
  exact def_of (st := at_ "data_kind") F (He.glo_ok X G (c.fact 13 (f := .glo "data_kind") rfl)) un_13 sc_13 ok_13 (by decide) bd_13 kw_13
end
section
variable {K : PySem.W.Frag} {h : Heap} {mg : Str → Option Value}
theorem un_14 : defBody (at_ "signs_of") = Ss.un b14 := by kernel_rfl
theorem sc_14 : FnScope (["kind"] : List Str) (List.take 1 (["kind"] : List Str)) (defScope (at_ "signs_of")) := ⟨by kernel_rfl, by kernel_rfl, by kernel_rfl, by decide +kernel, by kernel_rfl, by decide +kernel, by decide +kernel⟩
theorem ok_14 : Ss.okS ⟨(["kind"] : List Str), fs_, kws_⟩ (defScope (at_ "signs_of")) b14 = true := by kernel_rfl
theorem bd_14 (kV doc pm : Value) (an : Option Addr) (cdv ct : Value) (us : List Value) (hl : us.length = (List.take 1 (["kind"] : List Str)).length) : bindArgs (PySem.W.fnOf "signs_of" "signs_of" (defArgs (at_ "signs_of")) (defBody (at_ "signs_of")) (defScope (at_ "signs_of")) .none kV doc pm an cdv ct) ⟨us, []⟩ = pure ((List.take 1 (["kind"] : List Str)).zip us) := match us, hl with | [_], _ => rfl
theorem kw_14 (kV doc pm : Value) (an : Option Addr) (cdv ct : Value) : KwOk kws_ 14 (PySem.W.fnOf "signs_of" "signs_of" (defArgs (at_ "signs_of")) (defBody (at_ "signs_of")) (defScope (at_ "signs_of")) .none kV doc pm an cdv ct) (List.take 1 (["kind"] : List Str)) := by
  intro n ks hm us zs h1 h2
  simp only [kws_, List.mem_cons, List.not_mem_nil, or_false, Prod.mk.injEq] at hm
  omega
theorem df_14 (X : K.In h) (G : h.Ns mainGlobals mg) (c : He.SaysD fa_ fn_ K) : DefOk K mg fs_ kws_ 14 ⟨"signs_of", (["kind"] : List Str), 1, b14⟩ := by
  obtain ⟨fd, F⟩ := c.def_ 14 (d := dtD ⟨"signs_of", (["kind"] : List Str), 1, b14⟩ (at_ "signs_of")) rfl
  exact def_of (st := at_ "signs_of") F (He.glo_ok X G (c.fact 14 (f := .glo "signs_of") rfl)) un_14 sc_14 ok_14 (by decide) bd_14 kw_14
end
section
variable {K : PySem.W.Frag} {h : Heap} {mg : Str → Option Value}
theorem un_15 : defBody (at_ "depth_of") = Ss.un b15 := by kernel_rfl
theorem sc_15 : FnScope (["kind"] : List Str) (List.take 1 (["kind"] : List Str)) (defScope (at_ "depth_of")) := ⟨by kernel_rfl, by kernel_rfl, by kernel_rfl, by decide +kernel, by kernel_rfl, by decide +kernel, by decide +kernel⟩
theorem ok_15 : Ss.okS ⟨(["kind"] : List Str), fs_, kws_⟩ (defScope (at_ "depth_of")) b15 = true := by kernel_rfl
theorem bd_15 (kV doc pm : Value) (an : Option Addr) (cdv ct : Value) (us : List Value) (hl : us.length = (List.take 1 (["kind"] : List Str)).length) : bindArgs (PySem.W.fnOf "depth_of" "depth_of" (defArgs (at_ "depth_of")) (defBody (at_ "depth_of")) (defScope (at_ "depth_of")) .none kV doc pm an cdv ct) ⟨us, []⟩ = pure ((List.take 1 (["kind"] : List Str)).zip us) := match us, hl with | [_], _ => rfl
theorem kw_15 (kV doc pm : Value) (an : Option Addr) (cdv ct : Value) : KwOk kws_ 15 (PySem.W.fnOf "depth_of" "depth_of" (defArgs (at_ "depth_of")) (defBody (at_ "depth_of")) (defScope (at_ "depth_of")) .none kV doc pm an cdv ct) (List.take 1 (["kind"] : List Str)) := by
  intro n ks hm us zs h1 h2
  simp only [kws_, List.mem_cons, List.not_mem_nil, or_false, Prod.mk.injEq] at hm
  omega
theorem df_15 (X : K.In h) (G : h.Ns mainGlobals mg) (c : He.SaysD fa_ fn_ K) : DefOk K mg fs_ kws_ 15 ⟨"depth_of", (["kind"] : List Str), 1, b15⟩ := by
  obtain ⟨fd, F⟩ := c.def_ 15 (d := dtD ⟨"depth_of", (["kind"] : List Str), 1, b15⟩ (at_ "depth_of")) rfl
  exact def_of (st := at_ "depth_of") F (He.glo_ok X G (c.fact 15 (f := .glo "depth_of") rfl)) un_15 sc_15 ok_15 (by decide) bd_15 kw_15
end
section
variable {K : PySem.W.Frag} {h : Heap} {mg : Str → Option Value}
theorem un_16 : defBody (at_ "letters_in") = Ss.un b16 := by kernel_rfl
theorem sc_16 : FnScope (["kind"] : List Str) (List.take 1 (["kind"] : List Str)) (defScope (at_ "letters_in")) := ⟨by kernel_rfl, by kernel_rfl, by kernel_rfl, by decide +kernel, by kernel_rfl, by decide +kernel, by decide +kernel⟩
theorem ok_16 : Ss.okS ⟨(["kind"] : List Str), fs_, kws_⟩ (defScope (at_ "letters_in")) b16 = true := by kernel_rfl
theorem bd_16 (kV doc pm : Value) (an : Option Addr) (cdv ct : Value) (us : List Value) (hl : us.length = (List.take 1 (["kind"] : List Str)).length) : bindArgs (PySem.W.fnOf "letters_in" "letters_in" (defArgs (at_ "letters_in")) (defBody (at_ "letters_in")) (defScope (at_ "letters_in")) .none kV doc pm an cdv ct) ⟨us, []⟩ = pure ((List.take 1 (["kind"] : List Str)).zip us) := match us, hl with | [_], _ => rfl
theorem kw_16 (kV doc pm : Value) (an : Option Addr) (cdv ct : Value) : KwOk kws_ 16 (PySem.W.fnOf "letters_in" "letters_in" (defArgs (at_ "letters_in")) (defBody (at_ "letters_in")) (defScope (at_ "letters_in")) .none kV doc pm an cdv ct) (List.take 1 (["kind"] : List Str)) := by
  intro n ks hm us zs h1 h2
  simp only [kws_, List.mem_cons, List.not_mem_nil, or_false, Prod.mk.injEq] at hm
  omega
theorem df_16 (X : K.In h) (G : h.Ns mainGlobals mg) (c : He.SaysD fa_ fn_ K) : DefOk K mg fs_ kws_ 16 ⟨"letters_in", (["kind"] : List Str), 1, b16⟩ := by
  obtain ⟨fd, F⟩ := c.def_ 16 (d := dtD ⟨"letters_in", (["kind"] : List Str), 1, b16⟩ (at_ "letters_in")) rfl
  exact def_of (st := at_ "letters_in") F (He.glo_ok X G (c.fact 16 (f := .glo "letters_in") rfl)) un_16 sc_16 ok_16 (by decide) bd_16 kw_16
end
section
variable {K : PySem.W.Frag} {h : Heap} {mg : Str → Option Value}
theorem un_17 : defBody (at_ "put_letter") = Ss.un b17 := by kernel_rfl
theorem sc_17 : FnScope (["kind", "letter", "other"] : List Str) (List.take 3 (["kind", "letter", "other"] : List Str)) (defScope (at_ "put_letter")) := ⟨by kernel_rfl, by kernel_rfl, by kernel_rfl, by decide +kernel, by kernel_rfl, by decide +kernel, by decide +kernel⟩
theorem ok_17 : Ss.okS ⟨(["kind", "letter", "other"] : List Str), fs_, kws_⟩ (defScope (at_ "put_letter")) b17 = true := by kernel_rfl
theorem bd_17 (kV doc pm : Value) (an : Option Addr) (cdv ct : Value) (us : List Value) (hl : us.length = (List.take 3 (["kind", "letter", "other"] : List Str)).length) : bindArgs (PySem.W.fnOf "put_letter" "put_letter" (defArgs (at_ "put_letter")) (defBody (at_ "put_letter")) (defScope (at_ "put_letter")) .none kV doc pm an cdv ct) ⟨us, []⟩ = pure ((List.take 3 (["kind", "letter", "other"] : List Str)).zip us) := match us, hl with | [_, _, _], _ => rfl
theorem kw_17 (kV doc pm : Value) (an : Option Addr) (cdv ct : Value) : KwOk kws_ 17 (PySem.W.fnOf "put_letter" "put_letter" (defArgs (at_ "put_letter")) (defBody (at_ "put_letter")) (defScope (at_ "put_letter")) .none kV doc pm an cdv ct) (List.take 3 (["kind", "letter", "other"] : List Str)) := by
  intro n ks hm us zs h1 h2
  simp only [kws_, List.mem_cons, List.not_mem_nil, or_false, Prod.mk.injEq] at hm
  omega
theorem df_17 (X : K.In h) (G : h.Ns mainGlobals mg) (c : He.SaysD fa_ fn_ K) : DefOk K mg fs_ kws_ 17 ⟨"put_letter", (["kind", "letter", "other"] : List Str), 3, b17⟩ := by
  obtain ⟨fd, F⟩ := c.def_ 17 (d := dtD ⟨"put_letter", (["kind", "letter", "other"] : List Str), 3, b17⟩ (at_ "put_letter")) rfl
  exact def_of (st := at_ "put_letter") F (He.glo_ok X G (c.fact 17 (f := .glo "put_letter") rfl)) un_17 sc_17 ok_17 (by decide) bd_17 kw_17
end
section
variable {K : PySem.W.Frag} {h : Heap} {mg : Str → Option Value}
theorem un_18 : defBody (at_ "put_letter_told") = Ss.un b18 := by kernel_rfl
theorem sc_18 : FnScope (["kind", "letter", "other", "times", "found", "one"] : List Str) (List.take 3 (["kind", "letter", "other", "times", "found", "one"] : List Str)) (defScope (at_ "put_letter_told")) := ⟨by kernel_rfl, by kernel_rfl, by kernel_rfl, by decide +kernel, by kernel_rfl, by decide +kernel, by decide +kernel⟩
theorem ok_18 : Ss.okS ⟨(["kind", "letter", "other", "times", "found", "one"] : List Str), fs_, kws_⟩ (defScope (at_ "put_letter_told")) b18 = true := by kernel_rfl
theorem bd_18 (kV doc pm : Value) (an : Option Addr) (cdv ct : Value) (us : List Value) (hl : us.length = (List.take 3 (["kind", "letter", "other", "times", "found", "one"] : List Str)).length) : bindArgs (PySem.W.fnOf "put_letter_told" "put_letter_told" (defArgs (at_ "put_letter_told")) (defBody (at_ "put_letter_told")) (defScope (at_ "put_letter_told")) .none kV doc pm an cdv ct) ⟨us, []⟩ = pure ((List.take 3 (["kind", "letter", "other", "times", "found", "one"] : List Str)).zip us) := match us, hl with | [_, _, _], _ => rfl
theorem kw_18 (kV doc pm : Value) (an : Option Addr) (cdv ct : Value) : KwOk kws_ 18 (PySem.W.fnOf "put_letter_told" "put_letter_told" (defArgs (at_ "put_letter_told")) (defBody (at_ "put_letter_told")) (defScope (at_ "put_letter_told")) .none kV doc pm an cdv ct) (List.take 3 (["kind", "letter", "other", "times", "found", "one"] : List Str)) := by
  intro n ks hm us zs h1 h2
  simp only [kws_, List.mem_cons, List.not_mem_nil, or_false, Prod.mk.injEq] at hm
  omega
theorem df_18 (X : K.In h) (G : h.Ns mainGlobals mg) (c : He.SaysD fa_ fn_ K) : DefOk K mg fs_ kws_ 18 ⟨"put_letter_told", (["kind", "letter", "other", "times", "found", "one"] : List Str), 3, b18⟩ := by
  obtain ⟨fd, F⟩ := c.def_ 18 (d := dtD ⟨"put_letter_told", (["kind", "letter", "other", "times", "found", "one"] : List Str), 3, b18⟩ (at_ "put_letter_told")) rfl
  exact def_of (st := at_ "put_letter_told") F (He.glo_ok X G (c.fact 18 (f := .glo "put_letter_told") rfl)) un_18 sc_18 ok_18 (by decide) bd_18 kw_18
end
section
variable {K : PySem.W.Frag} {h : Heap} {mg : Str → Option Value}
theorem un_19 : defBody (at_ "is_shown") = Ss.un b19 := by kernel_rfl
theorem sc_19 : FnScope (["kind"] : List Str) (List.take 1 (["kind"] : List Str)) (defScope (at_ "is_shown")) := ⟨by kernel_rfl, by kernel_rfl, by kernel_rfl, by decide +kernel, by kernel_rfl, by decide +kernel, by decide +kernel⟩
theorem ok_19 : Ss.okS ⟨(["kind"] : List Str), fs_, kws_⟩ (defScope (at_ "is_shown")) b19 = true := by kernel_rfl
theorem bd_19 (kV doc pm : Value) (an : Option Addr) (cdv ct : Value) (us : List Value) (hl : us.length = (List.take 1 (["kind"] : List Str)).length) : bindArgs (PySem.W.fnOf "is_shown" "is_shown" (defArgs (at_ "is_shown")) (defBody (at_ "is_shown")) (defScope (at_ "is_shown")) .none kV doc pm an cdv ct) ⟨us, []⟩ = pure ((List.take 1 (["kind"] : List Str)).zip us) := match us, hl with | [_], _ => rfl
theorem kw_19 (kV doc pm : Value) (an : Option Addr) (cdv ct : Value) : KwOk kws_ 19 (PySem.W.fnOf "is_shown" "is_shown" (defArgs (at_ "is_shown")) (defBody (at_ "is_shown")) (defScope (at_ "is_shown")) .none kV doc pm an cdv ct) (List.take 1 (["kind"] : List Str)) := by
  intro n ks hm us zs h1 h2
  simp only [kws_, List.mem_cons, List.not_mem_nil, or_false, Prod.mk.injEq] at hm
  rcases hm with ⟨h, rfl, rfl⟩ | ⟨h, rfl, rfl⟩ | ⟨h, rfl, rfl⟩ | ⟨h, rfl, rfl⟩ | ⟨h, rfl, rfl⟩ | ⟨h, rfl, rfl⟩
  · match us, h1, zs, h2 with | [], _, [_], _ => exact ⟨_, rfl, fun s => .of_eq rfl⟩
  · omega
  · omega
  · omega
  · omega
  · omega
theorem df_19 (X : K.In h) (G : h.Ns mainGlobals mg) (c : He.SaysD fa_ fn_ K) : DefOk K mg fs_ kws_ 19 ⟨"is_shown", (["kind"] : List Str), 1, b19⟩ := by
  obtain ⟨fd, F⟩ := c.def_ 19 (d := dtD ⟨"is_shown", (["kind"] : List Str), 1, b19⟩ (at_ "is_shown")) rfl
  exact def_of (st := at_ "is_shown") F (He.glo_ok X G (c.fact 19 (f := .glo "is_shown") rfl)) un_19 sc_19 ok_19 (by decide) bd_19 kw_19
end
section
variable {K : PySem.W.Frag} {h : Heap} {mg : Str → Option Value}
theorem un_20 : defBody (at_ "is_met") = Ss.un b20 := by kernel_rfl
theorem sc_20 : FnScope (["kind"] : List Str) (List.take 1 (["kind"] : List Str)) (defScope (at_ "is_met")) := ⟨by kernel_rfl, by kernel_rfl, by kernel_rfl, by decide +kernel, by kernel_rfl, by decide +kernel, by decide +kernel⟩
theorem ok_20 : Ss.okS ⟨(["kind"] : List Str), fs_, kws_⟩ (defScope (at_ "is_met")) b20 = true := by kernel_rfl
theorem bd_20 (kV doc pm : Value) (an : Option Addr) (cdv ct : Value) (us : List Value) (hl : us.length = (List.take 1 (["kind"] : List Str)).length) : bindArgs (PySem.W.fnOf "is_met" "is_met" (defArgs (at_ "is_met")) (defBody (at_ "is_met")) (defScope (at_ "is_met")) .none kV doc pm an cdv ct) ⟨us, []⟩ = pure ((List.take 1 (["kind"] : List Str)).zip us) := match us, hl with | [_], _ => rfl
theorem kw_20 (kV doc pm : Value) (an : Option Addr) (cdv ct : Value) : KwOk kws_ 20 (PySem.W.fnOf "is_met" "is_met" (defArgs (at_ "is_met")) (defBody (at_ "is_met")) (defScope (at_ "is_met")) .none kV doc pm an cdv ct) (List.take 1 (["kind"] : List Str)) := by
  intro n ks hm us zs h1 h2
  simp only [kws_, List.mem_cons, List.not_mem_nil, or_false, Prod.mk.injEq] at hm
  rcases hm with ⟨h, rfl, rfl⟩ | ⟨h, rfl, rfl⟩ | ⟨h, rfl, rfl⟩ | ⟨h, rfl, rfl⟩ | ⟨h, rfl, rfl⟩ | ⟨h, rfl, rfl⟩
  · omega
  · match us, h1, zs, h2 with | [], _, [_], _ => exact ⟨_, rfl, fun s => .of_eq rfl⟩
  · omega
  · omega
  · omega
  · omega
theorem df_20 (X : K.In h) (G : h.Ns mainGlobals mg) (c : He.SaysD fa_ fn_ K) : DefOk K mg fs_ kws_ 20 ⟨"is_met", (["kind"] : List Str), 1, b20⟩ := by
  obtain ⟨fd, F⟩ := c.def_ 20 (d := dtD ⟨"is_met", (["kind"] : List Str), 1, b20⟩ (at_ "is_met")) rfl
  exact def_of (st := at_ "is_met") F (He.glo_ok X G (c.fact 20 (f := .glo "is_met") rfl)) un_20 sc_20 ok_20 (by decide) bd_20 kw_20
end
section
variable {K : PySem.W.Frag} {h : Heap} {mg : Str → Option Value}
theorem un_21 : defBody (at_ "is_data") = Ss.un b21 := by kernel_rfl
theorem sc_21 : FnScope (["kind"] : List Str) (List.take 1 (["kind"] : List Str)) (defScope (at_ "is_data")) := ⟨by kernel_rfl, by kernel_rfl, by kernel_rfl, by decide +kernel, by kernel_rfl, by decide +kernel, by decide +kernel⟩
theorem ok_21 : Ss.okS ⟨(["kind"] : List Str), fs_, kws_⟩ (defScope (at_ "is_data")) b21 = true := by kernel_rfl
theorem bd_21 (kV doc pm : Value) (an : Option Addr) (cdv ct : Value) (us : List Value) (hl : us.length = (List.take 1 (["kind"] : List Str)).length) : bindArgs (PySem.W.fnOf "is_data" "is_data" (defArgs (at_ "is_data")) (defBody (at_ "is_data")) (defScope (at_ "is_data")) .none kV doc pm an cdv ct) ⟨us, []⟩ = pure ((List.take 1 (["kind"] : List Str)).zip us) := match us, hl with | [_], _ => rfl
theorem kw_21 (kV doc pm : Value) (an : Option Addr) (cdv ct : Value) : KwOk kws_ 21 (PySem.W.fnOf "is_data" "is_data" (defArgs (at_ "is_data")) (defBody (at_ "is_data")) (defScope (at_ "is_data")) .none kV doc pm an cdv ct) (List.take 1 (["kind"] : List Str)) := by
  intro n ks hm us zs h1 h2
  simp only [kws_, List.mem_cons, List.not_mem_nil, or_false, Prod.mk.injEq] at hm
  rcases hm with ⟨h, rfl, rfl⟩ | ⟨h, rfl, rfl⟩ | ⟨h, rfl, rfl⟩ | ⟨h, rfl, rfl⟩ | ⟨h, rfl, rfl⟩ | ⟨h, rfl, rfl⟩
  · omega
  · omega
  · match us, h1, zs, h2 with | [], _, [_], _ => exact ⟨_, rfl, fun s => .of_eq rfl⟩
  · omega
  · omega
  · omega
theorem df_21 (X : K.In h) (G : h.Ns mainGlobals mg) (c : He.SaysD fa_ fn_ K) : DefOk K mg fs_ kws_ 21 ⟨"is_data", (["kind"] : List Str), 1, b21⟩ := by
  obtain ⟨fd, F⟩ := c.def_ 21 (d := dtD ⟨"is_data", (["kind"] : List Str), 1, b21⟩ (at_ "is_data")) rfl
  exact def_of (st := at_ "is_data") F (He.glo_ok X G (c.fact 21 (f := .glo "is_data") rfl)) un_21 sc_21 ok_21 (by decide) bd_21 kw_21
end
section
variable {K : PySem.W.Frag} {h : Heap} {mg : Str → Option Value}
theorem un_22 : defBody (at_ "kind_size") = Ss.un b22 := by kernel_rfl
theorem sc_22 : FnScope (["kind"] : List Str) (List.take 1 (["kind"] : List Str)) (defScope (at_ "kind_size")) := ⟨by kernel_rfl, by kernel_rfl, by kernel_rfl, by decide +kernel, by kernel_rfl, by decide +kernel, by decide +kernel⟩
theorem ok_22 : Ss.okS ⟨(["kind"] : List Str), fs_, kws_⟩ (defScope (at_ "kind_size")) b22 = true := by kernel_rfl
theorem bd_22 (kV doc pm : Value) (an : Option Addr) (cdv ct : Value) (us : List Value) (hl : us.length = (List.take 1 (["kind"] : List Str)).length) : bindArgs (PySem.W.fnOf "kind_size" "kind_size" (defArgs (at_ "kind_size")) (defBody (at_ "kind_size")) (defScope (at_ "kind_size")) .none kV doc pm an cdv ct) ⟨us, []⟩ = pure ((List.take 1 (["kind"] : List Str)).zip us) := match us, hl with | [_], _ => rfl
theorem kw_22 (kV doc pm : Value) (an : Option Addr) (cdv ct : Value) : KwOk kws_ 22 (PySem.W.fnOf "kind_size" "kind_size" (defArgs (at_ "kind_size")) (defBody (at_ "kind_size")) (defScope (at_ "kind_size")) .none kV doc pm an cdv ct) (List.take 1 (["kind"] : List Str)) := by
  intro n ks hm us zs h1 h2
  simp only [kws_, List.mem_cons, List.not_mem_nil, or_false, Prod.mk.injEq] at hm
  rcases hm with ⟨h, rfl, rfl⟩ | ⟨h, rfl, rfl⟩ | ⟨h, rfl, rfl⟩ | ⟨h, rfl, rfl⟩ | ⟨h, rfl, rfl⟩ | ⟨h, rfl, rfl⟩
  · omega
  · omega
  · omega
  · match us, h1, zs, h2 with | [], _, [_], _ => exact ⟨_, rfl, fun s => .of_eq rfl⟩
  · omega
  · omega
theorem df_22 (X : K.In h) (G : h.Ns mainGlobals mg) (c : He.SaysD fa_ fn_ K) : DefOk K mg fs_ kws_ 22 ⟨"kind_size", (["kind"] : List Str), 1, b22⟩ := by
  obtain ⟨fd, F⟩ := c.def_ 22 (d := dtD ⟨"kind_size", (["kind"] : List Str), 1, b22⟩ (at_ "kind_size")) rfl
  exact def_of (st := at_ "kind_size") F (He.glo_ok X G (c.fact 22 (f := .glo "kind_size") rfl)) un_22 sc_22 ok_22 (by decide) bd_22 kw_22
end
section
variable {K : PySem.W.Frag} {h : Heap} {mg : Str → Option Value}
theorem un_23 : defBody (at_ "letters") = Ss.un b23 := by kernel_rfl
theorem sc_23 : FnScope (["kind"] : List Str) (List.take 1 (["kind"] : List Str)) (defScope (at_ "letters")) := ⟨by kernel_rfl, by kernel_rfl, by kernel_rfl, by decide +kernel, by kernel_rfl, by decide +kernel, by decide +kernel⟩
theorem ok_23 : Ss.okS ⟨(["kind"] : List Str), fs_, kws_⟩ (defScope (at_ "letters")) b23 = true := by kernel_rfl
theorem bd_23 (kV doc pm : Value) (an : Option Addr) (cdv ct : Value) (us : List Value) (hl : us.length = (List.take 1 (["kind"] : List Str)).length) : bindArgs (PySem.W.fnOf "letters" "letters" (defArgs (at_ "letters")) (defBody (at_ "letters")) (defScope (at_ "letters")) .none kV doc pm an cdv ct) ⟨us, []⟩ = pure ((List.take 1 (["kind"] : List Str)).zip us) := match us, hl with | [_], _ => rfl
theorem kw_23 (kV doc pm : Value) (an : Option Addr) (cdv ct : Value) : KwOk kws_ 23 (PySem.W.fnOf "letters" "letters" (defArgs (at_ "letters")) (defBody (at_ "letters")) (defScope (at_ "letters")) .none kV doc pm an cdv ct) (List.take 1 (["kind"] : List Str)) := by
  intro n ks hm us zs h1 h2
  simp only [kws_, List.mem_cons, List.not_mem_nil, or_false, Prod.mk.injEq] at hm
  omega
theorem df_23 (X : K.In h) (G : h.Ns mainGlobals mg) (c : He.SaysD fa_ fn_ K) : DefOk K mg fs_ kws_ 23 ⟨"letters", (["kind"] : List Str), 1, b23⟩ := by
  obtain ⟨fd, F⟩ := c.def_ 23 (d := dtD ⟨"letters", (["kind"] : List Str), 1, b23⟩ (at_ "letters")) rfl
  exact def_of (st := at_ "letters") F (He.glo_ok X G (c.fact 23 (f := .glo "letters") rfl)) un_23 sc_23 ok_23 (by decide) bd_23 kw_23
end
section
variable {K : PySem.W.Frag} {h : Heap} {mg : Str → Option Value}
theorem un_24 : defBody (at_ "put_kind") = Ss.un b24 := by kernel_rfl
theorem sc_24 : FnScope (["kind", "letter", "other"] : List Str) (List.take 3 (["kind", "letter", "other"] : List Str)) (defScope (at_ "put_kind")) := ⟨by kernel_rfl, by kernel_rfl, by kernel_rfl, by decide +kernel, by kernel_rfl, by decide +kernel, by decide +kernel⟩
theorem ok_24 : Ss.okS ⟨(["kind", "letter", "other"] : List Str), fs_, kws_⟩ (defScope (at_ "put_kind")) b24 = true := by kernel_rfl
theorem bd_24 (kV doc pm : Value) (an : Option Addr) (cdv ct : Value) (us : List Value) (hl : us.length = (List.take 3 (["kind", "letter", "other"] : List Str)).length) : bindArgs (PySem.W.fnOf "put_kind" "put_kind" (defArgs (at_ "put_kind")) (defBody (at_ "put_kind")) (defScope (at_ "put_kind")) .none kV doc pm an cdv ct) ⟨us, []⟩ = pure ((List.take 3 (["kind", "letter", "other"] : List Str)).zip us) := match us, hl with | [_, _, _], _ => rfl
theorem kw_24 (kV doc pm : Value) (an : Option Addr) (cdv ct : Value) : KwOk kws_ 24 (PySem.W.fnOf "put_kind" "put_kind" (defArgs (at_ "put_kind")) (defBody (at_ "put_kind")) (defScope (at_ "put_kind")) .none kV doc pm an cdv ct) (List.take 3 (["kind", "letter", "other"] : List Str)) := by
  intro n ks hm us zs h1 h2
  simp only [kws_, List.mem_cons, List.not_mem_nil, or_false, Prod.mk.injEq] at hm
  rcases hm with ⟨h, rfl, rfl⟩ | ⟨h, rfl, rfl⟩ | ⟨h, rfl, rfl⟩ | ⟨h, rfl, rfl⟩ | ⟨h, rfl, rfl⟩ | ⟨h, rfl, rfl⟩
  · omega
  · omega
  · omega
  · omega
  · match us, h1, zs, h2 with | [], _, [_, _, _], _ => exact ⟨_, rfl, fun s => .of_eq rfl⟩
  · omega
theorem df_24 (X : K.In h) (G : h.Ns mainGlobals mg) (c : He.SaysD fa_ fn_ K) : DefOk K mg fs_ kws_ 24 ⟨"put_kind", (["kind", "letter", "other"] : List Str), 3, b24⟩ := by
  obtain ⟨fd, F⟩ := c.def_ 24 (d := dtD ⟨"put_kind", (["kind", "letter", "other"] : List Str), 3, b24⟩ (at_ "put_kind")) rfl
  exact def_of (st := at_ "put_kind") F (He.glo_ok X G (c.fact 24 (f := .glo "put_kind") rfl)) un_24 sc_24 ok_24 (by decide) bd_24 kw_24
end
section
variable {K : PySem.W.Frag} {h : Heap} {mg : Str → Option Value}
theorem un_25 : defBody (at_ "is_node") = Ss.un b25 := by kernel_rfl
theorem sc_25 : FnScope (["value"] : List Str) (List.take 1 (["value"] : List Str)) (defScope (at_ "is_node")) := ⟨by kernel_rfl, by kernel_rfl, by kernel_rfl, by decide +kernel, by kernel_rfl, by decide +kernel, by decide +kernel⟩
theorem ok_25 : Ss.okS ⟨(["value"] : List Str), fs_, kws_⟩ (defScope (at_ "is_node")) b25 = true := by kernel_rfl
theorem bd_25 (kV doc pm : Value) (an : Option Addr) (cdv ct : Value) (us : List Value) (hl : us.length = (List.take 1 (["value"] : List Str)).length) : bindArgs (PySem.W.fnOf "is_node" "is_node" (defArgs (at_ "is_node")) (defBody (at_ "is_node")) (defScope (at_ "is_node")) .none kV doc pm an cdv ct) ⟨us, []⟩ = pure ((List.take 1 (["value"] : List Str)).zip us) := match us, hl with | [_], _ => rfl
theorem kw_25 (kV doc pm : Value) (an : Option Addr) (cdv ct : Value) : KwOk kws_ 25 (PySem.W.fnOf "is_node" "is_node" (defArgs (at_ "is_node")) (defBody (at_ "is_node")) (defScope (at_ "is_node")) .none kV doc pm an cdv ct) (List.take 1 (["value"] : List Str)) := by
  intro n ks hm us zs h1 h2
  simp only [kws_, List.mem_cons, List.not_mem_nil, or_false, Prod.mk.injEq] at hm
  omega
theorem df_25 (X : K.In h) (G : h.Ns mainGlobals mg) (c : He.SaysD fa_ fn_ K) : DefOk K mg fs_ kws_ 25 ⟨"is_node", (["value"] : List Str), 1, b25⟩ := by
  obtain ⟨fd, F⟩ := c.def_ 25 (d := dtD ⟨"is_node", (["value"] : List Str), 1, b25⟩ (at_ "is_node")) rfl
  exact def_of (st := at_ "is_node") F (He.glo_ok X G (c.fact 25 (f := .glo "is_node") rfl)) un_25 sc_25 ok_25 (by decide) bd_25 kw_25
end
section
variable {K : PySem.W.Frag} {h : Heap} {mg : Str → Option Value}
theorem un_26 : defBody (at_ "are_tree") = Ss.un b26 := by kernel_rfl
theorem sc_26 : FnScope (["nodes", "wanted", "node"] : List Str) (List.take 1 (["nodes", "wanted", "node"] : List Str)) (defScope (at_ "are_tree")) := ⟨by kernel_rfl, by kernel_rfl, by kernel_rfl, by decide +kernel, by kernel_rfl, by decide +kernel, by decide +kernel⟩
theorem ok_26 : Ss.okS ⟨(["nodes", "wanted", "node"] : List Str), fs_, kws_⟩ (defScope (at_ "are_tree")) b26 = true := by kernel_rfl
theorem bd_26 (kV doc pm : Value) (an : Option Addr) (cdv ct : Value) (us : List Value) (hl : us.length = (List.take 1 (["nodes", "wanted", "node"] : List Str)).length) : bindArgs (PySem.W.fnOf "are_tree" "are_tree" (defArgs (at_ "are_tree")) (defBody (at_ "are_tree")) (defScope (at_ "are_tree")) .none kV doc pm an cdv ct) ⟨us, []⟩ = pure ((List.take 1 (["nodes", "wanted", "node"] : List Str)).zip us) := match us, hl with | [_], _ => rfl
theorem kw_26 (kV doc pm : Value) (an : Option Addr) (cdv ct : Value) : KwOk kws_ 26 (PySem.W.fnOf "are_tree" "are_tree" (defArgs (at_ "are_tree")) (defBody (at_ "are_tree")) (defScope (at_ "are_tree")) .none kV doc pm an cdv ct) (List.take 1 (["nodes", "wanted", "node"] : List Str)) := by
  intro n ks hm us zs h1 h2
  simp only [kws_, List.mem_cons, List.not_mem_nil, or_false, Prod.mk.injEq] at hm
  omega
theorem df_26 (X : K.In h) (G : h.Ns mainGlobals mg) (c : He.SaysD fa_ fn_ K) : DefOk K mg fs_ kws_ 26 ⟨"are_tree", (["nodes", "wanted", "node"] : List Str), 1, b26⟩ := by
  obtain ⟨fd, F⟩ := c.def_ 26 (d := dtD ⟨"are_tree", (["nodes", "wanted", "node"] : List Str), 1, b26⟩ (at_ "are_tree")) rfl
  exact def_of (st := at_ "are_tree") F (He.glo_ok X G (c.fact 26 (f := .glo "are_tree") rfl)) un_26 sc_26 ok_26 (by decide) bd_26 kw_26
end
section
variable {K : PySem.W.Frag} {h : Heap} {mg : Str → Option Value}
theorem un_27 : defBody (at_ "is_term") = Ss.un b27 := by kernel_rfl
theorem sc_27 : FnScope (["value", "node"] : List Str) (List.take 1 (["value", "node"] : List Str)) (defScope (at_ "is_term")) := ⟨by kernel_rfl, by kernel_rfl, by kernel_rfl, by decide +kernel, by kernel_rfl, by decide +kernel, by decide +kernel⟩
theorem ok_27 : Ss.okS ⟨(["value", "node"] : List Str), fs_, kws_⟩ (defScope (at_ "is_term")) b27 = true := by kernel_rfl
theorem bd_27 (kV doc pm : Value) (an : Option Addr) (cdv ct : Value) (us : List Value) (hl : us.length = (List.take 1 (["value", "node"] : List Str)).length) : bindArgs (PySem.W.fnOf "is_term" "is_term" (defArgs (at_ "is_term")) (defBody (at_ "is_term")) (defScope (at_ "is_term")) .none kV doc pm an cdv ct) ⟨us, []⟩ = pure ((List.take 1 (["value", "node"] : List Str)).zip us) := match us, hl with | [_], _ => rfl
theorem kw_27 (kV doc pm : Value) (an : Option Addr) (cdv ct : Value) : KwOk kws_ 27 (PySem.W.fnOf "is_term" "is_term" (defArgs (at_ "is_term")) (defBody (at_ "is_term")) (defScope (at_ "is_term")) .none kV doc pm an cdv ct) (List.take 1 (["value", "node"] : List Str)) := by
  intro n ks hm us zs h1 h2
  simp only [kws_, List.mem_cons, List.not_mem_nil, or_false, Prod.mk.injEq] at hm
  omega
theorem df_27 (X : K.In h) (G : h.Ns mainGlobals mg) (c : He.SaysD fa_ fn_ K) : DefOk K mg fs_ kws_ 27 ⟨"is_term", (["value", "node"] : List Str), 1, b27⟩ := by
  obtain ⟨fd, F⟩ := c.def_ 27 (d := dtD ⟨"is_term", (["value", "node"] : List Str), 1, b27⟩ (at_ "is_term")) rfl
  exact def_of (st := at_ "is_term") F (He.glo_ok X G (c.fact 27 (f := .glo "is_term") rfl)) un_27 sc_27 ok_27 (by decide) bd_27 kw_27
end
section
variable {K : PySem.W.Frag} {h : Heap} {mg : Str → Option Value}
theorem un_28 : defBody (at_ "want_term") = Ss.un b28 := by kernel_rfl
theorem sc_28 : FnScope (["value"] : List Str) (List.take 1 (["value"] : List Str)) (defScope (at_ "want_term")) := ⟨by kernel_rfl, by kernel_rfl, by kernel_rfl, by decide +kernel, by kernel_rfl, by decide +kernel, by decide +kernel⟩
theorem ok_28 : Ss.okS ⟨(["value"] : List Str), fs_, kws_⟩ (defScope (at_ "want_term")) b28 = true := by kernel_rfl
theorem bd_28 (kV doc pm : Value) (an : Option Addr) (cdv ct : Value) (us : List Value) (hl : us.length = (List.take 1 (["value"] : List Str)).length) : bindArgs (PySem.W.fnOf "want_term" "want_term" (defArgs (at_ "want_term")) (defBody (at_ "want_term")) (defScope (at_ "want_term")) .none kV doc pm an cdv ct) ⟨us, []⟩ = pure ((List.take 1 (["value"] : List Str)).zip us) := match us, hl with | [_], _ => rfl
theorem kw_28 (kV doc pm : Value) (an : Option Addr) (cdv ct : Value) : KwOk kws_ 28 (PySem.W.fnOf "want_term" "want_term" (defArgs (at_ "want_term")) (defBody (at_ "want_term")) (defScope (at_ "want_term")) .none kV doc pm an cdv ct) (List.take 1 (["value"] : List Str)) := by
  intro n ks hm us zs h1 h2
  simp only [kws_, List.mem_cons, List.not_mem_nil, or_false, Prod.mk.injEq] at hm
  omega
theorem df_28 (X : K.In h) (G : h.Ns mainGlobals mg) (c : He.SaysD fa_ fn_ K) : DefOk K mg fs_ kws_ 28 ⟨"want_term", (["value"] : List Str), 1, b28⟩ := by
  obtain ⟨fd, F⟩ := c.def_ 28 (d := dtD ⟨"want_term", (["value"] : List Str), 1, b28⟩ (at_ "want_term")) rfl
  exact def_of (st := at_ "want_term") F (He.glo_ok X G (c.fact 28 (f := .glo "want_term") rfl)) un_28 sc_28 ok_28 (by decide) bd_28 kw_28
end
section
variable {K : PySem.W.Frag} {h : Heap} {mg : Str → Option Value}
theorem un_29 : defBody (at_ "letters_put") = Ss.un b29 := by kernel_rfl
theorem sc_29 : FnScope (["term", "letter", "kind", "nodes", "found", "node"] : List Str) (List.take 3 (["term", "letter", "kind", "nodes", "found", "node"] : List Str)) (defScope (at_ "letters_put")) := ⟨by kernel_rfl, by kernel_rfl, by kernel_rfl, by decide +kernel, by kernel_rfl, by decide +kernel, by decide +kernel⟩
theorem ok_29 : Ss.okS ⟨(["term", "letter", "kind", "nodes", "found", "node"] : List Str), fs_, kws_⟩ (defScope (at_ "letters_put")) b29 = true := by kernel_rfl
theorem bd_29 (kV doc pm : Value) (an : Option Addr) (cdv ct : Value) (us : List Value) (hl : us.length = (List.take 3 (["term", "letter", "kind", "nodes", "found", "node"] : List Str)).length) : bindArgs (PySem.W.fnOf "letters_put" "letters_put" (defArgs (at_ "letters_put")) (defBody (at_ "letters_put")) (defScope (at_ "letters_put")) .none kV doc pm an cdv ct) ⟨us, []⟩ = pure ((List.take 3 (["term", "letter", "kind", "nodes", "found", "node"] : List Str)).zip us) := match us, hl with | [_, _, _], _ => rfl
theorem kw_29 (kV doc pm : Value) (an : Option Addr) (cdv ct : Value) : KwOk kws_ 29 (PySem.W.fnOf "letters_put" "letters_put" (defArgs (at_ "letters_put")) (defBody (at_ "letters_put")) (defScope (at_ "letters_put")) .none kV doc pm an cdv ct) (List.take 3 (["term", "letter", "kind", "nodes", "found", "node"] : List Str)) := by
  intro n ks hm us zs h1 h2
  simp only [kws_, List.mem_cons, List.not_mem_nil, or_false, Prod.mk.injEq] at hm
  rcases hm with ⟨h, rfl, rfl⟩ | ⟨h, rfl, rfl⟩ | ⟨h, rfl, rfl⟩ | ⟨h, rfl, rfl⟩ | ⟨h, rfl, rfl⟩ | ⟨h, rfl, rfl⟩
  · omega
  · omega
  · omega
  · omega
  · omega
  · match us, h1, zs, h2 with | [], _, [_, _, _], _ => exact ⟨_, rfl, fun s => .of_eq rfl⟩
theorem df_29 (X : K.In h) (G : h.Ns mainGlobals mg) (c : He.SaysD fa_ fn_ K) : DefOk K mg fs_ kws_ 29 ⟨"letters_put", (["term", "letter", "kind", "nodes", "found", "node"] : List Str), 3, b29⟩ := by
  obtain ⟨fd, F⟩ := c.def_ 29 (d := dtD ⟨"letters_put", (["term", "letter", "kind", "nodes", "found", "node"] : List Str), 3, b29⟩ (at_ "letters_put")) rfl
  exact def_of (st := at_ "letters_put") F (He.glo_ok X G (c.fact 29 (f := .glo "letters_put") rfl)) un_29 sc_29 ok_29 (by decide) bd_29 kw_29
end
section
variable {K : PySem.W.Frag} {h : Heap} {mg : Str → Option Value}
theorem un_30 : defBody (at_ "_law_pot") = Ss.un b30 := by kernel_rfl
theorem sc_30 : FnScope (["_law_script", "_law_k", "_law_cell"] : List Str) (List.take 2 (["_law_script", "_law_k", "_law_cell"] : List Str)) (defScope (at_ "_law_pot")) := ⟨by kernel_rfl, by kernel_rfl, by kernel_rfl, by decide +kernel, by kernel_rfl, by decide +kernel, by decide +kernel⟩
theorem ok_30 : Ss.okS ⟨(["_law_script", "_law_k", "_law_cell"] : List Str), fs_, kws_⟩ (defScope (at_ "_law_pot")) b30 = true := by kernel_rfl
theorem bd_30 (kV doc pm : Value) (an : Option Addr) (cdv ct : Value) (us : List Value) (hl : us.length = (List.take 2 (["_law_script", "_law_k", "_law_cell"] : List Str)).length) : bindArgs (PySem.W.fnOf "_law_pot" "_law_pot" (defArgs (at_ "_law_pot")) (defBody (at_ "_law_pot")) (defScope (at_ "_law_pot")) .none kV doc pm an cdv ct) ⟨us, []⟩ = pure ((List.take 2 (["_law_script", "_law_k", "_law_cell"] : List Str)).zip us) := match us, hl with | [_, _], _ => rfl
theorem kw_30 (kV doc pm : Value) (an : Option Addr) (cdv ct : Value) : KwOk kws_ 30 (PySem.W.fnOf "_law_pot" "_law_pot" (defArgs (at_ "_law_pot")) (defBody (at_ "_law_pot")) (defScope (at_ "_law_pot")) .none kV doc pm an cdv ct) (List.take 2 (["_law_script", "_law_k", "_law_cell"] : List Str)) := by
  intro n ks hm us zs h1 h2
  simp only [kws_, List.mem_cons, List.not_mem_nil, or_false, Prod.mk.injEq] at hm
  omega
theorem df_30 (X : K.In h) (G : h.Ns mainGlobals mg) (c : He.SaysD fa_ fn_ K) : DefOk K mg fs_ kws_ 30 ⟨"_law_pot", (["_law_script", "_law_k", "_law_cell"] : List Str), 2, b30⟩ := by
  obtain ⟨fd, F⟩ := c.def_ 30 (d := dtD ⟨"_law_pot", (["_law_script", "_law_k", "_law_cell"] : List Str), 2, b30⟩ (at_ "_law_pot")) rfl
  exact def_of (st := at_ "_law_pot") F (He.glo_ok X G (c.fact 30 (f := .glo "_law_pot") rfl)) un_30 sc_30 ok_30 (by decide) bd_30 kw_30
end
section
variable {K : PySem.W.Frag} {h : Heap} {mg : Str → Option Value}
theorem un_31 : defBody (at_ "_law_draw") = Ss.un b31 := by kernel_rfl
theorem sc_31 : FnScope (["_law_pot_here", "_law_size", "_law_digit"] : List Str) (List.take 2 (["_law_pot_here", "_law_size", "_law_digit"] : List Str)) (defScope (at_ "_law_draw")) := ⟨by kernel_rfl, by kernel_rfl, by kernel_rfl, by decide +kernel, by kernel_rfl, by decide +kernel, by decide +kernel⟩
theorem ok_31 : Ss.okS ⟨(["_law_pot_here", "_law_size", "_law_digit"] : List Str), fs_, kws_⟩ (defScope (at_ "_law_draw")) b31 = true := by kernel_rfl
theorem bd_31 (kV doc pm : Value) (an : Option Addr) (cdv ct : Value) (us : List Value) (hl : us.length = (List.take 2 (["_law_pot_here", "_law_size", "_law_digit"] : List Str)).length) : bindArgs (PySem.W.fnOf "_law_draw" "_law_draw" (defArgs (at_ "_law_draw")) (defBody (at_ "_law_draw")) (defScope (at_ "_law_draw")) .none kV doc pm an cdv ct) ⟨us, []⟩ = pure ((List.take 2 (["_law_pot_here", "_law_size", "_law_digit"] : List Str)).zip us) := match us, hl with | [_, _], _ => rfl
theorem kw_31 (kV doc pm : Value) (an : Option Addr) (cdv ct : Value) : KwOk kws_ 31 (PySem.W.fnOf "_law_draw" "_law_draw" (defArgs (at_ "_law_draw")) (defBody (at_ "_law_draw")) (defScope (at_ "_law_draw")) .none kV doc pm an cdv ct) (List.take 2 (["_law_pot_here", "_law_size", "_law_digit"] : List Str)) := by
  intro n ks hm us zs h1 h2
  simp only [kws_, List.mem_cons, List.not_mem_nil, or_false, Prod.mk.injEq] at hm
  omega
theorem df_31 (X : K.In h) (G : h.Ns mainGlobals mg) (c : He.SaysD fa_ fn_ K) : DefOk K mg fs_ kws_ 31 ⟨"_law_draw", (["_law_pot_here", "_law_size", "_law_digit"] : List Str), 2, b31⟩ := by
  obtain ⟨fd, F⟩ := c.def_ 31 (d := dtD ⟨"_law_draw", (["_law_pot_here", "_law_size", "_law_digit"] : List Str), 2, b31⟩ (at_ "_law_draw")) rfl
  exact def_of (st := at_ "_law_draw") F (He.glo_ok X G (c.fact 31 (f := .glo "_law_draw") rfl)) un_31 sc_31 ok_31 (by decide) bd_31 kw_31
end
section
variable {K : PySem.W.Frag} {h : Heap} {mg : Str → Option Value}
theorem un_32 : defBody (at_ "_law_pick") = Ss.un b32 := by kernel_rfl
theorem sc_32 : FnScope (["_law_pot_here", "_law_some"] : List Str) (List.take 2 (["_law_pot_here", "_law_some"] : List Str)) (defScope (at_ "_law_pick")) := ⟨by kernel_rfl, by kernel_rfl, by kernel_rfl, by decide +kernel, by kernel_rfl, by decide +kernel, by decide +kernel⟩
theorem ok_32 : Ss.okS ⟨(["_law_pot_here", "_law_some"] : List Str), fs_, kws_⟩ (defScope (at_ "_law_pick")) b32 = true := by kernel_rfl
theorem bd_32 (kV doc pm : Value) (an : Option Addr) (cdv ct : Value) (us : List Value) (hl : us.length = (List.take 2 (["_law_pot_here", "_law_some"] : List Str)).length) : bindArgs (PySem.W.fnOf "_law_pick" "_law_pick" (defArgs (at_ "_law_pick")) (defBody (at_ "_law_pick")) (defScope (at_ "_law_pick")) .none kV doc pm an cdv ct) ⟨us, []⟩ = pure ((List.take 2 (["_law_pot_here", "_law_some"] : List Str)).zip us) := match us, hl with | [_, _], _ => rfl
theorem kw_32 (kV doc pm : Value) (an : Option Addr) (cdv ct : Value) : KwOk kws_ 32 (PySem.W.fnOf "_law_pick" "_law_pick" (defArgs (at_ "_law_pick")) (defBody (at_ "_law_pick")) (defScope (at_ "_law_pick")) .none kV doc pm an cdv ct) (List.take 2 (["_law_pot_here", "_law_some"] : List Str)) := by
  intro n ks hm us zs h1 h2
  simp only [kws_, List.mem_cons, List.not_mem_nil, or_false, Prod.mk.injEq] at hm
  omega
theorem df_32 (X : K.In h) (G : h.Ns mainGlobals mg) (c : He.SaysD fa_ fn_ K) : DefOk K mg fs_ kws_ 32 ⟨"_law_pick", (["_law_pot_here", "_law_some"] : List Str), 2, b32⟩ := by
  obtain ⟨fd, F⟩ := c.def_ 32 (d := dtD ⟨"_law_pick", (["_law_pot_here", "_law_some"] : List Str), 2, b32⟩ (at_ "_law_pick")) rfl
  exact def_of (st := at_ "_law_pick") F (He.glo_ok X G (c.fact 32 (f := .glo "_law_pick") rfl)) un_32 sc_32 ok_32 (by decide) bd_32 kw_32
end
section
variable {K : PySem.W.Frag} {h : Heap} {mg : Str → Option Value}
theorem un_33 : defBody (at_ "_law_is_shown") = Ss.un b33 := by kernel_rfl
theorem sc_33 : FnScope (["_law_kind_here"] : List Str) (List.take 1 (["_law_kind_here"] : List Str)) (defScope (at_ "_law_is_shown")) := ⟨by kernel_rfl, by kernel_rfl, by kernel_rfl, by decide +kernel, by kernel_rfl, by decide +kernel, by decide +kernel⟩
theorem ok_33 : Ss.okS ⟨(["_law_kind_here"] : List Str), fs_, kws_⟩ (defScope (at_ "_law_is_shown")) b33 = true := by kernel_rfl
theorem bd_33 (kV doc pm : Value) (an : Option Addr) (cdv ct : Value) (us : List Value) (hl : us.length = (List.take 1 (["_law_kind_here"] : List Str)).length) : bindArgs (PySem.W.fnOf "_law_is_shown" "_law_is_shown" (defArgs (at_ "_law_is_shown")) (defBody (at_ "_law_is_shown")) (defScope (at_ "_law_is_shown")) .none kV doc pm an cdv ct) ⟨us, []⟩ = pure ((List.take 1 (["_law_kind_here"] : List Str)).zip us) := match us, hl with | [_], _ => rfl
theorem kw_33 (kV doc pm : Value) (an : Option Addr) (cdv ct : Value) : KwOk kws_ 33 (PySem.W.fnOf "_law_is_shown" "_law_is_shown" (defArgs (at_ "_law_is_shown")) (defBody (at_ "_law_is_shown")) (defScope (at_ "_law_is_shown")) .none kV doc pm an cdv ct) (List.take 1 (["_law_kind_here"] : List Str)) := by
  intro n ks hm us zs h1 h2
  simp only [kws_, List.mem_cons, List.not_mem_nil, or_false, Prod.mk.injEq] at hm
  omega
theorem df_33 (X : K.In h) (G : h.Ns mainGlobals mg) (c : He.SaysD fa_ fn_ K) : DefOk K mg fs_ kws_ 33 ⟨"_law_is_shown", (["_law_kind_here"] : List Str), 1, b33⟩ := by
  obtain ⟨fd, F⟩ := c.def_ 33 (d := dtD ⟨"_law_is_shown", (["_law_kind_here"] : List Str), 1, b33⟩ (at_ "_law_is_shown")) rfl
  exact def_of (st := at_ "_law_is_shown") F (He.glo_ok X G (c.fact 33 (f := .glo "_law_is_shown") rfl)) un_33 sc_33 ok_33 (by decide) bd_33 kw_33
end
section
variable {K : PySem.W.Frag} {h : Heap} {mg : Str → Option Value}
theorem un_34 : defBody (at_ "_law_is_met") = Ss.un b34 := by kernel_rfl
theorem sc_34 : FnScope (["_law_kind_here"] : List Str) (List.take 1 (["_law_kind_here"] : List Str)) (defScope (at_ "_law_is_met")) := ⟨by kernel_rfl, by kernel_rfl, by kernel_rfl, by decide +kernel, by kernel_rfl, by decide +kernel, by decide +kernel⟩
theorem ok_34 : Ss.okS ⟨(["_law_kind_here"] : List Str), fs_, kws_⟩ (defScope (at_ "_law_is_met")) b34 = true := by kernel_rfl
theorem bd_34 (kV doc pm : Value) (an : Option Addr) (cdv ct : Value) (us : List Value) (hl : us.length = (List.take 1 (["_law_kind_here"] : List Str)).length) : bindArgs (PySem.W.fnOf "_law_is_met" "_law_is_met" (defArgs (at_ "_law_is_met")) (defBody (at_ "_law_is_met")) (defScope (at_ "_law_is_met")) .none kV doc pm an cdv ct) ⟨us, []⟩ = pure ((List.take 1 (["_law_kind_here"] : List Str)).zip us) := match us, hl with | [_], _ => rfl
theorem kw_34 (kV doc pm : Value) (an : Option Addr) (cdv ct : Value) : KwOk kws_ 34 (PySem.W.fnOf "_law_is_met" "_law_is_met" (defArgs (at_ "_law_is_met")) (defBody (at_ "_law_is_met")) (defScope (at_ "_law_is_met")) .none kV doc pm an cdv ct) (List.take 1 (["_law_kind_here"] : List Str)) := by
  intro n ks hm us zs h1 h2
  simp only [kws_, List.mem_cons, List.not_mem_nil, or_false, Prod.mk.injEq] at hm
  omega
theorem df_34 (X : K.In h) (G : h.Ns mainGlobals mg) (c : He.SaysD fa_ fn_ K) : DefOk K mg fs_ kws_ 34 ⟨"_law_is_met", (["_law_kind_here"] : List Str), 1, b34⟩ := by
  obtain ⟨fd, F⟩ := c.def_ 34 (d := dtD ⟨"_law_is_met", (["_law_kind_here"] : List Str), 1, b34⟩ (at_ "_law_is_met")) rfl
  exact def_of (st := at_ "_law_is_met") F (He.glo_ok X G (c.fact 34 (f := .glo "_law_is_met") rfl)) un_34 sc_34 ok_34 (by decide) bd_34 kw_34
end
section
variable {K : PySem.W.Frag} {h : Heap} {mg : Str → Option Value}
theorem un_35 : defBody (at_ "_law_is_data") = Ss.un b35 := by kernel_rfl
theorem sc_35 : FnScope (["_law_kind_here"] : List Str) (List.take 1 (["_law_kind_here"] : List Str)) (defScope (at_ "_law_is_data")) := ⟨by kernel_rfl, by kernel_rfl, by kernel_rfl, by decide +kernel, by kernel_rfl, by decide +kernel, by decide +kernel⟩
theorem ok_35 : Ss.okS ⟨(["_law_kind_here"] : List Str), fs_, kws_⟩ (defScope (at_ "_law_is_data")) b35 = true := by kernel_rfl
theorem bd_35 (kV doc pm : Value) (an : Option Addr) (cdv ct : Value) (us : List Value) (hl : us.length = (List.take 1 (["_law_kind_here"] : List Str)).length) : bindArgs (PySem.W.fnOf "_law_is_data" "_law_is_data" (defArgs (at_ "_law_is_data")) (defBody (at_ "_law_is_data")) (defScope (at_ "_law_is_data")) .none kV doc pm an cdv ct) ⟨us, []⟩ = pure ((List.take 1 (["_law_kind_here"] : List Str)).zip us) := match us, hl with | [_], _ => rfl
theorem kw_35 (kV doc pm : Value) (an : Option Addr) (cdv ct : Value) : KwOk kws_ 35 (PySem.W.fnOf "_law_is_data" "_law_is_data" (defArgs (at_ "_law_is_data")) (defBody (at_ "_law_is_data")) (defScope (at_ "_law_is_data")) .none kV doc pm an cdv ct) (List.take 1 (["_law_kind_here"] : List Str)) := by
  intro n ks hm us zs h1 h2
  simp only [kws_, List.mem_cons, List.not_mem_nil, or_false, Prod.mk.injEq] at hm
  omega
theorem df_35 (X : K.In h) (G : h.Ns mainGlobals mg) (c : He.SaysD fa_ fn_ K) : DefOk K mg fs_ kws_ 35 ⟨"_law_is_data", (["_law_kind_here"] : List Str), 1, b35⟩ := by
  obtain ⟨fd, F⟩ := c.def_ 35 (d := dtD ⟨"_law_is_data", (["_law_kind_here"] : List Str), 1, b35⟩ (at_ "_law_is_data")) rfl
  exact def_of (st := at_ "_law_is_data") F (He.glo_ok X G (c.fact 35 (f := .glo "_law_is_data") rfl)) un_35 sc_35 ok_35 (by decide) bd_35 kw_35
end
section
variable {K : PySem.W.Frag} {h : Heap} {mg : Str → Option Value}
theorem un_36 : defBody (at_ "_law_signs") = Ss.un b36 := by kernel_rfl
theorem sc_36 : FnScope (["_law_kind_here"] : List Str) (List.take 1 (["_law_kind_here"] : List Str)) (defScope (at_ "_law_signs")) := ⟨by kernel_rfl, by kernel_rfl, by kernel_rfl, by decide +kernel, by kernel_rfl, by decide +kernel, by decide +kernel⟩
theorem ok_36 : Ss.okS ⟨(["_law_kind_here"] : List Str), fs_, kws_⟩ (defScope (at_ "_law_signs")) b36 = true := by kernel_rfl
theorem bd_36 (kV doc pm : Value) (an : Option Addr) (cdv ct : Value) (us : List Value) (hl : us.length = (List.take 1 (["_law_kind_here"] : List Str)).length) : bindArgs (PySem.W.fnOf "_law_signs" "_law_signs" (defArgs (at_ "_law_signs")) (defBody (at_ "_law_signs")) (defScope (at_ "_law_signs")) .none kV doc pm an cdv ct) ⟨us, []⟩ = pure ((List.take 1 (["_law_kind_here"] : List Str)).zip us) := match us, hl with | [_], _ => rfl
theorem kw_36 (kV doc pm : Value) (an : Option Addr) (cdv ct : Value) : KwOk kws_ 36 (PySem.W.fnOf "_law_signs" "_law_signs" (defArgs (at_ "_law_signs")) (defBody (at_ "_law_signs")) (defScope (at_ "_law_signs")) .none kV doc pm an cdv ct) (List.take 1 (["_law_kind_here"] : List Str)) := by
  intro n ks hm us zs h1 h2
  simp only [kws_, List.mem_cons, List.not_mem_nil, or_false, Prod.mk.injEq] at hm
  omega
theorem df_36 (X : K.In h) (G : h.Ns mainGlobals mg) (c : He.SaysD fa_ fn_ K) : DefOk K mg fs_ kws_ 36 ⟨"_law_signs", (["_law_kind_here"] : List Str), 1, b36⟩ := by
  obtain ⟨fd, F⟩ := c.def_ 36 (d := dtD ⟨"_law_signs", (["_law_kind_here"] : List Str), 1, b36⟩ (at_ "_law_signs")) rfl
  exact def_of (st := at_ "_law_signs") F (He.glo_ok X G (c.fact 36 (f := .glo "_law_signs") rfl)) un_36 sc_36 ok_36 (by decide) bd_36 kw_36
end
section
variable {K : PySem.W.Frag} {h : Heap} {mg : Str → Option Value}
theorem un_37 : defBody (at_ "_law_letters") = Ss.un b37 := by kernel_rfl
theorem sc_37 : FnScope (["_law_kind_here"] : List Str) (List.take 1 (["_law_kind_here"] : List Str)) (defScope (at_ "_law_letters")) := ⟨by kernel_rfl, by kernel_rfl, by kernel_rfl, by decide +kernel, by kernel_rfl, by decide +kernel, by decide +kernel⟩
theorem ok_37 : Ss.okS ⟨(["_law_kind_here"] : List Str), fs_, kws_⟩ (defScope (at_ "_law_letters")) b37 = true := by kernel_rfl
theorem bd_37 (kV doc pm : Value) (an : Option Addr) (cdv ct : Value) (us : List Value) (hl : us.length = (List.take 1 (["_law_kind_here"] : List Str)).length) : bindArgs (PySem.W.fnOf "_law_letters" "_law_letters" (defArgs (at_ "_law_letters")) (defBody (at_ "_law_letters")) (defScope (at_ "_law_letters")) .none kV doc pm an cdv ct) ⟨us, []⟩ = pure ((List.take 1 (["_law_kind_here"] : List Str)).zip us) := match us, hl with | [_], _ => rfl
theorem kw_37 (kV doc pm : Value) (an : Option Addr) (cdv ct : Value) : KwOk kws_ 37 (PySem.W.fnOf "_law_letters" "_law_letters" (defArgs (at_ "_law_letters")) (defBody (at_ "_law_letters")) (defScope (at_ "_law_letters")) .none kV doc pm an cdv ct) (List.take 1 (["_law_kind_here"] : List Str)) := by
  intro n ks hm us zs h1 h2
  simp only [kws_, List.mem_cons, List.not_mem_nil, or_false, Prod.mk.injEq] at hm
  omega
theorem df_37 (X : K.In h) (G : h.Ns mainGlobals mg) (c : He.SaysD fa_ fn_ K) : DefOk K mg fs_ kws_ 37 ⟨"_law_letters", (["_law_kind_here"] : List Str), 1, b37⟩ := by
  obtain ⟨fd, F⟩ := c.def_ 37 (d := dtD ⟨"_law_letters", (["_law_kind_here"] : List Str), 1, b37⟩ (at_ "_law_letters")) rfl
  exact def_of (st := at_ "_law_letters") F (He.glo_ok X G (c.fact 37 (f := .glo "_law_letters") rfl)) un_37 sc_37 ok_37 (by decide) bd_37 kw_37
end
section
variable {K : PySem.W.Frag} {h : Heap} {mg : Str → Option Value}
theorem un_38 : defBody (at_ "_law_put") = Ss.un b38 := by kernel_rfl
theorem sc_38 : FnScope (["_law_kind_here", "_law_letter", "_law_other"] : List Str) (List.take 3 (["_law_kind_here", "_law_letter", "_law_other"] : List Str)) (defScope (at_ "_law_put")) := ⟨by kernel_rfl, by kernel_rfl, by kernel_rfl, by decide +kernel, by kernel_rfl, by decide +kernel, by decide +kernel⟩
theorem ok_38 : Ss.okS ⟨(["_law_kind_here", "_law_letter", "_law_other"] : List Str), fs_, kws_⟩ (defScope (at_ "_law_put")) b38 = true := by kernel_rfl
theorem bd_38 (kV doc pm : Value) (an : Option Addr) (cdv ct : Value) (us : List Value) (hl : us.length = (List.take 3 (["_law_kind_here", "_law_letter", "_law_other"] : List Str)).length) : bindArgs (PySem.W.fnOf "_law_put" "_law_put" (defArgs (at_ "_law_put")) (defBody (at_ "_law_put")) (defScope (at_ "_law_put")) .none kV doc pm an cdv ct) ⟨us, []⟩ = pure ((List.take 3 (["_law_kind_here", "_law_letter", "_law_other"] : List Str)).zip us) := match us, hl with | [_, _, _], _ => rfl
theorem kw_38 (kV doc pm : Value) (an : Option Addr) (cdv ct : Value) : KwOk kws_ 38 (PySem.W.fnOf "_law_put" "_law_put" (defArgs (at_ "_law_put")) (defBody (at_ "_law_put")) (defScope (at_ "_law_put")) .none kV doc pm an cdv ct) (List.take 3 (["_law_kind_here", "_law_letter", "_law_other"] : List Str)) := by
  intro n ks hm us zs h1 h2
  simp only [kws_, List.mem_cons, List.not_mem_nil, or_false, Prod.mk.injEq] at hm
  omega
theorem df_38 (X : K.In h) (G : h.Ns mainGlobals mg) (c : He.SaysD fa_ fn_ K) : DefOk K mg fs_ kws_ 38 ⟨"_law_put", (["_law_kind_here", "_law_letter", "_law_other"] : List Str), 3, b38⟩ := by
  obtain ⟨fd, F⟩ := c.def_ 38 (d := dtD ⟨"_law_put", (["_law_kind_here", "_law_letter", "_law_other"] : List Str), 3, b38⟩ (at_ "_law_put")) rfl
  exact def_of (st := at_ "_law_put") F (He.glo_ok X G (c.fact 38 (f := .glo "_law_put") rfl)) un_38 sc_38 ok_38 (by decide) bd_38 kw_38
end
section
variable {K : PySem.W.Frag} {h : Heap} {mg : Str → Option Value}
theorem un_39 : defBody (at_ "_law_kind") = Ss.un b39 := by kernel_rfl
theorem sc_39 : FnScope (["_law_pot_here", "_law_deep", "_law_way", "_law_near"] : List Str) (List.take 2 (["_law_pot_here", "_law_deep", "_law_way", "_law_near"] : List Str)) (defScope (at_ "_law_kind")) := ⟨by kernel_rfl, by kernel_rfl, by kernel_rfl, by decide +kernel, by kernel_rfl, by decide +kernel, by decide +kernel⟩
theorem ok_39 : Ss.okS ⟨(["_law_pot_here", "_law_deep", "_law_way", "_law_near"] : List Str), fs_, kws_⟩ (defScope (at_ "_law_kind")) b39 = true := by kernel_rfl
theorem bd_39 (kV doc pm : Value) (an : Option Addr) (cdv ct : Value) (us : List Value) (hl : us.length = (List.take 2 (["_law_pot_here", "_law_deep", "_law_way", "_law_near"] : List Str)).length) : bindArgs (PySem.W.fnOf "_law_kind" "_law_kind" (defArgs (at_ "_law_kind")) (defBody (at_ "_law_kind")) (defScope (at_ "_law_kind")) .none kV doc pm an cdv ct) ⟨us, []⟩ = pure ((List.take 2 (["_law_pot_here", "_law_deep", "_law_way", "_law_near"] : List Str)).zip us) := match us, hl with | [_, _], _ => rfl
theorem kw_39 (kV doc pm : Value) (an : Option Addr) (cdv ct : Value) : KwOk kws_ 39 (PySem.W.fnOf "_law_kind" "_law_kind" (defArgs (at_ "_law_kind")) (defBody (at_ "_law_kind")) (defScope (at_ "_law_kind")) .none kV doc pm an cdv ct) (List.take 2 (["_law_pot_here", "_law_deep", "_law_way", "_law_near"] : List Str)) := by
  intro n ks hm us zs h1 h2
  simp only [kws_, List.mem_cons, List.not_mem_nil, or_false, Prod.mk.injEq] at hm
  omega
theorem df_39 (X : K.In h) (G : h.Ns mainGlobals mg) (c : He.SaysD fa_ fn_ K) : DefOk K mg fs_ kws_ 39 ⟨"_law_kind", (["_law_pot_here", "_law_deep", "_law_way", "_law_near"] : List Str), 2, b39⟩ := by
  obtain ⟨fd, F⟩ := c.def_ 39 (d := dtD ⟨"_law_kind", (["_law_pot_here", "_law_deep", "_law_way", "_law_near"] : List Str), 2, b39⟩ (at_ "_law_kind")) rfl
  exact def_of (st := at_ "_law_kind") F (He.glo_ok X G (c.fact 39 (f := .glo "_law_kind") rfl)) un_39 sc_39 ok_39 (by decide) bd_39 kw_39
end
section
variable {K : PySem.W.Frag} {h : Heap} {mg : Str → Option Value}
theorem un_40 : defBody (at_ "_law_cut") = Ss.un b40 := by kernel_rfl
theorem sc_40 : FnScope (["_law_pot_here", "_law_kind_here", "_law_names", "_law_deep", "_law_way", "_law_other", "_law_body", "_law_what", "_law_near", "_law_far", "_law_more", "_law_arm", "_law_step"] : List Str) (List.take 4 (["_law_pot_here", "_law_kind_here", "_law_names", "_law_deep", "_law_way", "_law_other", "_law_body", "_law_what", "_law_near", "_law_far", "_law_more", "_law_arm", "_law_step"] : List Str)) (defScope (at_ "_law_cut")) := ⟨by kernel_rfl, by kernel_rfl, by kernel_rfl, by decide +kernel, by kernel_rfl, by decide +kernel, by decide +kernel⟩
theorem ok_40 : Ss.okS ⟨(["_law_pot_here", "_law_kind_here", "_law_names", "_law_deep", "_law_way", "_law_other", "_law_body", "_law_what", "_law_near", "_law_far", "_law_more", "_law_arm", "_law_step"] : List Str), fs_, kws_⟩ (defScope (at_ "_law_cut")) b40 = true := by kernel_rfl
theorem bd_40 (kV doc pm : Value) (an : Option Addr) (cdv ct : Value) (us : List Value) (hl : us.length = (List.take 4 (["_law_pot_here", "_law_kind_here", "_law_names", "_law_deep", "_law_way", "_law_other", "_law_body", "_law_what", "_law_near", "_law_far", "_law_more", "_law_arm", "_law_step"] : List Str)).length) : bindArgs (PySem.W.fnOf "_law_cut" "_law_cut" (defArgs (at_ "_law_cut")) (defBody (at_ "_law_cut")) (defScope (at_ "_law_cut")) .none kV doc pm an cdv ct) ⟨us, []⟩ = pure ((List.take 4 (["_law_pot_here", "_law_kind_here", "_law_names", "_law_deep", "_law_way", "_law_other", "_law_body", "_law_what", "_law_near", "_law_far", "_law_more", "_law_arm", "_law_step"] : List Str)).zip us) := match us, hl with | [_, _, _, _], _ => rfl
theorem kw_40 (kV doc pm : Value) (an : Option Addr) (cdv ct : Value) : KwOk kws_ 40 (PySem.W.fnOf "_law_cut" "_law_cut" (defArgs (at_ "_law_cut")) (defBody (at_ "_law_cut")) (defScope (at_ "_law_cut")) .none kV doc pm an cdv ct) (List.take 4 (["_law_pot_here", "_law_kind_here", "_law_names", "_law_deep", "_law_way", "_law_other", "_law_body", "_law_what", "_law_near", "_law_far", "_law_more", "_law_arm", "_law_step"] : List Str)) := by
  intro n ks hm us zs h1 h2
  simp only [kws_, List.mem_cons, List.not_mem_nil, or_false, Prod.mk.injEq] at hm
  omega
theorem df_40 (X : K.In h) (G : h.Ns mainGlobals mg) (c : He.SaysD fa_ fn_ K) : DefOk K mg fs_ kws_ 40 ⟨"_law_cut", (["_law_pot_here", "_law_kind_here", "_law_names", "_law_deep", "_law_way", "_law_other", "_law_body", "_law_what", "_law_near", "_law_far", "_law_more", "_law_arm", "_law_step"] : List Str), 4, b40⟩ := by
  obtain ⟨fd, F⟩ := c.def_ 40 (d := dtD ⟨"_law_cut", (["_law_pot_here", "_law_kind_here", "_law_names", "_law_deep", "_law_way", "_law_other", "_law_body", "_law_what", "_law_near", "_law_far", "_law_more", "_law_arm", "_law_step"] : List Str), 4, b40⟩ (at_ "_law_cut")) rfl
  exact def_of (st := at_ "_law_cut") F (He.glo_ok X G (c.fact 40 (f := .glo "_law_cut") rfl)) un_40 sc_40 ok_40 (by decide) bd_40 kw_40
end
section
variable {K : PySem.W.Frag} {h : Heap} {mg : Str → Option Value}
theorem un_41 : defBody (at_ "_law_made") = Ss.un b41 := by kernel_rfl
theorem sc_41 : FnScope (["_law_pot_here", "_law_kind_here", "_law_names", "_law_deep", "_law_here", "_law_near", "_law_at", "_law_one"] : List Str) (List.take 4 (["_law_pot_here", "_law_kind_here", "_law_names", "_law_deep", "_law_here", "_law_near", "_law_at", "_law_one"] : List Str)) (defScope (at_ "_law_made")) := ⟨by kernel_rfl, by kernel_rfl, by kernel_rfl, by decide +kernel, by kernel_rfl, by decide +kernel, by decide +kernel⟩
theorem ok_41 : Ss.okS ⟨(["_law_pot_here", "_law_kind_here", "_law_names", "_law_deep", "_law_here", "_law_near", "_law_at", "_law_one"] : List Str), fs_, kws_⟩ (defScope (at_ "_law_made")) b41 = true := by kernel_rfl
theorem bd_41 (kV doc pm : Value) (an : Option Addr) (cdv ct : Value) (us : List Value) (hl : us.length = (List.take 4 (["_law_pot_here", "_law_kind_here", "_law_names", "_law_deep", "_law_here", "_law_near", "_law_at", "_law_one"] : List Str)).length) : bindArgs (PySem.W.fnOf "_law_made" "_law_made" (defArgs (at_ "_law_made")) (defBody (at_ "_law_made")) (defScope (at_ "_law_made")) .none kV doc pm an cdv ct) ⟨us, []⟩ = pure ((List.take 4 (["_law_pot_here", "_law_kind_here", "_law_names", "_law_deep", "_law_here", "_law_near", "_law_at", "_law_one"] : List Str)).zip us) := match us, hl with | [_, _, _, _], _ => rfl
theorem kw_41 (kV doc pm : Value) (an : Option Addr) (cdv ct : Value) : KwOk kws_ 41 (PySem.W.fnOf "_law_made" "_law_made" (defArgs (at_ "_law_made")) (defBody (at_ "_law_made")) (defScope (at_ "_law_made")) .none kV doc pm an cdv ct) (List.take 4 (["_law_pot_here", "_law_kind_here", "_law_names", "_law_deep", "_law_here", "_law_near", "_law_at", "_law_one"] : List Str)) := by
  intro n ks hm us zs h1 h2
  simp only [kws_, List.mem_cons, List.not_mem_nil, or_false, Prod.mk.injEq] at hm
  omega
theorem df_41 (X : K.In h) (G : h.Ns mainGlobals mg) (c : He.SaysD fa_ fn_ K) : DefOk K mg fs_ kws_ 41 ⟨"_law_made", (["_law_pot_here", "_law_kind_here", "_law_names", "_law_deep", "_law_here", "_law_near", "_law_at", "_law_one"] : List Str), 4, b41⟩ := by
  obtain ⟨fd, F⟩ := c.def_ 41 (d := dtD ⟨"_law_made", (["_law_pot_here", "_law_kind_here", "_law_names", "_law_deep", "_law_here", "_law_near", "_law_at", "_law_one"] : List Str), 4, b41⟩ (at_ "_law_made")) rfl
  exact def_of (st := at_ "_law_made") F (He.glo_ok X G (c.fact 41 (f := .glo "_law_made") rfl)) un_41 sc_41 ok_41 (by decide) bd_41 kw_41
end
section
variable {K : PySem.W.Frag} {h : Heap} {mg : Str → Option Value}
theorem un_42 : defBody (at_ "_law_kinds_right") = Ss.un b42 := by kernel_rfl
theorem sc_42 : FnScope (["_law_pot_here", "_law_kind_here", "_law_due", "_law_other"] : List Str) (List.take 2 (["_law_pot_here", "_law_kind_here", "_law_due", "_law_other"] : List Str)) (defScope (at_ "_law_kinds_right")) := ⟨by kernel_rfl, by kernel_rfl, by kernel_rfl, by decide +kernel, by kernel_rfl, by decide +kernel, by decide +kernel⟩
theorem ok_42 : Ss.okS ⟨(["_law_pot_here", "_law_kind_here", "_law_due", "_law_other"] : List Str), fs_, kws_⟩ (defScope (at_ "_law_kinds_right")) b42 = true := by kernel_rfl
theorem bd_42 (kV doc pm : Value) (an : Option Addr) (cdv ct : Value) (us : List Value) (hl : us.length = (List.take 2 (["_law_pot_here", "_law_kind_here", "_law_due", "_law_other"] : List Str)).length) : bindArgs (PySem.W.fnOf "_law_kinds_right" "_law_kinds_right" (defArgs (at_ "_law_kinds_right")) (defBody (at_ "_law_kinds_right")) (defScope (at_ "_law_kinds_right")) .none kV doc pm an cdv ct) ⟨us, []⟩ = pure ((List.take 2 (["_law_pot_here", "_law_kind_here", "_law_due", "_law_other"] : List Str)).zip us) := match us, hl with | [_, _], _ => rfl
theorem kw_42 (kV doc pm : Value) (an : Option Addr) (cdv ct : Value) : KwOk kws_ 42 (PySem.W.fnOf "_law_kinds_right" "_law_kinds_right" (defArgs (at_ "_law_kinds_right")) (defBody (at_ "_law_kinds_right")) (defScope (at_ "_law_kinds_right")) .none kV doc pm an cdv ct) (List.take 2 (["_law_pot_here", "_law_kind_here", "_law_due", "_law_other"] : List Str)) := by
  intro n ks hm us zs h1 h2
  simp only [kws_, List.mem_cons, List.not_mem_nil, or_false, Prod.mk.injEq] at hm
  omega
theorem df_42 (X : K.In h) (G : h.Ns mainGlobals mg) (c : He.SaysD fa_ fn_ K) : DefOk K mg fs_ kws_ 42 ⟨"_law_kinds_right", (["_law_pot_here", "_law_kind_here", "_law_due", "_law_other"] : List Str), 2, b42⟩ := by
  obtain ⟨fd, F⟩ := c.def_ 42 (d := dtD ⟨"_law_kinds_right", (["_law_pot_here", "_law_kind_here", "_law_due", "_law_other"] : List Str), 2, b42⟩ (at_ "_law_kinds_right")) rfl
  exact def_of (st := at_ "_law_kinds_right") F (He.glo_ok X G (c.fact 42 (f := .glo "_law_kinds_right") rfl)) un_42 sc_42 ok_42 (by decide) bd_42 kw_42
end
section
variable {K : PySem.W.Frag} {h : Heap} {mg : Str → Option Value}
theorem un_43 : defBody (at_ "_law_right") = Ss.un b43 := by kernel_rfl
theorem sc_43 : FnScope (["_law_pot_here", "_law_kind_here", "_law_other", "_law_letter", "_law_told", "_law_more", "_law_last", "_law_term", "_law_due", "_law_node", "_law_shown"] : List Str) (List.take 1 (["_law_pot_here", "_law_kind_here", "_law_other", "_law_letter", "_law_told", "_law_more", "_law_last", "_law_term", "_law_due", "_law_node", "_law_shown"] : List Str)) (defScope (at_ "_law_right")) := ⟨by kernel_rfl, by kernel_rfl, by kernel_rfl, by decide +kernel, by kernel_rfl, by decide +kernel, by decide +kernel⟩
theorem ok_43 : Ss.okS ⟨(["_law_pot_here", "_law_kind_here", "_law_other", "_law_letter", "_law_told", "_law_more", "_law_last", "_law_term", "_law_due", "_law_node", "_law_shown"] : List Str), fs_, kws_⟩ (defScope (at_ "_law_right")) b43 = true := by kernel_rfl
theorem bd_43 (kV doc pm : Value) (an : Option Addr) (cdv ct : Value) (us : List Value) (hl : us.length = (List.take 1 (["_law_pot_here", "_law_kind_here", "_law_other", "_law_letter", "_law_told", "_law_more", "_law_last", "_law_term", "_law_due", "_law_node", "_law_shown"] : List Str)).length) : bindArgs (PySem.W.fnOf "_law_right" "_law_right" (defArgs (at_ "_law_right")) (defBody (at_ "_law_right")) (defScope (at_ "_law_right")) .none kV doc pm an cdv ct) ⟨us, []⟩ = pure ((List.take 1 (["_law_pot_here", "_law_kind_here", "_law_other", "_law_letter", "_law_told", "_law_more", "_law_last", "_law_term", "_law_due", "_law_node", "_law_shown"] : List Str)).zip us) := match us, hl with | [_], _ => rfl
theorem kw_43 (kV doc pm : Value) (an : Option Addr) (cdv ct : Value) : KwOk kws_ 43 (PySem.W.fnOf "_law_right" "_law_right" (defArgs (at_ "_law_right")) (defBody (at_ "_law_right")) (defScope (at_ "_law_right")) .none kV doc pm an cdv ct) (List.take 1 (["_law_pot_here", "_law_kind_here", "_law_other", "_law_letter", "_law_told", "_law_more", "_law_last", "_law_term", "_law_due", "_law_node", "_law_shown"] : List Str)) := by
  intro n ks hm us zs h1 h2
  simp only [kws_, List.mem_cons, List.not_mem_nil, or_false, Prod.mk.injEq] at hm
  omega
theorem df_43 (X : K.In h) (G : h.Ns mainGlobals mg) (c : He.SaysD fa_ fn_ K) : DefOk K mg fs_ kws_ 43 ⟨"_law_right", (["_law_pot_here", "_law_kind_here", "_law_other", "_law_letter", "_law_told", "_law_more", "_law_last", "_law_term", "_law_due", "_law_node", "_law_shown"] : List Str), 1, b43⟩ := by
  obtain ⟨fd, F⟩ := c.def_ 43 (d := dtD ⟨"_law_right", (["_law_pot_here", "_law_kind_here", "_law_other", "_law_letter", "_law_told", "_law_more", "_law_last", "_law_term", "_law_due", "_law_node", "_law_shown"] : List Str), 1, b43⟩ (at_ "_law_right")) rfl
  exact def_of (st := at_ "_law_right") F (He.glo_ok X G (c.fact 43 (f := .glo "_law_right") rfl)) un_43 sc_43 ok_43 (by decide) bd_43 kw_43
end
section
variable {K : PySem.W.Frag} {h : Heap} {mg : Str → Option Value}
theorem un_44 : defBody (at_ "law") = Ss.un b44 := by kernel_rfl
theorem sc_44 : FnScope (["_law_script"] : List Str) (List.take 1 (["_law_script"] : List Str)) (defScope (at_ "law")) := ⟨by kernel_rfl, by kernel_rfl, by kernel_rfl, by decide +kernel, by kernel_rfl, by decide +kernel, by decide +kernel⟩
theorem ok_44 : Ss.okS ⟨(["_law_script"] : List Str), fs_, kws_⟩ (defScope (at_ "law")) b44 = true := by kernel_rfl
theorem bd_44 (kV doc pm : Value) (an : Option Addr) (cdv ct : Value) (us : List Value) (hl : us.length = (List.take 1 (["_law_script"] : List Str)).length) : bindArgs (PySem.W.fnOf "law" "law" (defArgs (at_ "law")) (defBody (at_ "law")) (defScope (at_ "law")) .none kV doc pm an cdv ct) ⟨us, []⟩ = pure ((List.take 1 (["_law_script"] : List Str)).zip us) := match us, hl with | [_], _ => rfl
theorem kw_44 (kV doc pm : Value) (an : Option Addr) (cdv ct : Value) : KwOk kws_ 44 (PySem.W.fnOf "law" "law" (defArgs (at_ "law")) (defBody (at_ "law")) (defScope (at_ "law")) .none kV doc pm an cdv ct) (List.take 1 (["_law_script"] : List Str)) := by
  intro n ks hm us zs h1 h2
  simp only [kws_, List.mem_cons, List.not_mem_nil, or_false, Prod.mk.injEq] at hm
  omega
theorem df_44 (X : K.In h) (G : h.Ns mainGlobals mg) (c : He.SaysD fa_ fn_ K) : DefOk K mg fs_ kws_ 44 ⟨"law", (["_law_script"] : List Str), 1, b44⟩ := by
  obtain ⟨fd, F⟩ := c.def_ 44 (d := dtD ⟨"law", (["_law_script"] : List Str), 1, b44⟩ (at_ "law")) rfl
  exact def_of (st := at_ "law") F (He.glo_ok X G (c.fact 44 (f := .glo "law") rfl)) un_44 sc_44 ok_44 (by decide) bd_44 kw_44
end
section
variable {K : PySem.W.Frag} {h : Heap} {mg : Str → Option Value}
theorem sys_ (X : K.In h) (G : h.Ns mainGlobals mg) {w : World} (c : He.SaysX fa_ fn_ (tabsOf csts) [] (cstsB csts) w h K) : Sys K w mg pg kws_ := by
  refine sys_of (cs := csts) X G c rfl fun i d e => ?_
  match i, e with
  | 0, e => cases e; exact df_0 X G c.t.d
  | 1, e => cases e; exact df_1 X G c.t.d
  | 2, e => cases e; exact df_2 X G c.t.d
  | 3, e => cases e; exact df_3 X G c.t.d
  | 4, e => cases e; exact df_4 X G c.t.d
  | 5, e => cases e; exact df_5 X G c.t.d
  | 6, e => cases e; exact df_6 X G c.t.d
  | 7, e => cases e; exact df_7 X G c.t.d
  | 8, e => cases e; exact df_8 X G c.t.d
  | 9, e => cases e; exact df_9 X G c.t.d
  | 10, e => cases e; exact df_10 X G c.t.d
  | 11, e => cases e; exact df_11 X G c.t.d
  | 12, e => cases e; exact df_12 X G c.t.d
  | 13, e => cases e; exact df_13 X G c.t.d
  | 14, e => cases e; exact df_14 X G c.t.d
  | 15, e => cases e; exact df_15 X G c.t.d
  | 16, e => cases e; exact df_16 X G c.t.d
  | 17, e => cases e; exact df_17 X G c.t.d
  | 18, e => cases e; exact df_18 X G c.t.d
  | 19, e => cases e; exact df_19 X G c.t.d
  | 20, e => cases e; exact df_20 X G c.t.d
  | 21, e => cases e; exact df_21 X G c.t.d
  | 22, e => cases e; exact df_22 X G c.t.d
  | 23, e => cases e; exact df_23 X G c.t.d
  | 24, e => cases e; exact df_24 X G c.t.d
  | 25, e => cases e; exact df_25 X G c.t.d
  | 26, e => cases e; exact df_26 X G c.t.d
  | 27, e => cases e; exact df_27 X G c.t.d
  | 28, e => cases e; exact df_28 X G c.t.d
  | 29, e => cases e; exact df_29 X G c.t.d
  | 30, e => cases e; exact df_30 X G c.t.d
  | 31, e => cases e; exact df_31 X G c.t.d
  | 32, e => cases e; exact df_32 X G c.t.d
  | 33, e => cases e; exact df_33 X G c.t.d
  | 34, e => cases e; exact df_34 X G c.t.d
  | 35, e => cases e; exact df_35 X G c.t.d
  | 36, e => cases e; exact df_36 X G c.t.d
  | 37, e => cases e; exact df_37 X G c.t.d
  | 38, e => cases e; exact df_38 X G c.t.d
  | 39, e => cases e; exact df_39 X G c.t.d
  | 40, e => cases e; exact df_40 X G c.t.d
  | 41, e => cases e; exact df_41 X G c.t.d
  | 42, e => cases e; exact df_42 X G c.t.d
  | 43, e => cases e; exact df_43 X G c.t.d
  | 44, e => cases e; exact df_44 X G c.t.d
  | n + 45, e => cases e
end
theorem bindlaw_ {K : PySem.W.Frag} {h : Heap} {mg : Str → Option Value} {g : Addr} {pars : Arguments} {sc : Scope} {fd : FuncData} (c : He.SaysD fa_ fn_ K) (X : K.In h) (G : h.Ns mainGlobals mg) (hg : mg "law" = some (.ref g)) (F : FunD K "law" "law" pars (Ss.un b44) sc [] [] g fd) (s : Shared) (u : Value) : BindsTo s fd ⟨[u], []⟩ [("_law_script", u)] := by
  obtain ⟨fd2, F2⟩ := c.def_ 44 (d := dtD ⟨"law", (["_law_script"] : List Str), 1, b44⟩ (at_ "law")) rfl
  have e := He.glo_ok X G (c.fact 44 (f := .glo "law") rfl)
  rw [hg] at e
  cases e
  have b := FunD.bindsA (ps := List.take 1 (["_law_script"] : List Str)) F2 bd_44
  obtain ⟨_, _, _, _, _, _, _, _, _, _, e1, l1, _⟩ := F.ex
  obtain ⟨_, _, _, _, _, _, _, _, _, _, e2, l2, _⟩ := F2.ex
  have ee := l1.symm.trans l2
  cases ee
  exact b s [u] rfl
end K13

set_option maxHeartbeats 0
namespace K13
open PySem PySem.Spec PyProof.Rows L2 Ev
theorem room_ : Room 60 callerA := ⟨rfl, by decide, by decide⟩
end K13
open PySem PySem.W PySem.Calls PyProof.Rows
theorem PySem.Challenge.cw_selfprint_k13_whole_kinds_and_letters_pu_holds : PySem.Challenge.rw_selfprint_k13_whole_kinds_and_letters_pu.Holds := by
  w_on; o_law
  refine HandSHeadRun.head_any (r := OpenLaw.row PySem.Challenge.rw_selfprint_k13_whole_kinds_and_letters_pu) (q := view (OpenLaw.row PySem.Challenge.rw_selfprint_k13_whole_kinds_and_letters_pu).prog [K13.lawIx_]) (H := K13.hk_) (ob := K13.ob_) (M := 6000) (loose := K13.loose_) (d := HandSHeadRun.topDef (OpenLaw.row PySem.Challenge.rw_selfprint_k13_whole_kinds_and_letters_pu).prog K13.lawIx_) (kwd := []) K13.ob_eq_
    (by kernel_rfl) (fun s => by kernel_rfl) K13.run_ (by kernel_rfl) (by kernel_rfl) (by kernel_rfl) (by rfl) (by first | assumption | decide +kernel) (by decide +kernel) ⟨rfl, rfl, rfl, rfl, rfl, by decide +kernel⟩ ?hw ?hc
  case hw => w_witness2
  case hc =>
    refine Ev.walk_end (l := PySem.Challenge.rw_selfprint_k13_whole_kinds_and_letters_pu) (n := 63) (k := 60) (i := 44) (pg := K13.pg) (kws := K13.kws_) (df := ⟨"law", ["_law_script"], 1, K13.b44⟩) (x := "_law_script") rfl (by decide) (by kernel_rfl) K13.room_ rfl rfl (by kernel_rfl) ?F K13.law_all
    intro w mg h Y G
    obtain ⟨K, KX, c⟩ := Y
    exact ⟨K, KX, K13.sys_ KX G c, fun g pars sc fd hg F s u => K13.bindlaw_ c.t.d KX G hg F s u⟩

