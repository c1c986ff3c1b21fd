import PyProof.Rows.All
import HandS.ForMost
import HandS.ForExc
import HandS.CallSlots
import HandS.IsInst
import HandS.Defaults
import PyProof.ReprRoads
import KE.DataEq
import HandS.More
import HandS.Flow
import HandS.HeadEnd
import HandS.HeadHook2
import HandS.HeadHook4
import HandS.Head0
import HandS.Head1
import HandS.Head2
import HandS.HeadWalk
import PySem.Challenge.RW_selfprint_k14_any_value_as_term
set_option Elab.async false
set_option linter.all false
set_option maxRecDepth 100000
namespace Ev
open PySem PySem.Spec PyProof.Rows L2

/-! ## values, told without a heap but for lists that change -/
inductive W where
  | non | bl (b : Bool) | int (i : Int) | str (s : Str) | ty (n : String)
  | tup (ws : List W) | lst (ws : List W) | emp | scr (ns : List Int) | ref (n : Nat) | dic (kvs : List (Str × W))
deriving Inhabited

/-- what changes, by number -/
inductive Ob where
  | lst (ws : List W) | dic (kvs : List (Str × W))

/-- an exception: the name of its class, its fields -/
structure Ex where
  cls : Str
  fs : List (Str × W)

/-- what a name holds: nothing that is known, a value, a list of its own -/
inductive Sl where
  | non | val (w : W) | own (ws : List W)

abbrev Sls := List Sl
abbrev Obs := List Ob

inductive R (α : Type) where
  | ok (a : α) (h : Obs) | exc (x : Ex) (h : Obs) | bad

/-- what a block comes to -/
inductive Out where
  | nx (σ : Sls) (h : Obs) | rt (w : W) (h : Obs) | bk (σ : Sls) (h : Obs) | ct (σ : Sls) (h : Obs) | exc (x : Ex) (σ : Sls) (h : Obs) | bad

@[inline] def R.bind {α β : Type} (r : R α) (f : α → Obs → R β) : R β := match r with
  | .ok a h => f a h
  | .exc x h => .exc x h
  | .bad => .bad
/-- an answer, or none -/
def R.opt {α : Type} (o : Option α) (h : Obs) : R α := match o with
  | some a => .ok a h
  | none => .bad
/-- the value of an expression handed to what comes behind it in a block -/
def R.out (r : R W) (σ : Sls) (f : W → Obs → Out) : Out := match r with
  | .ok a h => f a h
  | .exc x h => .exc x σ h
  | .bad => .bad

/-! ## the language's core: Python's syntax with the places of names told -/
inductive BOp | add | sub | mul | fdiv | mod | pow
inductive COp | eq | ne | lt | le | gt | ge | isin | notin | isn | notn
/-- built-ins that are called by their names -/
inductive Bt | len | abs | max | min | int | divmod | repr | all | list | tuple
/-- built-in classes, by their names -/
inductive Ty | non | bl | int | str | tup | lst | dct
def Ty.s : Ty → String
  | .non => "NoneType" | .bl => "bool" | .int => "int" | .str => "str" | .tup => "tuple" | .lst => "list" | .dct => "dict"
def Ty.nm : Ty → Str
  | .non => "NoneType" | .bl => "bool" | .int => "int" | .str => "str" | .tup => "tuple" | .lst => "list" | .dct => "dict"
mutual
inductive E where
  | name (x : Str) (i : Nat) (p : Pos)
  | peek (x : Str) (i : Nat) (p : Pos)
  | cst (x : Str) (p : Pos)
  | tr (e : E)
  | int (n : Int) (k : Nat) (p : Pos)
  | str (s : Str) (k : Nat) (p : Pos)
  | bl (b : Bool) (k : Nat) (p : Pos)
  | non (k : Nat) (p : Pos)
  | tup (es : Es) (k : Nat) (p : Pos)
  | lst (es : Es) (p : Pos)
  | lstH (es : Es) (p : Pos)
  | emp (p : Pos)
  | bin (op : BOp) (a b : E) (p : Pos)
  | neg (a : E) (p : Pos)
  | not (a : E) (p : Pos)
  | notV (a : E) (p : Pos)
  | bop (op : BoolOp) (es : Es) (p : Pos)
  | cmp (op : COp) (a b : E) (p : Pos)
  | chain (op op' : COp) (a b c : E) (p : Pos)
  | ife (t a b : E) (p : Pos)
  | call (f : Nat) (x : Str) (xp : Pos) (es : Es) (p : Pos)
  | callK (f : Nat) (x : Str) (xp : Pos) (es : Es) (ks : Ks) (p : Pos)
  | blt (b : Bt) (xp : Pos) (es : Es) (p : Pos)
  | isi (a : E) (t : Ty) (xp tp p : Pos)
  | isiT (a : E) (t1 : Ty) (p1 : Pos) (t2 : Ty) (p2 : Pos) (k : Nat) (xp tp p : Pos)
  | sub (a i : E) (p : Pos)
  | slc (a : E) (lo hi : Eo) (sp p : Pos)
  | lc (e : E) (tg : Tg) (it : It) (c : Eo) (vs : List (Str × Nat)) (sc : Scope) (p : Pos)
  | dget (x : Str) (xp : Pos) (i : E) (p : Pos)
  | din (ng : Bool) (a : E) (x : Str) (xp p : Pos)
  | dicH (ks : List (Str × Nat × Pos)) (es : Es) (p : Pos)
inductive Es where
  | nil | cons (e : E) (es : Es)
inductive Eo where
  | non | some (e : E)
/-- keyword arguments: name, expression, place among the parameters -/
inductive Ks where
  | nil | cons (x : Str) (e : E) (p : Pos) (ks : Ks)
/-- targets -/
inductive Tg where
  | name (x : Str) (i : Nat) (p : Pos)
  | tup (ts : Tgs) (k : Nat) (p : Pos)
  | sub (a i : E) (p : Pos)
inductive Tgs where
  | nil | cons (t : Tg) (ts : Tgs)
/-- what is walked -/
inductive It where
  | seq (e : E)
  | rng (xp : Pos) (es : Es) (p : Pos)
  | enum (xp : Pos) (e : E) (p : Pos)
  | zip (xp : Pos) (a b : E) (p : Pos)
end
mutual
inductive S where
  | asg (x : Str) (i : Nat) (xp : Pos) (e : E) (p : Pos)
  | asgO (x : Str) (i : Nat) (xp : Pos) (e : E) (p : Pos)
  | par (o1 o2 : Bool) (x : Str) (i : Nat) (xp : Pos) (y : Str) (j : Nat) (yp : Pos) (k1 : Nat) (tp : Pos) (a b : E) (k2 : Nat) (ep p : Pos)
  | asgT (t : Tg) (e : E) (p : Pos)
  | pop (t : Tg) (x : Str) (i : Nat) (xp ap cp p : Pos)
  | app (x : Str) (i : Nat) (xp ap : Pos) (e : E) (cp p : Pos)
  | ext (x : Str) (i : Nat) (xp ap : Pos) (e : E) (cp p : Pos)
  | expr (e : E) (p : Pos)
  | ret (e : E) (p : Pos)
  | retN (p : Pos)
  | ite (c : E) (a b : Ss) (p : Pos)
  | whl (c : E) (b : Ss) (p : Pos)
  | for (t : Tg) (it : It) (b : Ss) (p : Pos)
  | frz (is : List Nat) (s : S)
  | pass (p : Pos) | brk (p : Pos) | cnt (p : Pos)
inductive Ss where
  | nil | cons (s : S) (ss : Ss)
end

/-! ## back to Python's syntax -/
def BOp.un : BOp → Operator
  | .add => .Add | .sub => .Sub | .mul => .Mult | .fdiv => .FloorDiv | .mod => .Mod | .pow => .Pow
def COp.un : COp → CmpOp
  | .eq => .Eq | .ne => .NotEq | .lt => .Lt | .le => .LtE | .gt => .Gt | .ge => .GtE | .isin => .In | .notin => .NotIn | .isn => .Is | .notn => .IsNot
def Bt.nm : Bt → Str
  | .len => "len" | .abs => "abs" | .max => "max" | .min => "min" | .int => "int" | .divmod => "divmod" | .repr => "repr" | .all => "all" | .list => "list" | .tuple => "tuple"
mutual
def E.un : E → Expr
  | .name x _ p => .Name x p
  | .peek x _ p => .Name x p
  | .cst x p => .Name x p
  | .tr e => e.un
  | .int n k p => .Constant (.int n) k p
  | .str s k p => .Constant (.str s) k p
  | .bl b k p => .Constant (.bool b) k p
  | .non k p => .Constant .none k p
  | .tup es k p => .Tuple es.un k p
  | .lst es p => .List es.un p
  | .lstH es p => .List es.un p
  | .emp p => .Dict [] [] p
  | .bin op a b p => .BinOp a.un op.un b.un p
  | .neg a p => .UnaryOp .USub a.un p
  | .not a p => .UnaryOp .Not a.un p
  | .notV a p => .UnaryOp .Not a.un p
  | .bop op es p => .BoolOp op es.un p
  | .cmp op a b p => .Compare a.un [op.un] [b.un] p
  | .chain op op' a b c p => .Compare a.un [op.un, op'.un] [b.un, c.un] p
  | .ife t a b p => .IfExp t.un a.un b.un p
  | .call _ x xp es p => .Call (.Name x xp) es.un [] p
  | .callK _ x xp es ks p => .Call (.Name x xp) es.un ks.un p
  | .blt b xp es p => .Call (.Name b.nm xp) es.un [] p
  | .isi a t xp tp p => .Call (.Name "isinstance" xp) [a.un, .Name t.nm tp] [] p
  | .isiT a t1 p1 t2 p2 k xp tp p => .Call (.Name "isinstance" xp) [a.un, .Tuple [.Name t1.nm p1, .Name t2.nm p2] k tp] [] p
  | .sub a i p => .Subscript a.un i.un p
  | .slc a lo hi sp p => .Subscript a.un (.Slice lo.un hi.un none sp) p
  | .lc e tg it c _ sc p => .ListComp e.un [⟨tg.un, it.un, c.uns, 0⟩] sc p
  | .dget x xp i p => .Subscript (.Name x xp) i.un p
  | .din ng a x xp p => .Compare a.un [if ng then .NotIn else .In] [.Name x xp] p
  | .dicH ks es p => .Dict (ks.map fun k => some (.Constant (.str k.1) k.2.1 k.2.2)) es.un p
def Es.un : Es → List Expr
  | .nil => []
  | .cons e es => e.un :: es.un
def Eo.un : Eo → Option Expr
  | .non => none
  | .some e => some e.un
def Eo.uns : Eo → List Expr
  | .non => []
  | .some e => [e.un]
def Ks.un : Ks → List Keyword
  | .nil => []
  | .cons x e p ks => ⟨some x, e.un, p⟩ :: ks.un
def Tg.un : Tg → Expr
  | .name x _ p => .Name x p
  | .tup ts k p => .Tuple ts.un k p
  | .sub a i p => .Subscript a.un i.un p
def Tgs.un : Tgs → List Expr
  | .nil => []
  | .cons t ts => t.un :: ts.un
def It.un : It → Expr
  | .seq e => e.un
  | .rng xp es p => .Call (.Name "range" xp) es.un [] p
  | .enum xp e p => .Call (.Name "enumerate" xp) [e.un] [] p
  | .zip xp a b p => .Call (.Name "zip" xp) [a.un, b.un] [] p
end
mutual
def S.un : S → Stmt
  | .asg x _ xp e p => .Assign [.Name x xp] e.un p
  | .asgO x _ xp e p => .Assign [.Name x xp] e.un p
  | .par _ _ x _ xp y _ yp k1 tp a b k2 ep p => .Assign [.Tuple [.Name x xp, .Name y yp] k1 tp] (.Tuple [a.un, b.un] k2 ep) p
  | .asgT t e p => .Assign [t.un] e.un p
  | .pop t x _ xp ap cp p => .Assign [t.un] (.Call (.Attribute (.Name x xp) "pop" ap) [] [] cp) p
  | .app x _ xp ap e cp p => .Expr (.Call (.Attribute (.Name x xp) "append" ap) [e.un] [] cp) p
  | .ext x _ xp ap e cp p => .Expr (.Call (.Attribute (.Name x xp) "extend" ap) [e.un] [] cp) p
  | .expr e p => .Expr e.un p
  | .ret e p => .Return (some e.un) p
  | .retN p => .Return none p
  | .ite c a b p => .If c.un a.un b.un p
  | .whl c b p => .While c.un b.un [] p
  | .for t it b p => .For t.un it.un b.un [] p
  | .frz _ s => s.un
  | .pass p => .Pass p
  | .brk p => .Break p
  | .cnt p => .Continue p
def Ss.un : Ss → List Stmt
  | .nil => []
  | .cons s ss => s.un :: ss.un
end
end Ev

namespace Ev
open PySem PySem.Spec PyProof.Rows L2

/-! ## what operations tell, by values -/
/-- a value without parts -/
def W.flat : W → Option V
  | .non => some .non | .bl b => some (.bl b) | .int i => some (.int i) | .str s => some (.str s) | _ => none
mutual
/-- a value as data (no number of what changes, no class) -/
def W.dat : W → Option PyData
  | .non => some .none
  | .bl b => some (.bool b)
  | .int i => some (.int i)
  | .str s => some (.str s)
  | .tup ws => (W.dats ws).map PyData.tuple
  | .lst ws => (W.dats ws).map PyData.list
  | _ => none
def W.dats : List W → Option (List PyData)
  | [] => some []
  | w :: ws => match W.dat w, W.dats ws with
    | some d, some ds => some (d :: ds)
    | _, _ => none
end
/-- a number of a list, read as the list that stands there now -/
def W.now (h : Obs) : W → W
  | .ref n => match h[n]? with
    | some (.lst ws) => .lst ws
    | some (.dic kvs) => .dic kvs
    | none => .ref n
  | w => w
/-- a text put in a dict -/
def dicPut (kvs : List (Str × W)) (s : Str) (w : W) : List (Str × W) := match kvs.any fun kv => decide (kv.1 = s) with
  | true => kvs.map fun kv => match decide (kv.1 = s) with
    | true => (kv.1, w)
    | false => kv
  | false => kvs ++ [(s, w)]
def dicGet (kvs : List (Str × W)) (s : Str) : Option W := match kvs with
  | [] => none
  | (k, v) :: r => match decide (k = s) with
    | true => some v
    | false => dicGet r s
/-- a constant as a value -/
def cstV : Option W → Option W
  | some (.dic _) => none
  | o => o
def eqW (a b : W) : Option Bool := match a.dat, b.dat with
  | some d, some e => match decide (min d.depth e.depth ≤ 64) with
    | true => some (PyData.eqv d e)
    | false => none
  | _, _ => none
/-- the items of what can be walked -/
def W.items : W → Option (List W)
  | .lst ws => some ws | .tup ws => some ws | .scr ns => some (ns.map W.int) | _ => none
def inD (a : W) (ws : List W) : Option Bool := match a.dat, W.dats ws with
  | some d, some ds => match decide (min (PyData.depthAll ds) d.depth ≤ 62) with
    | true => some (ds.any fun y => PyData.eqv y d)
    | false => none
  | _, _ => none
def inW (a : W) (b : W) : Option Bool := match b with
  | .dic kvs => match a with
    | .str s => some (dicGet kvs s).isSome
    | _ => none
  | .lst ws => inD a ws
  | .tup ws => inD a ws
  | _ => none
def lineN (n : Nat) : Bool := decide (n ≤ sizeLine)
def small (i : Int) : Bool := decide (-(2 ^ 64) < i) && decide (i < 2 ^ 64)
/-- of two whole numbers -/
def intsW {α : Type} (f : Int → Int → Option α) : W → W → Option α
  | .int i, .int j => f i j
  | _, _ => none
def addW : W → W → Option W
  | .int i, .int j => some (.int (i + j))
  | .str s, .str t => match lineN (s.length + t.length) with
    | true => some (.str (s ++ t))
    | false => none
  | .lst x, .lst y => match lineN (x.length + y.length) with
    | true => some (.lst (x ++ y))
    | false => none
  | _, _ => none
def ifB {α : Type} (b : Bool) (a : α) : Option α := match b with
  | true => some a
  | false => none
def mulW : W → W → Option W
  | .int i, .int j => ifB (small i || small j) (.int (i * j))
  | .lst ws, .int k => ifB (decide (-(2 ^ 63) ≤ k) && (decide (k < 2 ^ 63) && lineN (ws.length * k.toNat))) (.lst (List.replicate k.toNat ws).flatten)
  | _, _ => none
def binW (op : BOp) (a b : W) : Option W := match op with
  | .add => addW a b
  | .sub => intsW (fun i j => some (.int (i - j))) a b
  | .mul => mulW a b
  | .fdiv => intsW (fun i j => ifB (decide (0 < j) && decide (j < 1073741824)) (.int (i / j))) a b
  | .mod => intsW (fun i j => ifB (decide (0 < j)) (.int (i % j))) a b
  | .pow => intsW (fun i j => ifB (decide (0 ≤ j) && (decide (j ≤ 1000000) && decide (i.natAbs < 2 ^ 64))) (.int (i ^ j.toNat))) a b
def W.isNon : W → Bool
  | .non => true
  | _ => false
def cmpW (op : COp) (a b : W) : Option Bool := match op with
  | .eq => eqW a b
  | .ne => (eqW a b).map (!·)
  | .isin => inW a b
  | .notin => (inW a b).map (!·)
  | .isn => if b.isNon = true then some a.isNon else none
  | .notn => if b.isNon = true then some (!a.isNon) else none
  | .lt => intsW (fun i j => some (decide (i < j))) a b
  | .le => intsW (fun i j => some (decide (i ≤ j))) a b
  | .gt => intsW (fun i j => some (decide (j < i))) a b
  | .ge => intsW (fun i j => some (decide (j ≤ i))) a b
/-- the length of what has one -/
def lenW : W → Option Nat
  | .lst ws => some ws.length
  | .tup ws => some ws.length
  | .scr ns => some ns.length
  | .str s => match lineN s.length with
    | true => some s.length
    | false => none
  | _ => none
def truW : W → Option Bool
  | .non => some false
  | .bl b => some b
  | .int i => some (i != 0)
  | .str s => match lineN s.length with
    | true => some ((s.length : Int) != 0)
    | false => none
  | .lst ws => some (!ws.isEmpty)
  | .tup ws => some (!ws.isEmpty)
  | _ => none
def idxW (a : W) (i : W) : Option W := match i with
  | .str s => match a with
    | .dic kvs => dicGet kvs s
    | _ => none
  | .int i => match a with
    | .lst ws => atI ws i
    | .tup ws => atI ws i
    | .scr ns => (atI ns i).map W.int
    | .str s => match lineN s.length with
      | true => (atI s.cps.toList i).map fun c => .str ⟨#[c]⟩
      | false => none
    | _ => none
  | _ => none
def cut {α : Type} (xs : List α) (lo hi : Option Int) : List α := (xs.drop (HT.sIx xs.length 0 lo)).take (HT.sIx xs.length xs.length hi - HT.sIx xs.length 0 lo)
def slcW (a : W) (lo hi : Option Int) : Option W := match a with
  | .lst ws => some (.lst (cut ws lo hi))
  | .tup ws => match decide (HT.sIx ws.length 0 lo = 0) && decide (HT.sIx ws.length ws.length hi = ws.length) with
    | true => none
    | false => some (.tup (cut ws lo hi))
  | _ => none
/-- a value's own class -/
def tyW (h : Obs) : W → Option Ty
  | .non => some .non | .bl _ => some .bl | .int _ => some .int | .str _ => some .str
  | .tup _ => some .tup | .lst _ => some .lst | .scr _ => some .lst | .emp => some .dct
  | .ref n => match h[n]? with
    | some (.lst _) => some .lst
    | some (.dic _) => some .dct
    | none => none
  | .ty _ => none
  | .dic _ => none
/-- whether values of a class are of a class -/
def isTy : Ty → Ty → Bool
  | .non, .non => true | .bl, .bl => true | .int, .int => true | .str, .str => true | .tup, .tup => true | .lst, .lst => true | .dct, .dct => true
  | .bl, .int => true
  | _, _ => false
def bools : List W → Option (List Bool)
  | [] => some []
  | .bl b :: ws => (bools ws).map (b :: ·)
  | _ :: _ => none
/-- repr of data -/
def reprW (w : W) : Option Str := match w.dat with
  | some d => match d.showable && (decide (d.depth ≤ 64) && lineN d.shown.length) with
    | true => some d.shown
    | false => none
  | none => none
def on1 (f : W → Option W) : List W → Option W
  | [w] => f w
  | _ => none
def on2 (f : W → W → Option W) : List W → Option W
  | [w, u] => f w u
  | _ => none
def intW : W → Option W
  | .int i => some (.int i)
  | .bl k => some (.int (if k then 1 else 0))
  | _ => none
def absW : W → Option W
  | .int i => some (.int (if i < 0 then -i else i))
  | _ => none
def allW : W → Option W
  | .lst ws => (bools ws).map fun bs => .bl (bs.all id)
  | _ => none
def listW : W → Option W
  | .lst ws => some (.lst ws)
  | .tup ws => some (.lst ws)
  | _ => none
def tupleW : W → Option W
  | .lst ws => some (.tup ws)
  | .tup ws => some (.tup ws)
  | _ => none
def bltW (b : Bt) (ws : List W) : Option W := match b with
  | .len => on1 (fun w => (lenW w).map fun (n : Nat) => W.int (n : Int)) ws
  | .abs => on1 absW ws
  | .max => on2 (intsW fun i j => some (.int (if j > i then j else i))) ws
  | .min => on2 (intsW fun i j => some (.int (if j < i then j else i))) ws
  | .int => on1 intW ws
  | .divmod => on2 (intsW fun i j => ifB (decide (0 < j) && decide (j < 1073741824)) (.tup [.int (i / j), .int (i % j)])) ws
  | .repr => on1 (fun w => (reprW w).map W.str) ws
  | .all => on1 allW ws
  | .list => on1 listW ws
  | .tuple => on1 tupleW ws

/-! ## what expressions tell -/
structure Dn where
  call : Nat → List W → Obs → R W
  cst : Str → Option W
  /-- the parameters of each def -/
  par : Nat → List Str

def slotV (σ : Sls) (i : Nat) : Option W := match σ[i]? with
  | some (.val w) => some w
  | _ => none
def slotP (σ : Sls) (i : Nat) : Option W := match σ[i]? with
  | some (.val w) => some w
  | some (.own ws) => some (.lst ws)
  | _ => none
/-- keyword arguments put in the parameters' sequence -/
def kwAll {α : Type} (ks : List (Str × α)) : List Str → Option (List α)
  | [] => some []
  | x :: xs => match ks.lookup x, kwAll ks xs with
    | some a, some as => some (a :: as)
    | _, _ => none
def kwPut {α : Type} (ps : List Str) (us : List α) (ks : List (Str × α)) : Option (List α) := match decide (us.length + ks.length = ps.length) with
  | true => match kwAll ks (ps.drop us.length) with
    | some as => some (us ++ as)
    | none => none
  | false => none
/-- names of a block forgotten -/
def wipeS (σ : Sls) : List Nat → Sls
  | [] => σ
  | v :: vs => (wipeS σ vs).set v .non
mutual
/-- targets of a comprehension -/
def Tg.put : Tg → W → Sls → Option Sls
  | .name _ i _, w, σ => some (σ.set i (.val w))
  | .tup ts _ _, .tup ws, σ => ts.put ws σ
  | _, _, _ => none
def Tgs.put : Tgs → List W → Sls → Option Sls
  | .nil, [], σ => some σ
  | .cons t ts, w :: ws, σ => match t.put w σ with
    | some σ' => ts.put ws σ'
    | none => none
  | _, _, _ => none
end
/-- a comprehension's turns; no exception may leave -/
def lcGo (put : W → Option Sls) (c : Sls → Obs → R Bool) (e : Sls → Obs → R W) : List W → List W → Obs → R (List W)
  | [], acc, h => .ok acc h
  | x :: xs, acc, h => match put x with
    | some σ => match c σ h with
      | .ok true h1 => match e σ h1 with
        | .ok y h2 => match decide (acc.length < sizeLine) with
          | true => lcGo put c e xs (acc ++ [y]) h2
          | false => .bad
        | _ => .bad
      | .ok false h1 => lcGo put c e xs acc h1
      | _ => .bad
    | none => .bad

/-- the places of a block's names -/
def ixs (vs : List (Str × Nat)) : List Nat := vs.map (·.2)
/-- no list of one's own at these places -/
def noOwn (σ : Sls) : List Nat → Bool
  | [] => true
  | v :: vs => match σ[v]? with
    | some (.own _) => false
    | _ => noOwn σ vs
def boolW : W → Option Bool
  | .bl b => some b
  | _ => none
def enumW (k : Nat) : List W → List W
  | [] => []
  | w :: ws => .tup [.int k, w] :: enumW (k + 1) ws
def zipW : List W → List W → List W
  | a :: as, b :: bs => .tup [a, b] :: zipW as bs
  | _, _ => []
def rngW (lo : Int) : Nat → List W
  | 0 => []
  | n + 1 => .int lo :: rngW (lo + 1) n
def in62 (i : Int) : Bool := decide (-(2 ^ 62) ≤ i) && decide (i < 2 ^ 62)
def rng1 (x : W) (h : Obs) : R (List W) := match x with
  | .int j => match in62 j with
    | true => .ok (rngW 0 j.toNat) h
    | false => .bad
  | _ => .bad
def rng2 (x y : W) (h : Obs) : R (List W) := match x, y with
  | .int i, .int j => match in62 i && in62 j with
    | true => .ok (rngW i (j - i).toNat) h
    | false => .bad
  | _, _ => .bad
/-- places by a negative one, written out: a range from a place downward -/
def dnW (lo : Int) : Nat → List W
  | 0 => []
  | n + 1 => .int lo :: dnW (lo - 1) n

mutual
/-- k: as an operand, where a list of the def's own may be looked at -/
def E.den (D : Dn) (k : Bool) : E → Sls → Obs → R W
  | .name _ i _, σ, h => .opt (slotV σ i) h
  | .peek _ i _, σ, h => match k with
    | true => .opt (slotP σ i) h
    | false => .bad
  | .cst x _, σ, h => .opt (cstV (D.cst x)) h
  | .int n _ _, σ, h => .ok (.int n) h
  | .str s _ _, σ, h => .ok (.str s) h
  | .bl b _ _, σ, h => .ok (.bl b) h
  | .non _ _, σ, h => .ok .non h
  | .tr _, σ, h => .bad
  | .tup es _ _, σ, h => (es.den D false σ h).bind fun ws h => match lineN ws.length with
    | true => .ok (.tup ws) h
    | false => .bad
  | .lst es _, σ, h => (es.den D false σ h).bind fun ws h => match lineN ws.length with
    | true => .ok (.lst ws) h
    | false => .bad
  | .lstH es _, σ, h => (es.den D false σ h).bind fun ws h => match lineN ws.length with
    | true => .ok (.ref h.length) (h ++ [.lst ws])
    | false => .bad
  | .emp _, σ, h => .ok .emp h
  | .bin op a b _, σ, h => (a.den D true σ h).bind fun x h => (b.den D true σ h).bind fun y h => .opt (binW op (x.now h) (y.now h)) h
  | .neg a _, σ, h => (a.den D false σ h).bind fun x h => match x with
    | .int i => .ok (.int (-i)) h
    | _ => .bad
  | .not _ _, σ, h => .bad
  | .notV a _, σ, h => (a.den D true σ h).bind fun w h => .opt ((truW (w.now h)).map fun k => .bl (!k)) h
  | .bop op es _, σ, h => es.bo D op σ h
  | .cmp op a b _, σ, h => (a.den D true σ h).bind fun x h => (b.den D true σ h).bind fun y h => .opt ((cmpW op (x.now h) (y.now h)).map W.bl) h
  | .chain op op' a b c _, σ, h => (a.den D false σ h).bind fun x h => (b.den D false σ h).bind fun y h => match cmpW op x y with
    | some true => (c.den D false σ h).bind fun z h => .opt ((cmpW op' y z).map W.bl) h
    | some false => .ok (.bl false) h
    | none => .bad
  | .ife t a b _, σ, h => (t.tst D σ h).bind fun c h => match c with
    | true => a.den D false σ h
    | false => b.den D false σ h
  | .call f _ _ es _, σ, h => (es.den D false σ h).bind fun ws h => D.call f ws h
  | .callK f _ _ es ks _, σ, h => (es.den D false σ h).bind fun ws h => (ks.den D σ h).bind fun zs h => match kwPut (D.par f) ws zs with
    | some us => D.call f us h
    | none => .bad
  | .blt b _ es _, σ, h => (es.den D true σ h).bind fun ws h => .opt (bltW b (ws.map (W.now h))) h
  | .isi a t _ _ _, σ, h => (a.den D false σ h).bind fun x h => .opt ((tyW h x).map fun y => .bl (isTy y t)) h
  | .isiT a t1 _ t2 _ _ _ _ _, σ, h => (a.den D false σ h).bind fun x h => .opt ((tyW h x).map fun y => .bl (isTy y t1 || isTy y t2)) h
  | .sub a i _, σ, h => (a.den D true σ h).bind fun x h => (i.den D false σ h).bind fun y h => .opt (idxW (x.now h) y) h
  | .slc a lo hi _ _, σ, h => (a.den D true σ h).bind fun x h => (lo.den D σ h).bind fun l h => (hi.den D σ h).bind fun u h => .opt (slcW (x.now h) l u) h
  | .lc e tg it c vs _ _, σ, h => (match noOwn σ (ixs vs) with
      | true => (it.den D σ h).bind fun xs h => lcGo (fun x => tg.put x (wipeS σ (ixs vs))) (fun σ h => c.tst D σ h) (fun σ h => e.den D false σ h) xs [] h
      | false => (R.bad : R (List W))).bind fun ys h => .ok (.lst ys) h
  | .dget x _ i _, σ, h => match D.cst x with
    | some (.dic kvs) => (i.den D false σ h).bind fun k h => match k with
      | .str s => .opt (dicGet kvs s) h
      | _ => .bad
    | _ => .bad
  | .din ng a x _ _, σ, h => match D.cst x with
    | some (.dic kvs) => (a.den D false σ h).bind fun k h => match k with
      | .str s => .ok (.bl ((dicGet kvs s).isSome != ng)) h
      | _ => .bad
    | _ => .bad
  | .dicH ks es _, σ, h => (es.den D false σ h).bind fun ws h => .ok (.ref h.length) (h ++ [.dic (((ks.map fun k => k.1).zip ws).foldl (fun d p => dicPut d p.1 p.2) [])])
def Es.den (D : Dn) (k : Bool) : Es → Sls → Obs → R (List W)
  | .nil, σ, h => .ok [] h
  | .cons e es, σ, h => (e.den D k σ h).bind fun w h => (es.den D k σ h).bind fun ws h => .ok (w :: ws) h
def Ks.den (D : Dn) : Ks → Sls → Obs → R (List (Str × W))
  | .nil, σ, h => .ok [] h
  | .cons x e _ ks, σ, h => (e.den D false σ h).bind fun w h => (ks.den D σ h).bind fun ws h => .ok ((x, w) :: ws) h
def Eo.den (D : Dn) : Eo → Sls → Obs → R (Option Int)
  | .non, σ, h => .ok none h
  | .some e, σ, h => (e.den D false σ h).bind fun w h => match w with
    | .int i => .ok (some i) h
    | _ => .bad
def Eo.tst (D : Dn) : Eo → Sls → Obs → R Bool
  | .non, σ, h => .ok true h
  | .some e, σ, h => e.tst D σ h
/-- and, or, as values -/
def Es.bo (D : Dn) (op : BoolOp) : Es → Sls → Obs → R W
  | .nil, σ, h => .bad
  | .cons e es, σ, h => (e.den D false σ h).bind fun w h => match es, op, w with
    | .nil, _, w => .ok w h
    | _, .And, .bl true => es.bo D op σ h
    | _, .And, .bl false => .ok (.bl false) h
    | _, .Or, .bl true => .ok (.bl true) h
    | _, .Or, .bl false => es.bo D op σ h
    | _, _, _ => .bad
/-- .. as tests -/
def Es.bt (D : Dn) (op : BoolOp) : Es → Sls → Obs → R Bool
  | .nil, σ, h => .bad
  | .cons e es, σ, h => (e.tst D σ h).bind fun k h => match es, op, k with
    | .nil, _, k => .ok k h
    | _, .And, true => es.bt D op σ h
    | _, .And, false => .ok false h
    | _, .Or, true => .ok true h
    | _, .Or, false => es.bt D op σ h
/-- as a test -/
def E.tst (D : Dn) : E → Sls → Obs → R Bool
  | .tr e, σ, h => (e.den D true σ h).bind fun w h => .opt (truW (w.now h)) h
  | .not a _, σ, h => (a.tst D σ h).bind fun k h => .ok (!k) h
  | .bop op es _, σ, h => es.bt D op σ h
  | .cmp op a b _, σ, h => (a.den D true σ h).bind fun x h => (b.den D true σ h).bind fun y h => .opt (cmpW op (x.now h) (y.now h)) h
  | .chain op op' a b c _, σ, h => (a.den D false σ h).bind fun x h => (b.den D false σ h).bind fun y h => match cmpW op x y with
    | some true => (c.den D false σ h).bind fun z h => .opt (cmpW op' y z) h
    | some false => .ok false h
    | none => .bad
  | .din ng a x _ _, σ, h => match D.cst x with
    | some (.dic kvs) => (a.den D false σ h).bind fun k h => match k with
      | .str s => .ok ((dicGet kvs s).isSome != ng) h
      | _ => .bad
    | _ => .bad
  | _, _, _ => .bad
def It.den (D : Dn) : It → Sls → Obs → R (List W)
  | .seq e, σ, h => (e.den D false σ h).bind fun w h => .opt w.items h
  | .rng _ es _, σ, h => match es with
    | .cons a .nil => (a.den D false σ h).bind rng1
    | .cons a (.cons b .nil) => (a.den D false σ h).bind fun x h => (b.den D false σ h).bind fun y h => rng2 x y h
    | _ => .bad
  | .enum _ e _, σ, h => (e.den D false σ h).bind fun w h => match w with
    | .lst ws => .ok (enumW 0 ws) h
    | _ => .bad
  | .zip _ a b _, σ, h => (a.den D false σ h).bind fun x h => (b.den D false σ h).bind fun y h => match x, y with
    | .lst xs, .lst ys => .ok (zipW xs ys) h
    | _, _ => .bad
end

/-! ## what statements do -/
/-- a list that is new: for a name that keeps it as its own -/
def E.fresh (D : Dn) : E → Sls → Obs → R (List W)
  | .lst es _, σ, h => (es.den D false σ h).bind fun ws h => match lineN ws.length with
    | true => .ok ws h
    | false => .bad
  | .bin .add a b _, σ, h => (a.den D true σ h).bind fun x h => (b.den D true σ h).bind fun y h => match binW .add (x.now h) (y.now h) with
    | some (.lst ws) => .ok ws h
    | _ => .bad
  | .blt .list _ es _, σ, h => (es.den D true σ h).bind fun ws h => match bltW .list (ws.map (W.now h)) with
    | some (.lst ws) => .ok ws h
    | _ => .bad
  | .slc a lo hi p q, σ, h => (E.den D false (.slc a lo hi p q) σ h).bind fun w h => match w with
    | .lst ws => .ok ws h
    | _ => .bad
  | .lc e tg it c vs sc p, σ, h => match noOwn σ (ixs vs) with
      | true => (it.den D σ h).bind fun xs h => lcGo (fun x => tg.put x (wipeS σ (ixs vs))) (fun σ h => c.tst D σ h) (fun σ h => e.den D false σ h) xs [] h
      | false => .bad
  | _, _, _ => .bad
/-- what a name is given: a value, or (o) a list of its own -/
def E.give (D : Dn) (o : Bool) (e : E) (σ : Sls) (h : Obs) : R Sl := match o with
  | true => (e.fresh D σ h).bind fun ws h => .ok (.own ws) h
  | false => (e.den D false σ h).bind fun w h => .ok (.val w) h
mutual
def Tg.den (D : Dn) : Tg → W → Sls → Obs → R Sls
  | .name _ i _, w, σ, h => .ok (σ.set i (.val w)) h
  | .tup ts _ _, w, σ, h => match w with
    | .tup ws => ts.den D ws σ h
    | _ => .bad
  | .sub a i _, w, σ, h => match a.den D false σ h with
    | .ok (.ref n) h => match i.den D false σ h with
      | .ok y h => match h[n]?, y with
        | some (.lst ws), .int k => match ixN ws.length k with
          | some j => .ok σ (h.set n (.lst (ws.set j w)))
          | none => .bad
        | some (.dic kvs), .str s => match decide (kvs.length < sizeLine) with
          | true => .ok σ (h.set n (.dic (dicPut kvs s w)))
          | false => .bad
        | _, _ => .bad
      | _ => .bad
    | _ => .bad
def Tgs.den (D : Dn) : Tgs → List W → Sls → Obs → R Sls
  | .nil, ws, σ, h => match ws with
    | [] => .ok σ h
    | _ => .bad
  | .cons t ts, ws, σ, h => match ws with
    | w :: ws => match t.den D w σ h with
      | .ok σ h => ts.den D ws σ h
      | _ => .bad
    | [] => .bad
end
/-- behind a target -/
def tgo : R Sls → Out
  | .ok σ h => .nx σ h
  | _ => .bad
def frzS : List Nat → Sls → Sls
  | [], σ => σ
  | i :: is, σ => frzS is (match σ[i]? with
    | some (.own ws) => σ.set i (.val (.lst ws))
    | _ => σ)
def forGo (put : W → Sls → Obs → R Sls) (body : Sls → Obs → Out) : List W → Sls → Obs → Out
  | [], σ, h => .nx σ h
  | x :: xs, σ, h => match put x σ h with
    | .ok σ h => match body σ h with
      | .nx σ h => forGo put body xs σ h
      | .ct σ h => forGo put body xs σ h
      | .bk σ h => .nx σ h
      | .rt w h => .rt w h
      | .exc x σ h => .exc x σ h
      | .bad => .bad
    | _ => .bad
/-- m: turns at most -/
def whlGo (tst : Sls → Obs → R Bool) (body : Sls → Obs → Out) : Nat → Sls → Obs → Out
  | 0, _, _ => .bad
  | m + 1, σ, h => match tst σ h with
    | .ok true h => match body σ h with
      | .nx σ h => whlGo tst body m σ h
      | .ct σ h => whlGo tst body m σ h
      | .bk σ h => .nx σ h
      | .rt w h => .rt w h
      | .exc x σ h => .exc x σ h
      | .bad => .bad
    | .ok false h => .nx σ h
    | .exc x h => .exc x σ h
    | .bad => .bad
def whlMost : Nat := 1000000
mutual
def S.den (D : Dn) : S → Sls → Obs → Out
  | .asg _ i _ e _, σ, h => (e.den D false σ h).out σ fun w h => .nx (σ.set i (.val w)) h
  | .asgO _ i _ e _, σ, h => match e.fresh D σ h with
    | .ok ws h => .nx (σ.set i (.own ws)) h
    | .exc x h => .exc x σ h
    | .bad => .bad
  | .par o1 o2 _ i _ _ j _ _ _ a b _ _ _, σ, h => match a.give D o1 σ h with
    | .ok s1 h => match b.give D o2 σ h with
      | .ok s2 h => .nx ((σ.set i s1).set j s2) h
      | .exc x h => .exc x σ h
      | .bad => .bad
    | .exc x h => .exc x σ h
    | .bad => .bad
  | .asgT t e _, σ, h => (e.den D false σ h).out σ fun w h => tgo (t.den D w σ h)
  | .pop t _ i _ _ _ _, σ, h => match σ[i]? with
    | some (.own ws) => match ws[ws.length - 1]? with
      | some w => tgo (t.den D w (σ.set i (.own ws.dropLast)) h)
      | none => .bad
    | _ => .bad
  | .app _ i _ _ e _ _, σ, h => match σ[i]? with
    | some (.own ws) => (e.den D false σ h).out σ fun w h => match decide (ws.length < sizeLine) with
      | true => .nx (σ.set i (.own (ws ++ [w]))) h
      | false => .bad
    | _ => .bad
  | .ext _ i _ _ e _ _, σ, h => match σ[i]? with
    | some (.own ws) => (e.den D false σ h).out σ fun w h => match w with
      | .lst us => match lineN (ws.length + us.length) with
        | true => .nx (σ.set i (.own (ws ++ us))) h
        | false => .bad
      | _ => .bad
    | _ => .bad
  | .expr e _, σ, h => (e.den D false σ h).out σ fun _ h => .nx σ h
  | .ret e _, σ, h => (e.den D false σ h).out σ fun w h => .rt w h
  | .retN _, σ, h => .rt .non h
  | .ite c a b _, σ, h => match c.tst D σ h with
    | .ok true h => a.den D σ h
    | .ok false h => b.den D σ h
    | .exc x h => .exc x σ h
    | .bad => .bad
  | .whl c b _, σ, h => whlGo (fun σ h => c.tst D σ h) (fun σ h => b.den D σ h) whlMost σ h
  | .for t it b _, σ, h => match it.den D σ h with
    | .ok xs h => forGo (fun w σ h => t.den D w σ h) (fun σ h => b.den D σ h) xs σ h
    | .exc x h => .exc x σ h
    | .bad => .bad
  | .frz is s, σ, h => s.den D (frzS is σ) h
  | .pass _, σ, h => .nx σ h
  | .brk _, σ, h => .bk σ h
  | .cnt _, σ, h => .ct σ h
def Ss.den (D : Dn) : Ss → Sls → Obs → Out
  | .nil, σ, h => .nx σ h
  | .cons s ss, σ, h => match s.den D σ h with
    | .nx σ h => ss.den D σ h
    | o => o
end

/-! ## defs, by levels -/
structure Df where
  nm : Str
  /-- all names by slot, parameters first -/
  N : List Str
  np : Nat
  body : Ss
def startS (n : Nat) (ws : List W) : Sls := ws.map Sl.val ++ List.replicate (n - ws.length) .non
def Df.run (d : Df) (D : Dn) (ws : List W) (h : Obs) : R W := match decide (ws.length = d.np) with
  | true => match d.body.den D (startS d.N.length ws) h with
    | .nx _ h => .ok .non h
    | .rt w h => .ok w h
    | .exc x _ h => .exc x h
    | _ => .bad
  | false => .bad
structure Pg where
  defs : List Df
  cst : Str → Option W
def Pg.par (P : Pg) (f : Nat) : List Str := match P.defs[f]? with
  | some d => d.N.take d.np
  | none => []
/-- what the def f tells, calls going at most k deep -/
def Pg.T (P : Pg) : Nat → Nat → List W → Obs → R W
  | 0, _, _, _ => .bad
  | k + 1, f, ws, h => match P.defs[f]? with
    | some d => d.run ⟨P.T k, P.cst, P.par⟩ ws h
    | none => .bad
end Ev

namespace Ev
open PySem PySem.Spec PyProof.Rows L2

/-! ## values in the heap -/
mutual
/-- w stands in the still part F of the heap as v; what changes stands at the places ι -/
inductive RV (K : PySem.W.Frag) (F : Hp) (ι : List Addr) : W → V → Prop
  | non : RV K F ι .non .non
  | bl (b : Bool) : RV K F ι (.bl b) (.bl b)
  | int (i : Int) : RV K F ι (.int i) (.int i)
  | str (s : Str) : RV K F ι (.str s) (.str s)
  | ty (n : String) : RV K F ι (.ty n) (.ty n)
  | tup {ws : List W} {a : Addr} {vs : List V} : SqT K F a vs → RVs K F ι ws vs → RV K F ι (.tup ws) (.ref a)
  | lst {ws : List W} {a : Addr} {vs : List V} : F a = some (.lst vs) → RVs K F ι ws vs → RV K F ι (.lst ws) (.ref a)
  | emp {a : Addr} : F a = some (.dK []) → RV K F ι .emp (.ref a)
  | scr {ns : List Int} {a : Addr} : SqL K F a (ns.map V.int) → RV K F ι (.scr ns) (.ref a)
  | ref {n : Nat} {a : Addr} : ι[n]? = some a → RV K F ι (.ref n) (.ref a)
inductive RVs (K : PySem.W.Frag) (F : Hp) (ι : List Addr) : List W → List V → Prop
  | nil : RVs K F ι [] []
  | cons {w : W} {v : V} {ws : List W} {vs : List V} : RV K F ι w v → RVs K F ι ws vs → RVs K F ι (w :: ws) (v :: vs)
end
/-- the still part grows -/
structure Le (F : Hp) (ι : List Addr) (F' : Hp) (ι' : List Addr) : Prop where
  f : ∀ a o, F a = some o → F' a = some o
  i : ∃ t, ι' = ι ++ t
theorem Le.refl {F : Hp} {ι : List Addr} : Le F ι F ι := ⟨fun _ _ h => h, [], by simp⟩
theorem Le.trans {F F1 F2 : Hp} {ι ι1 ι2 : List Addr} (a : Le F ι F1 ι1) (b : Le F1 ι1 F2 ι2) : Le F ι F2 ι2 := ⟨fun x o h => b.f x o (a.f x o h), by
  obtain ⟨t, rfl⟩ := a.i
  obtain ⟨u, rfl⟩ := b.i
  exact ⟨t ++ u, by simp⟩⟩
theorem Le.at {F F1 : Hp} {ι ι1 : List Addr} (a : Le F ι F1 ι1) {n : Nat} {x : Addr} (h : ι[n]? = some x) : ι1[n]? = some x := by
  obtain ⟨t, rfl⟩ := a.i
  rw [List.getElem?_append_left (List.getElem?_eq_some_iff.mp h).1]
  exact h
section
variable {K : PySem.W.Frag} {F F' : Hp} {ι ι' : List Addr}
theorem rd_mono {u : HO} {a : Addr} (f : ∀ a o, F a = some o → F' a = some o) (h : Rd F a u) : Rd F' a u := by
  rcases h with h | ⟨o, h⟩
  · exact .inl (f _ _ h)
  · exact .inr ⟨o, f _ _ h⟩
theorem sqT_mono {a : Addr} {vs : List V} (f : ∀ a o, F a = some o → F' a = some o) (h : SqT K F a vs) : SqT K F' a vs := by
  rcases h with h | h
  · exact .inl (rd_mono f h)
  · exact .inr h
theorem sqL_mono {a : Addr} {vs : List V} (f : ∀ a o, F a = some o → F' a = some o) (h : SqL K F a vs) : SqL K F' a vs := by
  rcases h with h | h
  · exact .inl (rd_mono f h)
  · exact .inr h
mutual
theorem RV.mono (l : Le F ι F' ι') : ∀ {w : W} {v : V}, RV K F ι w v → RV K F' ι' w v
  | _, _, .non => .non
  | _, _, .bl b => .bl b
  | _, _, .int i => .int i
  | _, _, .str s => .str s
  | _, _, .ty n => .ty n
  | _, _, .tup h r => .tup (sqT_mono l.f h) (RVs.mono l r)
  | _, _, .lst h r => .lst (l.f _ _ h) (RVs.mono l r)
  | _, _, .emp h => .emp (l.f _ _ h)
  | _, _, .scr h => .scr (sqL_mono l.f h)
  | _, _, .ref h => .ref (l.at h)
theorem RVs.mono (l : Le F ι F' ι') : ∀ {ws : List W} {vs : List V}, RVs K F ι ws vs → RVs K F' ι' ws vs
  | _, _, .nil => .nil
  | _, _, .cons h r => .cons (RV.mono l h) (RVs.mono l r)
end
theorem RVs.length : ∀ {ws : List W} {vs : List V}, RVs K F ι ws vs → ws.length = vs.length
  | _, _, .nil => rfl
  | _, _, .cons _ r => congrArg (· + 1) (RVs.length r)
theorem RVs.get : ∀ {ws : List W} {vs : List V} {i : Nat} {w : W}, RVs K F ι ws vs → ws[i]? = some w → ∃ v, vs[i]? = some v ∧ RV K F ι w v
  | _, _, _, _, .nil, h => by simp at h
  | _, _, 0, _, .cons r _, h => by
    have e := Option.some.inj h
    subst e
    exact ⟨_, rfl, r⟩
  | _, _, i + 1, w, .cons _ r, h => RVs.get (i := i) r h
theorem RVs.append : ∀ {ws us : List W} {vs xs : List V}, RVs K F ι ws vs → RVs K F ι us xs → RVs K F ι (ws ++ us) (vs ++ xs)
  | _, _, _, _, .nil, q => q
  | _, _, _, _, .cons r t, q => .cons r (RVs.append t q)
theorem RVs.rep {ws : List W} {vs : List V} (r : RVs K F ι ws vs) : ∀ n : Nat, RVs K F ι (List.replicate n ws).flatten (List.replicate n vs).flatten
  | 0 => .nil
  | n + 1 => by
    rw [List.replicate_succ, List.replicate_succ, List.flatten_cons, List.flatten_cons]
    exact r.append (RVs.rep r n)
theorem RVs.set {w : W} {v : V} (q : RV K F ι w v) : ∀ {ws : List W} {vs : List V} (i : Nat), RVs K F ι ws vs → RVs K F ι (ws.set i w) (vs.set i v)
  | _, _, _, .nil => .nil
  | _, _, 0, .cons _ r => .cons q r
  | _, _, i + 1, .cons h r => .cons h (RVs.set q i r)
theorem RVs.take : ∀ {ws : List W} {vs : List V} (n : Nat), RVs K F ι ws vs → RVs K F ι (ws.take n) (vs.take n)
  | _, _, 0, _ => .nil
  | _, _, _ + 1, .nil => .nil
  | _, _, n + 1, .cons r t => .cons r (RVs.take n t)
theorem RVs.drop : ∀ {ws : List W} {vs : List V} (n : Nat), RVs K F ι ws vs → RVs K F ι (ws.drop n) (vs.drop n)
  | _, _, 0, r => r
  | _, _, _ + 1, .nil => .nil
  | _, _, n + 1, .cons _ t => RVs.drop n t
theorem RVs.dropLast {ws : List W} {vs : List V} (r : RVs K F ι ws vs) : RVs K F ι ws.dropLast vs.dropLast := by
  rw [List.dropLast_eq_take, List.dropLast_eq_take, r.length]
  exact r.take _
theorem RVs.cutR {ws : List W} {vs : List V} (r : RVs K F ι ws vs) (lo hi : Option Int) : RVs K F ι (cut ws lo hi) (cutV vs lo hi) := by
  unfold cut cutV
  rw [r.length]
  exact (r.drop _).take _
theorem RVs.ints (ns : List Int) : RVs K F ι (ns.map W.int) (ns.map V.int) := by
  induction ns with
  | nil => exact .nil
  | cons n r ih => exact .cons (.int n) ih
theorem RVs.atI {ws : List W} {vs : List V} {i : Int} {w : W} (r : RVs K F ι ws vs) (h : L2.atI ws i = some w) : ∃ v, L2.atI vs i = some v ∧ RV K F ι w v := by
  unfold L2.atI at h ⊢
  rw [← r.length]
  cases q : ixN ws.length i with
  | none => rw [q] at h; cases h
  | some j =>
    rw [q] at h
    exact r.get (i := j) h
/-- flat values -/
theorem RV.flat {w : W} {v u : V} (h : RV K F ι w v) (e : w.flat = some u) : v = u ∧ flatV v = true := by
  cases h <;> first | (cases e; exact ⟨rfl, rfl⟩) | cases e
mutual
theorem RV.dat {H : Hp} (s : ∀ a o, F a = some o → H a = some o) : ∀ {w : W} {v : V} {d : PyData}, RV K F ι w v → w.dat = some d → Dp K H v d
  | _, _, _, .non, e => by unfold W.dat at e; cases e; exact .non
  | _, _, _, .bl b, e => by unfold W.dat at e; cases e; exact .bl b
  | _, _, _, .int i, e => by unfold W.dat at e; cases e; exact .int i
  | _, _, _, .str x, e => by unfold W.dat at e; cases e; exact .str x
  | _, _, _, .tup (ws := ws) h r, e => by
    unfold W.dat at e
    cases q : W.dats ws with
    | none => rw [q] at e; cases e
    | some ds =>
      rw [q] at e
      cases e
      exact .tup (sqT_mono s h) (RVs.dats s r q)
  | _, _, _, .lst (ws := ws) h r, e => by
    unfold W.dat at e
    cases q : W.dats ws with
    | none => rw [q] at e; cases e
    | some ds =>
      rw [q] at e
      cases e
      exact .lst (.inl (.inl (s _ _ h))) (RVs.dats s r q)
  | _, _, _, .ty n, e => by unfold W.dat at e; cases e
  | _, _, _, .emp h, e => by unfold W.dat at e; cases e
  | _, _, _, .scr h, e => by unfold W.dat at e; cases e
  | _, _, _, .ref h, e => by unfold W.dat at e; cases e
theorem RVs.dats {H : Hp} (s : ∀ a o, F a = some o → H a = some o) : ∀ {ws : List W} {vs : List V} {ds : List PyData}, RVs K F ι ws vs → W.dats ws = some ds → DpAll K H vs ds
  | _, _, _, .nil, e => by unfold W.dats at e; cases e; exact .nil
  | _, _, _, .cons (w := w) (ws := ws) h r, e => by
    unfold W.dats at e
    cases q1 : W.dat w with
    | none => rw [q1] at e; cases e
    | some d =>
      cases q2 : W.dats ws with
      | none => rw [q1, q2] at e; cases e
      | some ds =>
        rw [q1, q2] at e
        cases e
        exact .cons (RV.dat s h q1) (RVs.dats s r q2)
end
end

/-! ## dicts with text keys -/
inductive RKv (K : PySem.W.Frag) (F : Hp) (ι : List Addr) : List (Str × W) → List (L2.Key × V) → Prop
  | nil : RKv K F ι [] []
  | cons {s : Str} {w : W} {v : V} {r : List (Str × W)} {t : List (L2.Key × V)} : RV K F ι w v → RKv K F ι r t → RKv K F ι ((s, w) :: r) ((.inr s, v) :: t)
section
variable {K : PySem.W.Frag} {F F' : Hp} {ι ι' : List Addr}
theorem RKv.mono (l : Le F ι F' ι') : ∀ {r : List (Str × W)} {t : List (L2.Key × V)}, RKv K F ι r t → RKv K F' ι' r t
  | _, _, .nil => .nil
  | _, _, .cons q c => .cons (q.mono l) (RKv.mono l c)
theorem RKv.length : ∀ {r : List (Str × W)} {t : List (L2.Key × V)}, RKv K F ι r t → r.length = t.length
  | _, _, .nil => rfl
  | _, _, .cons _ c => congrArg (· + 1) (RKv.length c)
theorem inr_iff {s k : Str} : ((Sum.inr s : L2.Key) = .inr k) ↔ s = k := ⟨fun e => Sum.inr.inj e, fun e => congrArg _ e⟩
theorem RKv.get {s : Str} : ∀ {r : List (Str × W)} {t : List (L2.Key × V)}, RKv K F ι r t → (∀ w, dicGet r s = some w → ∃ v, valV t (.inr s) = some v ∧ RV K F ι w v) ∧ (dicGet r s = none → valV t (.inr s) = none)
  | _, _, .nil => ⟨fun w e => (by cases e), fun _ => rfl⟩
  | _, _, .cons (s := k) (w := w) (v := v) (r := r) (t := t) q c => by
    obtain ⟨h1, h2⟩ := RKv.get (s := s) c
    by_cases hk : k = s
    · subst hk
      have e : dicGet ((k, w) :: r) k = some w := by simp [dicGet]
      have e2 : valV ((Sum.inr k, v) :: t : List (L2.Key × V)) (.inr k) = some v := valV_pos rfl
      rw [e, e2]
      exact ⟨fun w' z => (by cases z; exact ⟨v, rfl, q⟩), fun z => (by cases z)⟩
    · have e : dicGet ((k, w) :: r) s = dicGet r s := by simp [dicGet, hk]
      have e2 : valV ((Sum.inr k, v) :: t : List (L2.Key × V)) (.inr s) = valV t (.inr s) := valV_neg (fun z => hk (Sum.inr.inj z))
      rw [e, e2]
      exact ⟨h1, h2⟩
theorem RKv.any {s : Str} : ∀ {r : List (Str × W)} {t : List (L2.Key × V)}, RKv K F ι r t → (t.any fun kv => decide (kv.1 = .inr s)) = r.any fun kv => decide (kv.1 = s)
  | _, _, .nil => rfl
  | _, _, .cons (s := k) q c => by
    rw [List.any_cons, List.any_cons, RKv.any c]
    congr 1
    exact decide_eq_decide.mpr inr_iff
theorem RKv.put {s : Str} {w : W} {v : V} (q : RV K F ι w v) {r : List (Str × W)} {t : List (L2.Key × V)} (c : RKv K F ι r t) : RKv K F ι (dicPut r s w) (putK t (.inr s) v) := by
  have ap : ∀ {r : List (Str × W)} {t : List (L2.Key × V)}, RKv K F ι r t → RKv K F ι (r ++ [(s, w)]) (t ++ [(.inr s, v)]) := fun {r t} c => by
    induction c with
    | nil => exact .cons q .nil
    | cons a _ ih => exact .cons a ih
  have mp : ∀ {r : List (Str × W)} {t : List (L2.Key × V)}, RKv K F ι r t → RKv K F ι (r.map fun kv => match decide (kv.1 = s) with | true => (kv.1, w) | false => kv) (t.map fun kv => if kv.1 = .inr s then (kv.1, v) else kv) := fun {r t} c => by
    induction c with
    | nil => exact .nil
    | @cons k x y r t a _ ih =>
      rw [List.map_cons, List.map_cons]
      by_cases hk : k = s
      · subst hk
        simp only [decide_true, if_true]
        exact .cons q ih
      · have e : ¬ ((Sum.inr k : L2.Key) = .inr s) := fun z => hk (Sum.inr.inj z)
        simp only [hk, decide_false, e, if_false]
        exact .cons a ih
  unfold dicPut putK
  rw [c.any]
  cases (r.any fun kv => decide (kv.1 = s)) with
  | true => exact mp c
  | false => exact ap c
end

/-! ## states -/
def ObR (K : PySem.W.Frag) (F : Hp) (ι : List Addr) : Ob → Option HO → Prop
  | .lst ws, o => ∃ vs, o = some (.lst vs) ∧ RVs K F ι ws vs
  | .dic kvs, o => ∃ ks, o = some (.dK ks) ∧ RKv K F ι kvs ks
theorem ObR.some {K : PySem.W.Frag} {F : Hp} {ι : List Addr} {b : Ob} {o : Option HO} (h : ObR K F ι b o) : o ≠ none := by
  cases b with
  | lst ws => obtain ⟨vs, e, _⟩ := h; rw [e]; simp
  | dic ws => obtain ⟨vs, e, _⟩ := h; rw [e]; simp
theorem ObR.mono {K : PySem.W.Frag} {F F' : Hp} {ι ι' : List Addr} (l : Le F ι F' ι') {b : Ob} {o : Option HO} (h : ObR K F ι b o) : ObR K F' ι' b o := by
  cases b with
  | lst ws =>
    obtain ⟨vs, e, r⟩ := h
    exact ⟨vs, e, r.mono l⟩
  | dic ws =>
    obtain ⟨vs, e, r⟩ := h
    exact ⟨vs, e, r.mono l⟩
/-- the heap's still part, and what changes -/
structure HR (K : PySem.W.Frag) (F : Hp) (ι : List Addr) (h : Obs) (H : Hp) : Prop where
  sub : ∀ a o, F a = some o → H a = some o
  len : ι.length = h.length
  nd : ι.Nodup
  ob : ∀ (n : Nat) (a : Addr) (o : Ob), ι[n]? = some a → h[n]? = some o → F a = none ∧ ObR K F ι o (H a)
/-- from one heap to a later one: what neither stands still nor changes by number is left alone -/
structure Xt (F : Hp) (ι : List Addr) (H : Hp) (F' : Hp) (ι' : List Addr) (H' : Hp) : Prop where
  le : Le F ι F' ι'
  h : ∀ a o, H a = some o → F a = none → a ∉ ι → H' a = some o
  n : ∀ a, F' a ≠ none → F a ≠ none ∨ H a = none
  m : ∀ a, a ∈ ι' → a ∈ ι ∨ H a = none
  d : ∀ a, H a ≠ none → H' a ≠ none
theorem Xt.refl {F : Hp} {ι : List Addr} {H : Hp} : Xt F ι H F ι H := ⟨.refl, fun _ _ h _ _ => h, fun _ h => .inl h, fun _ h => .inl h, fun _ h => h⟩
theorem Xt.trans {F F1 F2 : Hp} {ι ι1 ι2 : List Addr} {H H1 H2 : Hp} (a : Xt F ι H F1 ι1 H1) (b : Xt F1 ι1 H1 F2 ι2 H2) : Xt F ι H F2 ι2 H2 where
  le := a.le.trans b.le
  h := fun x o e n m => b.h x o (a.h x o e n m) (by
    cases q : F1 x with
    | none => rfl
    | some u =>
      rcases a.n x (by rw [q]; simp) with z | z
      · exact absurd n z
      · rw [z] at e; cases e) (fun hm => by
      rcases a.m x hm with z | z
      · exact m z
      · rw [z] at e; cases e)
  n := fun x hx => by
    rcases b.n x hx with z | z
    · exact a.n x z
    · refine .inr ?_
      cases q : H x with
      | none => rfl
      | some o => exact absurd z (a.d x (by rw [q]; simp))
  m := fun x hx => by
    rcases b.m x hx with z | z
    · exact a.m x z
    · refine .inr ?_
      cases q : H x with
      | none => rfl
      | some o => exact absurd z (a.d x (by rw [q]; simp))
  d := fun x hx => b.d x (a.d x hx)

/-- a def's slots -/
abbrev VS := List (Option V)
structure Ent where
  F : Hp
  ι : List Addr
  H : Hp
  /-- what nobody else may touch -/
  hold : Addr → Option HO := fun _ => none
theorem Xt.out {F : Hp} {ι : List Addr} {H : Hp} {F' : Hp} {ι' : List Addr} {H' : Hp} (x : Xt F ι H F' ι' H') {p : Addr} {o : HO} (e : H p = some o) (fn : F p = none) (ni : p ∉ ι) : H' p = some o ∧ F' p = none ∧ p ∉ ι' := by
  refine ⟨x.h p o e fn ni, ?_, fun hm => ?_⟩
  · cases q : F' p with
    | none => rfl
    | some u =>
      rcases x.n p (by rw [q]; simp) with z | z
      · exact absurd fn z
      · rw [z] at e; cases e
  · rcases x.m p hm with z | z
    · exact ni z
    · rw [z] at e; cases e
/-- a slot -/
def SlR (K : PySem.W.Frag) (F : Hp) (ι : List Addr) (H0 H : Hp) : Sl → Option (Option V) → Prop
  | .non, _ => True
  | .val w, o => ∃ v, o = some (some v) ∧ RV K F ι w v
  | .own ws, o => ∃ p vs, o = some (some (.ref p)) ∧ H p = some (.lst vs) ∧ RVs K F ι ws vs ∧ F p = none ∧ p ∉ ι ∧ H0 p = none
/-- a def's state, since its entry e0 -/
structure J (K : PySem.W.Frag) (e0 : Ent) (F : Hp) (ι : List Addr) (sl : Sls) (h : Obs) (σ : VS) (H : Hp) : Prop where
  hr : HR K F ι h H
  xt : Xt e0.F e0.ι e0.H F ι H
  len : sl.length = σ.length
  at_ : ∀ (i : Nat) (s : Sl), sl[i]? = some s → SlR K F ι e0.H H s σ[i]?
  ap : ∀ (i j : Nat) (ws us : List W) (p : Addr), sl[i]? = some (.own ws) → sl[j]? = some (.own us) → σ[i]? = some (some (.ref p)) → σ[j]? = some (some (.ref p)) → i = j
  hd : ∀ (a : Addr) (o : HO), e0.hold a = some o → H a = some o ∧ F a = none ∧ a ∉ ι ∧ ∀ (i : Nat) (ws : List W), sl[i]? = some (.own ws) → σ[i]? ≠ some (some (.ref a))
section
variable {K : PySem.W.Frag} {e0 : Ent} {F F' : Hp} {ι ι' : List Addr} {sl : Sls} {h h' : Obs} {σ : VS} {H H' : Hp}
/-- the heap goes on, the slots stay -/
theorem J.step (j : J K e0 F ι sl h σ H) (x : Xt F ι H F' ι' H') (r : HR K F' ι' h' H') : J K e0 F' ι' sl h' σ H' where
  hr := r
  xt := j.xt.trans x
  len := j.len
  at_ := fun i s e => by
    have q := j.at_ i s e
    cases s with
    | non => trivial
    | val w =>
      obtain ⟨v, e1, rv⟩ := q
      exact ⟨v, e1, rv.mono x.le⟩
    | own ws =>
      obtain ⟨p, vs, e1, e2, rv, fn, ni, n0⟩ := q
      obtain ⟨z1, z2, z3⟩ := x.out e2 fn ni
      exact ⟨p, vs, e1, z1, rv.mono x.le, z2, z3, n0⟩
  ap := j.ap
  hd := fun a o e => by
    obtain ⟨e1, e2, e3, e4⟩ := j.hd a o e
    obtain ⟨z1, z2, z3⟩ := x.out e1 e2 e3
    exact ⟨z1, z2, z3, e4⟩
/-- a new thing that stands still -/
theorem xt_new {p : Addr} {o : HO} (hp : H p = none) (s : ∀ a o, F a = some o → H a = some o) : Xt F ι H (upd F p o) ι (upd H p o) where
  le := ⟨fun a u e => by
    have hn : a ≠ p := fun z => by
      have := s a u e
      rw [z, hp] at this
      cases this
    rw [upd_ne hn]; exact e, [], by simp⟩
  h := fun a u e _ _ => by
    have hn : a ≠ p := fun z => by rw [z, hp] at e; cases e
    rw [upd_ne hn]; exact e
  n := fun a e => by
    by_cases hn : a = p
    · rw [hn]; exact .inr hp
    · rw [upd_ne hn] at e; exact .inl e
  m := fun a e => .inl e
  d := fun a e => by
    by_cases hn : a = p
    · rw [hn, upd_same]; simp
    · rw [upd_ne hn]; exact e
theorem hr_new {p : Addr} {o : HO} (hp : H p = none) (r : HR K F ι h H) : HR K (upd F p o) ι h (upd H p o) where
  sub := fun a u e => by
    by_cases hn : a = p
    · rw [hn, upd_same] at e ⊢; exact e
    · rw [upd_ne hn] at e ⊢; exact r.sub a u e
  len := r.len
  nd := r.nd
  ob := fun n a b e1 e2 => by
    obtain ⟨fn, q⟩ := r.ob n a b e1 e2
    have hn : a ≠ p := fun z => by
      have q2 := q.some
      rw [z, hp] at q2
      exact q2 rfl
    rw [upd_ne hn, upd_ne hn]
    exact ⟨fn, q.mono (xt_new (o := o) hp r.sub).le⟩
theorem J.new {p : Addr} {o : HO} (j : J K e0 F ι sl h σ H) (hp : H p = none) : J K e0 (upd F p o) ι sl h σ (upd H p o) := j.step (xt_new hp j.hr.sub) (hr_new hp j.hr)
theorem J.newLe {p : Addr} {o : HO} (j : J K e0 F ι sl h σ H) (hp : H p = none) : Le F ι (upd F p o) ι := (xt_new hp j.hr.sub).le
/-- a new thing that is nobody's yet: it is no part of the still heap -/
theorem J.loose {p : Addr} {o : HO} (j : J K e0 F ι sl h σ H) (hp : H p = none) : J K e0 F ι sl h σ (upd H p o) := j.step
  ⟨.refl, fun a u e _ _ => by rw [upd_ne (fun z => by rw [z, hp] at e; cases e)]; exact e, fun _ e => .inl e, fun _ e => .inl e, fun a e => by
    by_cases hn : a = p
    · rw [hn, upd_same]; simp
    · rw [upd_ne hn]; exact e⟩
  ⟨fun a u e => by
    have e2 := j.hr.sub a u e
    rw [upd_ne (fun z => by rw [z, hp] at e2; cases e2)]
    exact e2, j.hr.len, j.hr.nd, fun n a b e1 e2 => by
    obtain ⟨fn, q⟩ := j.hr.ob n a b e1 e2
    refine ⟨fn, ?_⟩
    rw [upd_ne (fun z => by
      have q2 := q.some
      rw [z, hp] at q2
      exact q2 rfl)]
    exact q⟩
theorem SqT.sub {a : Addr} {vs : List V} (r : HR K F ι h H) (q : SqT K F a vs) : SqT K H a vs := sqT_mono r.sub q
theorem SqL.sub {a : Addr} {vs : List V} (r : HR K F ι h H) (q : SqL K F a vs) : SqL K H a vs := sqL_mono r.sub q
end

/-! ## operands -/
/-- a value, or a list of the def's own that is looked at -/
def ROp (K : PySem.W.Frag) (sl : Sls) (σ : VS) (F : Hp) (ι : List Addr) (w : W) (v : V) : Prop :=
  RV K F ι w v ∨ ∃ (i : Nat) (ws : List W) (p : Addr), w = .lst ws ∧ v = .ref p ∧ sl[i]? = some (.own ws) ∧ σ[i]? = some (some (.ref p))
def RKd (K : PySem.W.Frag) (sl : Sls) (σ : VS) (k : Bool) (F : Hp) (ι : List Addr) (w : W) (v : V) : Prop := match k with
  | true => ROp K sl σ F ι w v
  | false => RV K F ι w v
/-- .. at a heap, lists read -/
def RN (K : PySem.W.Frag) (F : Hp) (ι : List Addr) (H : Hp) (w : W) (v : V) : Prop :=
  RV K F ι w v ∨ (∃ ws p vs, w = .lst ws ∧ v = .ref p ∧ H p = some (.lst vs) ∧ RVs K F ι ws vs) ∨ ∃ kvs p ks, w = .dic kvs ∧ v = .ref p ∧ H p = some (.dK ks) ∧ RKv K F ι kvs ks
section
variable {K : PySem.W.Frag} {e0 : Ent} {F F' : Hp} {ι ι' : List Addr} {sl : Sls} {h h' : Obs} {σ : VS} {H H' : Hp} {w : W} {v : V}
theorem ROp.mono (l : Le F ι F' ι') (r : ROp K sl σ F ι w v) : ROp K sl σ F' ι' w v := by
  rcases r with r | r
  · exact .inl (r.mono l)
  · exact .inr r
theorem RKd.of {k : Bool} (r : RV K F ι w v) : RKd K sl σ k F ι w v := by
  cases k with
  | true => exact .inl r
  | false => exact r
theorem J.now (j : J K e0 F ι sl h σ H) (r : ROp K sl σ F ι w v) : RN K F ι H (w.now h) v := by
  rcases r with r | ⟨i, ws, p, rfl, rfl, e1, e2⟩
  · cases r with
    | @ref n a e =>
      cases q : h[n]? with
      | none =>
        have z : (W.ref n).now h = .ref n := by simp only [W.now, q]
        rw [z]
        exact .inl (.ref e)
      | some o =>
        cases o with
        | lst ws =>
          obtain ⟨fn, vs, eo, rv⟩ := j.hr.ob n a _ e q
          have z : (W.ref n).now h = .lst ws := by simp only [W.now, q]
          rw [z]
          exact .inr (.inl ⟨ws, a, vs, rfl, rfl, eo, rv⟩)
        | dic kvs =>
          obtain ⟨fn, vs, eo, rv⟩ := j.hr.ob n a _ e q
          have z : (W.ref n).now h = .dic kvs := by simp only [W.now, q]
          rw [z]
          exact .inr (.inr ⟨kvs, a, vs, rfl, rfl, eo, rv⟩)
    | non => exact .inl .non
    | bl b => exact .inl (.bl b)
    | int i => exact .inl (.int i)
    | str s => exact .inl (.str s)
    | ty n => exact .inl (.ty n)
    | tup e q => exact .inl (.tup e q)
    | lst e q => exact .inl (.lst e q)
    | emp e => exact .inl (.emp e)
    | scr e => exact .inl (.scr e)
  · obtain ⟨p', vs, e3, e4, rv, _⟩ := j.at_ i _ e1
    rw [e2] at e3
    cases e3
    exact .inr (.inl ⟨ws, p, vs, rfl, rfl, e4, rv⟩)
/-- a list that is read -/
theorem RN.lst (s : ∀ a o, F a = some o → H a = some o) {ws : List W} (r : RN K F ι H (.lst ws) v) : ∃ p vs, v = .ref p ∧ H p = some (.lst vs) ∧ RVs K F ι ws vs := by
  rcases r with r | ⟨us, p, vs, e, rfl, e2, rv⟩ | ⟨_, _, _, e, _⟩
  · cases r with
    | lst e q => exact ⟨_, _, rfl, s _ _ e, q⟩
  · cases e
    exact ⟨p, vs, rfl, e2, rv⟩
  · cases e
/-- a dict that is read -/
theorem RN.dic {kvs : List (Str × W)} (r : RN K F ι H (.dic kvs) v) : ∃ p ks, v = .ref p ∧ H p = some (.dK ks) ∧ RKv K F ι kvs ks := by
  rcases r with r | ⟨us, p, vs, e, rfl, e2, rv⟩ | ⟨_, p, ks, e, rfl, e2, rv⟩
  · cases r
  · cases e
  · cases e
    exact ⟨p, ks, rfl, e2, rv⟩
theorem RN.rv (r : RN K F ι H w v) (n : ∀ ws, w ≠ .lst ws) (n2 : ∀ ws, w ≠ .dic ws := by intro _ z; cases z) : RV K F ι w v := by
  rcases r with r | ⟨ws, _, _, rfl, _⟩ | ⟨ws, _, _, rfl, _⟩
  · exact r
  · exact absurd rfl (n ws)
  · exact absurd rfl (n2 ws)
theorem RN.dat (s : ∀ a o, F a = some o → H a = some o) {d : PyData} (r : RN K F ι H w v) (e : w.dat = some d) : Dp K H v d := by
  rcases r with r | ⟨ws, p, vs, rfl, rfl, e2, rv⟩ | ⟨ws, p, vs, rfl, rfl, e2, rv⟩
  rotate_left 2
  · unfold W.dat at e
    cases e
  · exact r.dat s e
  · unfold W.dat at e
    cases q : W.dats ws with
    | none => rw [q] at e; cases e
    | some ds =>
      rw [q] at e
      cases e
      exact .lst (.inl (.inl e2)) (RVs.dats s rv q)
/-- the items of what can be walked -/
theorem RN.items (s : ∀ a o, F a = some o → H a = some o) {ws : List W} (r : RN K F ι H w v) (e : w.items = some ws) : ∃ p vs, v = .ref p ∧ (SqL K H p vs ∨ SqT K H p vs) ∧ RVs K F ι ws vs := by
  rcases r with r | ⟨us, p, vs, rfl, rfl, e2, rv⟩ | ⟨us, p, vs, rfl, rfl, e2, rv⟩
  rotate_left 2
  · cases e
  · cases r with
    | lst q rv =>
      cases e
      exact ⟨_, _, rfl, .inl (.inl (.inl (s _ _ q))), rv⟩
    | tup q rv =>
      cases e
      exact ⟨_, _, rfl, .inr (sqT_mono s q), rv⟩
    | @scr ns a q =>
      cases e
      exact ⟨_, _, rfl, .inl (sqL_mono s q), RVs.ints ns⟩
    | _ => cases e
  · cases e
    exact ⟨p, vs, rfl, .inl (.inl (.inl e2)), rv⟩
end
end Ev

namespace Ev
open PySem PySem.Spec PyProof.Rows L2

/-! ## operations by values: the layer's rules, joined -/
/-- what stands behind an operation: the still part may have grown by what is new -/
def Bh (K : PySem.W.Frag) (F : Hp) (ι : List Addr) (h : Obs) (H : Hp) (w : W) (Q : V → Hp → Prop) : Prop :=
  ∀ F' H' v, Xt F ι H F' ι H' → HR K F' ι h H' → RV K F' ι w v → Q v H'
def rBin (K : PySem.W.Frag) (op : BOp) : R2 := fun x y H Q => ∃ F ι h a b w, HR K F ι h H ∧ RN K F ι H a x ∧ RN K F ι H b y ∧ binW op a b = some w ∧ Bh K F ι h H w Q
def rCmp (K : PySem.W.Frag) (op : COp) : R2 := fun x y H Q => ∃ F ι h a b k, HR K F ι h H ∧ RN K F ι H a x ∧ RN K F ι H b y ∧ cmpW op a b = some k ∧ Q (.bl k) H
section
variable {K : PySem.W.Frag} {F : Hp} {ι : List Addr} {h : Obs} {H : Hp} {Q : V → Hp → Prop}
theorem Bh.now {w : W} {v : V} (b : Bh K F ι h H w Q) (r : HR K F ι h H) (q : RV K F ι w v) : Q v H := b F H v .refl r q
/-- a new list, a new tuple -/
theorem Bh.lst {ws : List W} {vs : List V} {p : Addr} (b : Bh K F ι h H (.lst ws) Q) (r : HR K F ι h H) (q : RVs K F ι ws vs) (hp : H p = none) : Q (.ref p) (upd H p (.lst vs)) :=
  b _ _ _ (xt_new hp r.sub) (hr_new hp r) (.lst upd_same (q.mono (xt_new (o := HO.lst vs) hp r.sub).le))
theorem Bh.tup {ws : List W} {vs : List V} {p : Addr} (b : Bh K F ι h H (.tup ws) Q) (r : HR K F ι h H) (q : RVs K F ι ws vs) (hp : H p = none) : Q (.ref p) (upd H p (.tup vs)) :=
  b _ _ _ (xt_new hp r.sub) (hr_new hp r) (.tup (.inl (.inl upd_same)) (q.mono (xt_new (o := HO.tup vs) hp r.sub).le))
theorem RN.int {i : Int} {v : V} (r : RN K F ι H (.int i) v) : v = .int i := by
  have q := r.rv (fun _ z => by cases z)
  cases q
  rfl
theorem RN.str {s : Str} {v : V} (r : RN K F ι H (.str s) v) : v = .str s := by
  have q := r.rv (fun _ z => by cases z)
  cases q
  rfl
theorem lineN_ok {n : Nat} (e : lineN n = true) : n ≤ sizeLine := of_decide_eq_true e
theorem and_ok {a b : Bool} (e : (a && b) = true) : a = true ∧ b = true := Bool.and_eq_true_iff.mp e
theorem small_ok {i : Int} (e : small i = true) : -(2 ^ 64) < i ∧ i < 2 ^ 64 := by
  obtain ⟨a, b⟩ := and_ok e
  exact ⟨of_decide_eq_true a, of_decide_eq_true b⟩
end
theorem intsW_ok {α : Type} {f : Int → Int → Option α} {a b : W} {r : α} (e : intsW f a b = some r) : ∃ i j, a = .int i ∧ b = .int j ∧ f i j = some r := by
  unfold intsW at e
  split at e
  · exact ⟨_, _, rfl, rfl, e⟩
  · cases e
theorem ifB_ok {α : Type} {b : Bool} {a r : α} (e : ifB b a = some r) : b = true ∧ a = r := by
  cases b with
  | true => cases e; exact ⟨rfl, rfl⟩
  | false => cases e
section
variable {X : Cx}
theorem bin_ok (op : BOp) : OpR X (binaryOp op.un) (rBin X.K op) := by
  intro pins s σ H x y v u Q I rx ry q
  obtain ⟨F, ι, h, a, b, w, hr, ra, rb, e, bh⟩ := q
  have onI : ∀ {f : Int → Int → Option W}, intsW f a b = some w → (∀ i j, x = .int i → y = .int j → f i j = some w → wpAny (model X.prog X.w) X.A (binaryOp op.un v u) (EP X pins σ Q) X.xe s) →
      wpAny (model X.prog X.w) X.A (binaryOp op.un v u) (EP X pins σ Q) X.xe s := fun e f => by
    obtain ⟨i, j, rfl, rfl, e⟩ := intsW_ok e
    exact f i j ra.int rb.int e
  cases op with
  | add =>
    have e : addW a b = some w := e
    unfold addW at e
    split at e
    · cases e
      cases ra.int; cases rb.int
      exact op_add pins s σ H _ _ v u Q I rx ry ⟨_, _, rfl, rfl, bh.now hr (.int _)⟩
    · split at e
      · rename_i z
        cases e
        cases ra.str; cases rb.str
        exact op_add_str pins s σ H _ _ v u Q I rx ry ⟨_, _, rfl, rfl, lineN_ok z, bh.now hr (.str _)⟩
      · cases e
    · split at e
      · rename_i z
        cases e
        obtain ⟨p, vs, rfl, e1, r1⟩ := ra.lst hr.sub
        obtain ⟨p', us, rfl, e2, r2⟩ := rb.lst hr.sub
        exact op_cat pins s σ H _ _ v u Q I rx ry ⟨_, _, _, _, rfl, rfl, e1, e2, by rw [← r1.length, ← r2.length]; exact lineN_ok z, fun p hp => bh.lst hr (r1.append r2) hp⟩
      · cases e
    · cases e
  | sub =>
    refine onI e fun i j ei ej e => ?_
    cases e
    exact op_sub pins s σ H x y v u Q I rx ry ⟨_, _, ei, ej, bh.now hr (.int _)⟩
  | mul =>
    have e : mulW a b = some w := e
    unfold mulW at e
    split at e
    · obtain ⟨z, rfl⟩ := ifB_ok e
      cases ra.int; cases rb.int
      refine op_mul pins s σ H _ _ v u Q I rx ry ⟨_, _, rfl, rfl, ?_, bh.now hr (.int _)⟩
      rcases Bool.or_eq_true_iff.mp z with z | z
      · exact .inl (small_ok z)
      · exact .inr (small_ok z)
    · obtain ⟨z, rfl⟩ := ifB_ok e
      obtain ⟨z1, z2⟩ := and_ok z
      obtain ⟨z2, z3⟩ := and_ok z2
      cases rb.int
      obtain ⟨p, vs, rfl, e1, r1⟩ := ra.lst hr.sub
      exact op_rep pins s σ H _ _ v u Q I rx ry ⟨_, _, _, rfl, rfl, e1, of_decide_eq_true z1, of_decide_eq_true z2, by rw [← r1.length]; exact lineN_ok z3, fun p hp => bh.lst hr (r1.rep _) hp⟩
    · cases e
  | fdiv =>
    refine onI e fun i j ei ej e => ?_
    obtain ⟨z, rfl⟩ := ifB_ok e
    obtain ⟨z1, z2⟩ := and_ok z
    exact op_fdiv pins s σ H x y v u Q I rx ry ⟨_, _, ei, ej, ⟨of_decide_eq_true z1, of_decide_eq_true z2⟩, bh.now hr (.int _)⟩
  | mod =>
    refine onI e fun i j ei ej e => ?_
    obtain ⟨z, rfl⟩ := ifB_ok e
    exact op_mod pins s σ H x y v u Q I rx ry ⟨_, _, ei, ej, of_decide_eq_true z, bh.now hr (.int _)⟩
  | pow =>
    refine onI e fun i j ei ej e => ?_
    obtain ⟨z, rfl⟩ := ifB_ok e
    obtain ⟨z1, z2⟩ := and_ok z
    obtain ⟨z2, z3⟩ := and_ok z2
    exact op_pow pins s σ H x y v u Q I rx ry ⟨_, _, ei, ej, ⟨of_decide_eq_true z1, of_decide_eq_true z2, of_decide_eq_true z3⟩, bh.now hr (.int _)⟩
mutual
theorem dat_plain : ∀ {w : W} {d : PyData}, w.dat = some d → d.plain = true
  | .non, _, e => by unfold W.dat at e; cases e; rfl
  | .bl _, _, e => by unfold W.dat at e; cases e; rfl
  | .int _, _, e => by unfold W.dat at e; cases e; rfl
  | .str _, _, e => by unfold W.dat at e; cases e; rfl
  | .tup ws, _, e => by
    unfold W.dat at e
    cases q : W.dats ws with
    | none => rw [q] at e; cases e
    | some ds => rw [q] at e; cases e; exact dats_plain q
  | .lst ws, _, e => by
    unfold W.dat at e
    cases q : W.dats ws with
    | none => rw [q] at e; cases e
    | some ds => rw [q] at e; cases e; exact dats_plain q
  | .ty _, _, e => by unfold W.dat at e; cases e
  | .emp, _, e => by unfold W.dat at e; cases e
  | .scr _, _, e => by unfold W.dat at e; cases e
  | .ref _, _, e => by unfold W.dat at e; cases e
  | .dic _, _, e => by unfold W.dat at e; cases e
theorem dats_plain : ∀ {ws : List W} {ds : List PyData}, W.dats ws = some ds → PyData.plainAll ds = true
  | [], _, e => by unfold W.dats at e; cases e; rfl
  | w :: ws, _, e => by
    unfold W.dats at e
    cases q1 : W.dat w with
    | none => rw [q1] at e; cases e
    | some d =>
      cases q2 : W.dats ws with
      | none => rw [q1, q2] at e; cases e
      | some ds =>
        rw [q1, q2] at e
        cases e
        simp only [PyData.plainAll, dat_plain q1, dats_plain q2, Bool.and_self]
end
theorem eqW_ok {a b : W} {k : Bool} (e : eqW a b = some k) : ∃ d f, a.dat = some d ∧ b.dat = some f ∧ d.plain = true ∧ f.plain = true ∧ min d.depth f.depth ≤ 64 ∧ PyData.eqv d f = k := by
  unfold eqW at e
  split at e
  · rename_i d f h1 h2
    split at e
    · rename_i z
      cases e
      exact ⟨d, f, h1, h2, dat_plain h1, dat_plain h2, of_decide_eq_true z, rfl⟩
    · cases e
  · cases e
theorem inW_ok {K : PySem.W.Frag} {F : Hp} {ι : List Addr} {H : Hp} {a b : W} {x y : V} {k : Bool} (s : ∀ a o, F a = some o → H a = some o) (ra : RN K F ι H a x) (rb : RN K F ι H b y) (e : inW a b = some k) (nd : ∀ kvs, b ≠ .dic kvs) :
    ∃ d ds, Dp K H x d ∧ (Dp K H y (.list ds) ∨ Dp K H y (.tuple ds)) ∧ d.plain = true ∧ PyData.plainAll ds = true ∧ min (PyData.depthAll ds) d.depth ≤ 62 ∧ (ds.any fun y => PyData.eqv y d) = k := by
  have go : ∀ {ws : List W}, b.items = some ws → inD a ws = some k →
      ∃ d ds, Dp K H x d ∧ (Dp K H y (.list ds) ∨ Dp K H y (.tuple ds)) ∧ d.plain = true ∧ PyData.plainAll ds = true ∧ min (PyData.depthAll ds) d.depth ≤ 62 ∧ (ds.any fun y => PyData.eqv y d) = k := fun {ws} hi e => by
    unfold inD at e
    split at e
    · rename_i d ds h1 h2
      split at e
      · rename_i z
        cases e
        obtain ⟨p, vs, rfl, sq, rv⟩ := rb.items s hi
        refine ⟨d, ds, ra.dat s h1, ?_, dat_plain h1, dats_plain h2, of_decide_eq_true z, rfl⟩
        rcases sq with sq | sq
        · exact .inl (.lst sq (RVs.dats s rv h2))
        · exact .inr (.tup sq (RVs.dats s rv h2))
      · cases e
    · cases e
  unfold inW at e
  split at e
  · exact absurd rfl (nd _)
  · exact go rfl e
  · exact go rfl e
  · cases e
/-- .. of a dict -/
theorem inD_ok {K : PySem.W.Frag} {F : Hp} {ι : List Addr} {H : Hp} {a : W} {kvs : List (Str × W)} {x y : V} {k : Bool} (ra : RN K F ι H a x) (rb : RN K F ι H (.dic kvs) y) (e : inW a (.dic kvs) = some k) : ∃ p o, y = .ref p ∧ DGet H p x o ∧ o.isSome = k := by
  cases a with
  | str s =>
    cases e
    cases ra.str
    obtain ⟨p, ks, rfl, hp, c⟩ := rb.dic
    obtain ⟨h1, h2⟩ := c.get (s := s)
    refine ⟨p, valV ks (.inr s), rfl, .inl ⟨ks, .inr s, .inl hp, rfl, rfl⟩, ?_⟩
    cases q : dicGet kvs s with
    | none => rw [h2 q]; rfl
    | some w =>
      obtain ⟨v, e, _⟩ := h1 w q
      rw [e]
      rfl
  | _ => cases e
theorem isnon {K : PySem.W.Frag} {F : Hp} {ι : List Addr} {H : Hp} {a : W} {x : V} (ra : RN K F ι H a x) : decide (x = V.non) = a.isNon := by
  rcases ra with r | ⟨ws, p, vs, rfl, rfl, _⟩ | ⟨ws, p, vs, rfl, rfl, _⟩
  rotate_left 2
  · exact decide_eq_false (fun z => by cases z)
  · cases r <;> first | rfl | (exact decide_eq_false (fun z => by cases z))
  · exact decide_eq_false (fun z => by cases z)
theorem cmp_ok (op : COp) (hu : X.A.units + 64 < cLine) : OpR X (compareOp op.un) (rCmp X.K op) := by
  intro pins s σ H x y v u Q I rx ry q
  obtain ⟨F, ι, h, a, b, k, hr, ra, rb, e, q⟩ := q
  have onI : ∀ {f : Int → Int → Option Bool}, intsW f a b = some k → (∀ i j, x = .int i → y = .int j → f i j = some k → wpAny (model X.prog X.w) X.A (compareOp op.un v u) (EP X pins σ Q) X.xe s) →
      wpAny (model X.prog X.w) X.A (compareOp op.un v u) (EP X pins σ Q) X.xe s := fun e f => by
    obtain ⟨i, j, rfl, rfl, e⟩ := intsW_ok e
    exact f i j ra.int rb.int e
  cases op with
  | eq =>
    obtain ⟨d, f, h1, h2, s1, s2, hm, rfl⟩ := eqW_ok e
    obtain ⟨as, r1⟩ := Dp.reads I d x v (ra.dat hr.sub h1) rx
    obtain ⟨bs, r2⟩ := Dp.reads I f y u (rb.dat hr.sub h2) ry
    exact SeqAt.eq_plain r1 r2 s1 s2 (by omega) ⟨.bl _, H, I, rfl, q⟩
  | ne =>
    have e : (eqW a b).map (!·) = some k := e
    cases z : eqW a b with
    | none => rw [z] at e; cases e
    | some k' =>
      rw [z] at e
      cases e
      obtain ⟨d, f, h1, h2, s1, s2, hm, rfl⟩ := eqW_ok z
      obtain ⟨as, r1⟩ := Dp.reads I d x v (ra.dat hr.sub h1) rx
      obtain ⟨bs, r2⟩ := Dp.reads I f y u (rb.dat hr.sub h2) ry
      exact SeqAt.ne_plain r1 r2 s1 s2 (by omega) ⟨.bl _, H, I, rfl, q⟩
  | isin =>
    have hd : (∃ kvs, b = .dic kvs) ∨ ∀ kvs, b ≠ .dic kvs := by
      cases b with
      | dic kvs => exact .inl ⟨kvs, rfl⟩
      | _ => exact .inr (fun _ z => by cases z)
    rcases hd with ⟨kvs, rfl⟩ | nd
    · obtain ⟨p, o, rfl, g, rfl⟩ := inD_ok ra rb e
      cases ry
      exact d_in (by omega) I g rx fun s' I' => ⟨.bl o.isSome, H, I', rfl, q⟩
    obtain ⟨d, ds, hd, hds, p1, p2, hm, rfl⟩ := inW_ok hr.sub ra rb e nd
    obtain ⟨as, r1⟩ := Dp.reads I d x v hd rx
    rcases hds with hds | hds
    · obtain ⟨bs, r2⟩ := Dp.reads I _ y u hds ry
      exact SeqAt.in_list_data r2 r1 p2 p1 (by omega) ⟨.bl _, H, I, rfl, q⟩
    · obtain ⟨bs, r2⟩ := Dp.reads I _ y u hds ry
      exact SeqAt.in_tuple_data r2 r1 p2 p1 (by omega) ⟨.bl _, H, I, rfl, q⟩
  | notin =>
    have e : (inW a b).map (!·) = some k := e
    cases z : inW a b with
    | none => rw [z] at e; cases e
    | some k' =>
      rw [z] at e
      cases e
      have hd : (∃ kvs, b = .dic kvs) ∨ ∀ kvs, b ≠ .dic kvs := by
        cases b with
        | dic kvs => exact .inl ⟨kvs, rfl⟩
        | _ => exact .inr (fun _ z => by cases z)
      rcases hd with ⟨kvs, rfl⟩ | nd
      · obtain ⟨p, o, rfl, g, rfl⟩ := inD_ok ra rb z
        cases ry
        exact d_notIn (by omega) I g rx fun s' I' => ⟨.bl (!o.isSome), H, I', rfl, q⟩
      obtain ⟨d, ds, hd, hds, p1, p2, hm, rfl⟩ := inW_ok hr.sub ra rb z nd
      obtain ⟨as, r1⟩ := Dp.reads I d x v hd rx
      rcases hds with hds | hds
      · obtain ⟨bs, r2⟩ := Dp.reads I _ y u hds ry
        exact SeqAt.notIn_list_data r2 r1 p2 p1 (by omega) ⟨.bl _, H, I, rfl, q⟩
      · obtain ⟨bs, r2⟩ := Dp.reads I _ y u hds ry
        exact SeqAt.notIn_tuple_data r2 r1 p2 p1 (by omega) ⟨.bl _, H, I, rfl, q⟩
  | isn =>
    have e : (if b.isNon = true then some a.isNon else none) = some k := e
    split at e
    · rename_i z
      cases e
      have q2 := (isnon rb).trans z
      have q3 : y = V.non := of_decide_eq_true q2
      subst q3
      exact op_isN pins s σ H _ _ v u Q I rx ry ⟨rfl, by rw [isnon ra]; exact q⟩
    · cases e
  | notn =>
    have e : (if b.isNon = true then some (!a.isNon) else none) = some k := e
    split at e
    · rename_i z
      cases e
      have q2 := (isnon rb).trans z
      have q3 : y = V.non := of_decide_eq_true q2
      subst q3
      exact op_notN pins s σ H _ _ v u Q I rx ry ⟨rfl, by rw [isnon ra]; exact q⟩
    · cases e
  | lt =>
    refine onI e fun i j ei ej e => ?_
    cases e
    exact op_lt pins s σ H x y v u Q I rx ry ⟨_, _, ei, ej, q⟩
  | le =>
    refine onI e fun i j ei ej e => ?_
    cases e
    exact op_le pins s σ H x y v u Q I rx ry ⟨_, _, ei, ej, q⟩
  | gt =>
    refine onI e fun i j ei ej e => ?_
    cases e
    exact op_gt pins s σ H x y v u Q I rx ry ⟨_, _, ei, ej, q⟩
  | ge =>
    refine onI e fun i j ei ej e => ?_
    cases e
    exact op_ge pins s σ H x y v u Q I rx ry ⟨_, _, ei, ej, q⟩
end
end Ev

namespace Ev
open PySem PySem.Spec PyProof.Rows L2

/-! ## built-ins by values -/
def Bt.val : Bt → Value
  | .len => .builtin "len" | .abs => .builtin "abs" | .max => .builtin "max" | .min => .builtin "min" | .divmod => .builtin "divmod" | .repr => .builtin "repr" | .all => .builtin "all"
  | .int => .type "int" | .list => .type "list" | .tuple => .type "tuple"
inductive RNs (K : PySem.W.Frag) (F : Hp) (ι : List Addr) (H : Hp) : List W → List V → Prop
  | nil : RNs K F ι H [] []
  | cons {w : W} {v : V} {ws : List W} {vs : List V} : RN K F ι H w v → RNs K F ι H ws vs → RNs K F ι H (w :: ws) (v :: vs)
def rBlt (K : PySem.W.Frag) (b : Bt) : List V → Hp → VK → Prop := fun xs H Q => ∃ F ι h ws w, HR K F ι h H ∧ RNs K F ι H ws xs ∧ bltW b ws = some w ∧ Bh K F ι h H w Q
section
variable {K : PySem.W.Frag} {F : Hp} {ι : List Addr} {H : Hp} {h : Obs}
theorem RNs.one {w : W} {xs : List V} (r : RNs K F ι H [w] xs) : ∃ v, xs = [v] ∧ RN K F ι H w v := by
  cases r with
  | cons a b => cases b; exact ⟨_, rfl, a⟩
theorem RNs.two {w u : W} {xs : List V} (r : RNs K F ι H [w, u] xs) : ∃ v x, xs = [v, x] ∧ RN K F ι H w v ∧ RN K F ι H u x := by
  cases r with
  | cons a b =>
    obtain ⟨x, rfl, q⟩ := b.one
    exact ⟨_, _, rfl, a, q⟩
theorem RVs.bls : ∀ {ws : List W} {vs : List V} {bs : List Bool}, RVs K F ι ws vs → bools ws = some bs → vs = bs.map V.bl
  | _, _, _, .nil, e => by cases e; rfl
  | _, _, bs, .cons (w := w) (ws := ws) r t, e => by
    cases r with
    | bl b =>
      have e : (bools ws).map (b :: ·) = some bs := e
      cases q : bools ws with
      | none => rw [q] at e; cases e
      | some bs' =>
        rw [q] at e
        cases e
        rw [RVs.bls t q]
        rfl
    | _ => cases e
theorem lenV_of (s : ∀ a o, F a = some o → H a = some o) {w : W} {v : V} {n : Nat} (r : RN K F ι H w v) (e : lenW w = some n) : LenV K v H n := by
  have seq : ∀ {ws : List W}, w.items = some ws → n = ws.length → LenV K v H n := fun {ws} hi en => by
    obtain ⟨p, vs, rfl, sq, rv⟩ := r.items s hi
    rw [rv.length] at en
    rcases sq with sq | sq
    · exact .inl ⟨vs, sq, en⟩
    · exact .inr ⟨vs, sq, en⟩
  unfold lenW at e
  split at e
  · cases e; exact seq rfl rfl
  · cases e; exact seq rfl rfl
  · cases e; exact seq rfl (by simp)
  · split at e
    · rename_i z
      cases e
      rw [r.str]
      exact ⟨lineN_ok z, rfl⟩
    · cases e
  · cases e
mutual
theorem dat_nodict : ∀ {w : W} {d : PyData}, w.dat = some d → d.hasDict = false
  | .non, _, e => by unfold W.dat at e; cases e; rfl
  | .bl _, _, e => by unfold W.dat at e; cases e; rfl
  | .int _, _, e => by unfold W.dat at e; cases e; rfl
  | .str _, _, e => by unfold W.dat at e; cases e; rfl
  | .tup ws, _, e => by
    unfold W.dat at e
    cases q : W.dats ws with
    | none => rw [q] at e; cases e
    | some ds => rw [q] at e; cases e; exact dats_nodict q
  | .lst ws, _, e => by
    unfold W.dat at e
    cases q : W.dats ws with
    | none => rw [q] at e; cases e
    | some ds => rw [q] at e; cases e; exact dats_nodict q
  | .ty _, _, e => by unfold W.dat at e; cases e
  | .emp, _, e => by unfold W.dat at e; cases e
  | .scr _, _, e => by unfold W.dat at e; cases e
  | .ref _, _, e => by unfold W.dat at e; cases e
theorem dats_nodict : ∀ {ws : List W} {ds : List PyData}, W.dats ws = some ds → PyData.hasDictAll ds = false
  | [], _, e => by unfold W.dats at e; cases e; rfl
  | w :: ws, _, e => by
    unfold W.dats at e
    cases q1 : W.dat w with
    | none => rw [q1] at e; cases e
    | some d =>
      cases q2 : W.dats ws with
      | none => rw [q1, q2] at e; cases e
      | some ds =>
        rw [q1, q2] at e
        cases e
        simp only [PyData.hasDictAll, dat_nodict q1, dats_nodict q2, Bool.or_self]
end
end
section
variable {X : Cx} {pins : List (Addr × Obj)} {s : Shared} {σ : VS} {H : Hp}
theorem repr_ok {d : PyData} {x : V} {u : Value} {Q : VK} (I : Inv X pins σ H s) (r : RelV x u) (p : Dp X.K H x d) (h1 : d.showable = true) (h2 : d.depth ≤ 64) (h3 : d.shown.length ≤ sizeLine) (hn : d.hasDict = false)
    (hg : X.A.guards = some []) (hu : X.A.units + 70 < cLine) (q : Q (.str d.shown) H) : wpAny (model X.prog X.w) X.A (call (.builtin "repr") [u]) (EP X pins σ Q) X.xe s := by
  obtain ⟨as, rd⟩ := Dp.reads I d x u p r
  cases p with
  | non =>
    cases r
    have z : PyData.shown .none = ("None" : Str) := by simp only [PyData.shown]
    rw [z] at q
    exact PySem.P.repr_of_none ⟨.str _, H, I.tok _, ⟨_, rfl⟩, q⟩
  | bl b =>
    cases r
    simp only [PyData.shown] at q
    exact PySem.P.repr_of_bool ⟨.str _, H, I.tok _, ⟨_, rfl⟩, q⟩
  | int i =>
    obtain ⟨t, rfl⟩ := r
    simp only [PyData.shown] at q
    exact PySem.P.repr_of_int (by simpa [PyData.showable] using h1) ⟨.str _, H, I.tok _, ⟨_, rfl⟩, q⟩
  | str y =>
    obtain ⟨t, rfl⟩ := r
    simp only [PyData.shown] at q h3
    exact PySem.P.repr_of_str ⟨.str _, H, I.tok _, ⟨_, rfl⟩, q⟩ h3
  | lst sq al =>
    cases r
    exact repr_of_reads' rd h1 (fun z => by rw [hn] at z; cases z) hg (by omega) (fun _ _ e => e) (fun h' u tk k => ⟨.str _, H, I.kept k, ⟨_, rfl⟩, q⟩) h3
  | tup sq al =>
    cases r
    exact repr_of_reads' rd h1 (fun z => by rw [hn] at z; cases z) hg (by omega) (fun _ _ e => e) (fun h' u tk k => ⟨.str _, H, I.kept k, ⟨_, rfl⟩, q⟩) h3
theorem on1_ok {f : W → Option W} {ws : List W} {w : W} (e : on1 f ws = some w) : ∃ a, ws = [a] ∧ f a = some w := by
  unfold on1 at e
  split at e
  · exact ⟨_, rfl, e⟩
  · cases e
theorem on2_ok {f : W → W → Option W} {ws : List W} {w : W} (e : on2 f ws = some w) : ∃ a b, ws = [a, b] ∧ f a b = some w := by
  unfold on2 at e
  split at e
  · exact ⟨_, _, rfl, e⟩
  · cases e
theorem blt_ok (b : Bt) (hc : X.calm = true) (hg : X.A.guards = some []) (hu : X.A.units + 70 < cLine) : CallR X b.val (rBlt X.K b) := by
  intro pins s σ H xs us Q I rx q
  obtain ⟨F, ι, h, ws, w, hr, ra, e, bh⟩ := q
  cases b with
  | len =>
    obtain ⟨a, rfl, e1⟩ := on1_ok e
    clear e
    have e := e1
    clear e1
    obtain ⟨x, rfl, rn⟩ := ra.one
    cases z : lenW a with
    | none => rw [z] at e; cases e
    | some n =>
      rw [z] at e
      cases e
      exact call_len pins s σ H _ us Q I rx ⟨x, n, rfl, lenV_of hr.sub rn z, bh.now hr (.int _)⟩
  | abs =>
    obtain ⟨a, rfl, e1⟩ := on1_ok e
    clear e
    have e := e1
    clear e1
    obtain ⟨x, rfl, rn⟩ := ra.one
    unfold absW at e
    split at e
    · cases e
      cases rn.int
      exact call_abs pins s σ H _ us Q I rx ⟨_, rfl, bh.now hr (.int _)⟩
    · cases e
  | max =>
    obtain ⟨a, c, rfl, e1⟩ := on2_ok e
    clear e
    have e := e1
    clear e1
    obtain ⟨x, y, rfl, rn, rm⟩ := ra.two
    obtain ⟨i, j, rfl, rfl, e⟩ := intsW_ok e
    cases e
    cases rn.int; cases rm.int
    exact call_max2 hc pins s σ H _ us Q I rx ⟨_, _, rfl, bh.now hr (.int _)⟩
  | min =>
    obtain ⟨a, c, rfl, e1⟩ := on2_ok e
    clear e
    have e := e1
    clear e1
    obtain ⟨x, y, rfl, rn, rm⟩ := ra.two
    obtain ⟨i, j, rfl, rfl, e⟩ := intsW_ok e
    cases e
    cases rn.int; cases rm.int
    exact call_min2 hc pins s σ H _ us Q I rx ⟨_, _, rfl, bh.now hr (.int _)⟩
  | int =>
    obtain ⟨a, rfl, e1⟩ := on1_ok e
    clear e
    have e := e1
    clear e1
    obtain ⟨x, rfl, rn⟩ := ra.one
    unfold intW at e
    split at e
    · cases e
      cases rn.int
      exact call_int1 pins s σ H _ us Q I rx (.inl ⟨_, rfl, bh.now hr (.int _)⟩)
    · cases e
      have r2 := rn.rv (fun _ z => by cases z)
      cases r2
      exact call_int1 pins s σ H _ us Q I rx (.inr ⟨_, rfl, bh.now hr (.int _)⟩)
    · cases e
  | divmod =>
    obtain ⟨a, c, rfl, e1⟩ := on2_ok e
    clear e
    have e := e1
    clear e1
    obtain ⟨x, y, rfl, rn, rm⟩ := ra.two
    obtain ⟨i, j, rfl, rfl, e⟩ := intsW_ok e
    obtain ⟨z, rfl⟩ := ifB_ok e
    obtain ⟨z1, z2⟩ := and_ok z
    cases rn.int; cases rm.int
    exact call_divmod pins s σ H _ us Q I rx ⟨_, _, rfl, ⟨of_decide_eq_true z1, of_decide_eq_true z2⟩, fun p hp => bh.tup hr (.cons (.int _) (.cons (.int _) .nil)) hp⟩
  | repr =>
    obtain ⟨a, rfl, e1⟩ := on1_ok e
    clear e
    have e := e1
    clear e1
    obtain ⟨x, rfl, rn⟩ := ra.one
    cases z : reprW a with
    | none => rw [z] at e; cases e
    | some t =>
      rw [z] at e
      cases e
      unfold reprW at z
      cases z1 : a.dat with
      | none => rw [z1] at z; cases z
      | some d =>
        rw [z1] at z
        dsimp only at z
        split at z
        · rename_i z2
          cases z
          obtain ⟨z3, z4⟩ := and_ok z2
          obtain ⟨z4, z5⟩ := and_ok z4
          cases rx with
          | cons r1 r2 =>
            cases r2
            exact repr_ok I r1 (rn.dat hr.sub z1) z3 (of_decide_eq_true z4) (lineN_ok z5) (dat_nodict z1) hg hu (bh.now hr (.str _))
        · cases z
  | all =>
    obtain ⟨a, rfl, e1⟩ := on1_ok e
    clear e
    have e := e1
    clear e1
    obtain ⟨x, rfl, rn⟩ := ra.one
    unfold allW at e
    split at e
    · rename_i ws'
      cases z : bools ws' with
      | none => rw [z] at e; cases e
      | some bs =>
        rw [z] at e
        cases e
        obtain ⟨p, vs, rfl, e2, rv⟩ := rn.lst hr.sub
        rw [rv.bls z] at e2
        exact cr_all hc pins s σ H _ us Q I rx ⟨p, bs, rfl, .inl (.inl e2), bh.now hr (.bl _)⟩
    · cases e
  | list =>
    obtain ⟨a, rfl, e1⟩ := on1_ok e
    clear e
    have e := e1
    clear e1
    obtain ⟨x, rfl, rn⟩ := ra.one
    have go : ∀ {ws : List W}, a.items = some ws → w = .lst ws → wpAny (model X.prog X.w) X.A (call (.type "list") us) (EP X pins σ Q) X.xe s := fun {ws} hi ew => by
      obtain ⟨p, vs, rfl, sq, rv⟩ := rn.items hr.sub hi
      subst ew
      exact call_list_of pins s σ H _ us Q I rx ⟨p, vs, rfl, sq, fun l hl => bh.lst hr rv hl⟩
    unfold listW at e
    split at e
    · cases e; exact go rfl rfl
    · cases e; exact go rfl rfl
    · cases e
  | tuple =>
    obtain ⟨a, rfl, e1⟩ := on1_ok e
    clear e
    have e := e1
    clear e1
    obtain ⟨x, rfl, rn⟩ := ra.one
    unfold tupleW at e
    split at e
    · cases e
      obtain ⟨p, vs, rfl, e2, rv⟩ := rn.lst hr.sub
      exact call_tuple_of pins s σ H _ us Q I rx ⟨p, vs, rfl, .inl ⟨.inl (.inl e2), fun l hl => bh.tup hr rv hl⟩⟩
    · cases e
      have r2 := rn.rv (fun _ z => by cases z)
      cases r2 with
      | tup sq rv => exact call_tuple_of pins s σ H _ us Q I rx ⟨_, _, rfl, .inr ⟨sqT_mono hr.sub sq, bh.now hr (.tup sq rv)⟩⟩
    · cases e
end
/-! ## classes of values -/
theorem kit_is : ∀ a b : Ty, kitB a.s b.s = some (isTy a b) := by
  intro a b
  cases a <;> cases b <;> decide +kernel
theorem tyX_of {K : PySem.W.Frag} {F : Hp} {ι : List Addr} {H : Hp} {h : Obs} {w : W} {v : V} {t : Ty} (hr : HR K F ι h H) (r : RV K F ι w v) (e : tyW h w = some t) : TyX K H v (.type t.s) := by
  cases r with
  | non => cases e; exact .base .non
  | bl b => cases e; exact .base (.bl b)
  | int i => cases e; exact .base (.int i)
  | str s => cases e; exact .base (.str s)
  | ty n => cases e
  | tup sq rv =>
    cases e
    rcases sqT_mono hr.sub sq with (q | ⟨o, q⟩) | ⟨o, its, n, q, c, _⟩
    · exact .base (.tup q)
    · exact .fTuple q
    · exact .kTuple q c
  | lst q rv =>
    cases e
    exact .base (.lst (hr.sub _ _ q))
  | emp q =>
    cases e
    exact .base (.dK (hr.sub _ _ q))
  | scr sq =>
    cases e
    rcases sqL_mono hr.sub sq with (q | ⟨o, q⟩) | ⟨o, its, n, q, c, _⟩
    · exact .base (.lst q)
    · exact .base (.frz q)
    · exact .kList q c
  | @ref n a q =>
    have e : (match h[n]? with
      | some (.lst _) => some Ty.lst
      | some (.dic _) => some Ty.dct
      | none => none) = some t := e
    cases z : h[n]? with
    | none => rw [z] at e; cases e
    | some b =>
      rw [z] at e
      cases b with
      | lst us =>
        cases e
        obtain ⟨_, vs, e2, _⟩ := hr.ob _ a _ q z
        exact .base (.lst e2)
      | dic us =>
        cases e
        obtain ⟨_, vs, e2, _⟩ := hr.ob _ a _ q z
        exact .base (.dK e2)
end Ev

namespace Ev
open PySem PySem.Spec PyProof.Rows L2

/-! ## what an expression's rule is asked -/
structure Bx where
  K : PySem.W.Frag
  mg : Str → Option Value
  e0 : Ent
  W : WX
/-- an exception as it flies: its class, its own dict -/
def RX (K : PySem.W.Frag) (mg : Str → Option Value) (F : Hp) (ι : List Addr) (x : Ex) (cls : Value) (d : Option Addr) : Prop :=
  ∃ C, mg x.cls = some (.ref C) ∧ cls = .ref C ∧ match d with
    | none => x.fs = []
    | some dd => ∃ fs, F dd = some (.xd fs) ∧ x.fs ≠ [] ∧ ∀ f w, x.fs.lookup f = some w → ∃ v, fs.lookup f = some v ∧ RV K F ι w v
abbrev Bx.J (b : Bx) := Ev.J b.K b.e0
/-- an answer's wish -/
def Po {α β : Type} (b : Bx) (F : Hp) (ι : List Addr) (sl : Sls) (σ : VS) (rel : Hp → List Addr → α → β → Prop) (r : R α) (Q : β → Hp → Prop) : Prop := match r with
  | .ok a h' => ∀ F' ι' H' v, Le F ι F' ι' → b.J F' ι' sl h' σ H' → rel F' ι' a v → Q v H'
  | .exc x h' => ∀ F' ι' H' cls d, Le F ι F' ι' → b.J F' ι' sl h' σ H' → RX b.K b.mg F' ι' x cls d → b.W cls d σ H'
  | .bad => False
section
variable {α β γ δ : Type} {b : Bx} {F F' F1 : Hp} {ι ι' ι1 : List Addr} {sl : Sls} {σ : VS}
theorem Po.le {rel : Hp → List Addr → α → β → Prop} {r : R α} {Q : β → Hp → Prop} (p : Po b F ι sl σ rel r Q) (l : Le F ι F1 ι1) : Po b F1 ι1 sl σ rel r Q := by
  cases r with
  | ok a h => exact fun F' ι' H' v l2 j q => p F' ι' H' v (l.trans l2) j q
  | exc x h => exact fun F' ι' H' cls d l2 j q => p F' ι' H' cls d (l.trans l2) j q
  | bad => exact p
/-- one behind another -/
theorem Po.bind {rel : Hp → List Addr → α → β → Prop} {rel2 : Hp → List Addr → γ → δ → Prop} {r : R α} {f : α → Obs → R γ} {Q : δ → Hp → Prop} {Q1 : β → Hp → Prop} (p : Po b F ι sl σ rel2 (r.bind f) Q)
    (k : ∀ a h1 F1 ι1 H1 v, Le F ι F1 ι1 → b.J F1 ι1 sl h1 σ H1 → rel F1 ι1 a v → Po b F1 ι1 sl σ rel2 (f a h1) Q → Q1 v H1) : Po b F ι sl σ rel r Q1 := by
  cases r with
  | ok a h => exact fun F1 ι1 H1 v l j q => k a h F1 ι1 H1 v l j q (Po.le (show Po b F ι sl σ rel2 (f a h) Q from p) l)
  | exc x h => exact p
  | bad => exact p
theorem Po.ret {rel : Hp → List Addr → α → β → Prop} {a : α} {h : Obs} {H : Hp} {v : β} {Q : β → Hp → Prop} (p : Po b F ι sl σ rel (.ok a h) Q) (j : b.J F ι sl h σ H) (r : rel F ι a v) : Q v H := p F ι H v .refl j r
/-- an answer that there is, or none -/
theorem Po.opt {rel : Hp → List Addr → α → β → Prop} {o : Option α} {h : Obs} {Q : β → Hp → Prop} (p : Po b F ι sl σ rel (.opt o h) Q) : ∃ a, o = some a ∧ Po b F ι sl σ rel (.ok a h) Q := by
  cases o with
  | none => exact False.elim p
  | some a => exact ⟨a, rfl, p⟩
theorem Po.imp {rel rel2 : Hp → List Addr → α → β → Prop} {r : R α} {Q : β → Hp → Prop} (p : Po b F ι sl σ rel r Q) (i : ∀ F ι a v, rel2 F ι a v → rel F ι a v) : Po b F ι sl σ rel2 r Q := by
  cases r with
  | ok a h => exact fun F' ι' H' v l j q => p F' ι' H' v l j (i _ _ _ _ q)
  | exc x h => exact p
  | bad => exact p
end
/-- what one asks with: a context, a wish of exceptions, an entry -/
abbrev bx (X : Cx) (W : WX) (e0 : Ent) : Bx := ⟨X.K, X.mg, e0, W⟩
/-- the readings -/
def tE (X : Cx) (V : WX) (k : Bool) (m : Sls → Obs → R W) : TE := fun σ H Q => ∃ e0 F ι sl h, J X.K e0 F ι sl h σ H ∧ Po (bx X V e0) F ι sl σ (RKd X.K sl σ k) (m sl h) Q
def tT (X : Cx) (W : WX) (m : Sls → Obs → R Bool) : TT := fun σ H Q => ∃ e0 F ι sl h, J X.K e0 F ι sl h σ H ∧ Po (bx X W e0) F ι sl σ (fun _ _ a v => a = v) (m sl h) Q
inductive RKs (K : PySem.W.Frag) (sl : Sls) (σ : VS) (k : Bool) (F : Hp) (ι : List Addr) : List W → List V → Prop
  | nil : RKs K sl σ k F ι [] []
  | cons {w : W} {v : V} {ws : List W} {vs : List V} : RKd K sl σ k F ι w v → RKs K sl σ k F ι ws vs → RKs K sl σ k F ι (w :: ws) (v :: vs)
def tA (X : Cx) (V : WX) (k : Bool) (m : Sls → Obs → R (List W)) : TA := fun σ H Q => ∃ e0 F ι sl h, J X.K e0 F ι sl h σ H ∧ Po (bx X V e0) F ι sl σ (RKs X.K sl σ k) (m sl h) Q
def tI (X : Cx) (W : WX) (m : Sls → Obs → R (Option Int)) : TO := fun σ H Q => ∃ e0 F ι sl h, J X.K e0 F ι sl h σ H ∧ Po (bx X W e0) F ι sl σ (fun _ _ a v => a = v) (m sl h) Q
section
variable {K : PySem.W.Frag} {sl : Sls} {σ : VS} {k : Bool} {F F' : Hp} {ι ι' : List Addr}
theorem RKd.mono (l : Le F ι F' ι') {w : W} {v : V} (r : RKd K sl σ k F ι w v) : RKd K sl σ k F' ι' w v := by
  cases k with
  | true => exact ROp.mono l r
  | false => exact RV.mono l r
theorem RKd.op {w : W} {v : V} (r : RKd K sl σ k F ι w v) : ROp K sl σ F ι w v := by
  cases k with
  | true => exact r
  | false => exact .inl r
theorem RKs.rvs : ∀ {ws : List W} {vs : List V}, RKs K sl σ false F ι ws vs → RVs K F ι ws vs
  | _, _, .nil => .nil
  | _, _, .cons r t => .cons r (RKs.rvs t)
theorem RKs.of : ∀ {ws : List W} {vs : List V}, RVs K F ι ws vs → RKs K sl σ false F ι ws vs
  | _, _, .nil => .nil
  | _, _, .cons r t => .cons r (RKs.of t)
theorem RKs.rns {e0 : Ent} {h : Obs} {H : Hp} (j : J K e0 F ι sl h σ H) : ∀ {ws : List W} {vs : List V}, RKs K sl σ k F ι ws vs → RNs K F ι H (ws.map (W.now h)) vs
  | _, _, .nil => .nil
  | _, _, .cons r t => .cons (j.now r.op) (RKs.rns j t)
end
section
variable {X : Cx} {e : Expr} {es : List Expr}
theorem PE.imp {t t' : TE} (h : PE X e t) (i : ∀ σ H Q, t' σ H Q → t σ H Q) : PE X e t' := ⟨fun pins s σ H Q I hw => h.run pins s σ H Q I (i σ H Q hw)⟩
theorem PE.never {t : TE} (n : ∀ σ H Q, ¬ t σ H Q) : PE X e t := ⟨fun pins s σ H Q I hw => absurd hw (n σ H Q)⟩
theorem PT.imp {t t' : TT} (h : PT X e t) (i : ∀ σ H Q, t' σ H Q → t σ H Q) : PT X e t' := ⟨fun pins s σ H Q I hw => h.run pins s σ H Q I (i σ H Q hw)⟩
theorem PT.never {t : TT} (n : ∀ σ H Q, ¬ t σ H Q) : PT X e t := ⟨fun pins s σ H Q I hw => absurd hw (n σ H Q)⟩
theorem PW.imp {t t' : TT} (h : PW X e t) (i : ∀ σ H Q, t' σ H Q → t σ H Q) : PW X e t' := ⟨fun wh pins s σ H Q I hw => h.run wh pins s σ H Q I (i σ H Q hw)⟩
theorem PA.imp {t t' : TA} (h : PA X es t) (i : ∀ σ H Q, t' σ H Q → t σ H Q) : PA X es t' := ⟨fun pos pins s σ H Q I hw => h.run pos pins s σ H Q I (i σ H Q hw)⟩
theorem PO.imp {o : Option Expr} {t t' : TO} (h : PO X o t) (i : ∀ σ H Q, t' σ H Q → t σ H Q) : PO X o t' := ⟨fun pins s σ H Q I hw => h.run pins s σ H Q I (i σ H Q hw)⟩
end

/-! ## what the syntax asks of a scope -/
def visB (sc : Scope) (x : Str) : Bool := match sc.names.lookup x with
  | some .local => true | some .cell => true | some .free => true | _ => false
def glB (sc : Scope) (x : Str) : Bool := match sc.names.lookup x with
  | some .globalImplicit => true | _ => false
def nmB (x : Str) : Bool := !(x == ("__debug__" : Str)) && !(x == ("__classdict__" : Str))
def slotB (N : List Str) (sc : Scope) (x : Str) (i : Nat) : Bool := decide (N[i]? = some x) && (visB sc x && nmB x)
def locB (sc : Scope) (x : Str) : Bool := match sc.names.lookup x with
  | some .local => true | _ => false
theorem visB_ok {sc : Scope} {x : Str} (h : visB sc x = true) : Vis sc x := by
  unfold visB at h
  split at h
  · exact .inl (by assumption)
  · exact .inr (.inl (by assumption))
  · exact .inr (.inr (by assumption))
  · cases h
theorem locB_ok {sc : Scope} {x : Str} (h : locB sc x = true) : sc.names.lookup x = some .local := by
  unfold locB at h
  split at h
  · assumption
  · cases h
theorem glB_ok {sc : Scope} {x : Str} (h : glB sc x = true) : sc.names.lookup x = some .globalImplicit := by
  unfold glB at h
  split at h
  · assumption
  · cases h
theorem nmB_ok {x : Str} (h : nmB x = true) : (x == ("__debug__" : Str)) = false ∧ (x == ("__classdict__" : Str)) = false := by
  obtain ⟨a, b⟩ := and_ok h
  exact ⟨by simpa using a, by simpa using b⟩
/-- an expression whose truth is asked of its value -/
def E.plainT : E → Bool
  | .not .. => false | .notV .. => false | .bop .. => false | .cmp .. => false | .chain .. => false | .ife .. => false | .tr .. => false | .din .. => false
  | _ => true
def Es.isNil : Es → Bool
  | .nil => true
  | _ => false
def Ks.isNil : Ks → Bool
  | .nil => true
  | _ => false
def Ty.isB : Ty → Bool
  | .non => false
  | _ => true
/-- a target of an unpacked pair, where the iterator asks for one -/
def tgIt : Tg → It → Bool
  | .tup .., _ => true
  | _, .seq _ => true
  | _, .rng .. => true
  | _, _ => false
structure Oc where
  N : List Str
  fs : Nat → Option Str
  /-- calls with keywords: the def, how many come without, the names -/
  kws : List (Nat × Nat × List Str) := []
def Es.len : Es → Nat
  | .nil => 0
  | .cons _ es => es.len + 1
def Ks.names : Ks → List Str
  | .nil => []
  | .cons x _ _ ks => x :: ks.names
mutual
def E.okE (c : Oc) (sc : Scope) : E → Bool
  | .name x i _ => slotB c.N sc x i
  | .peek x i _ => slotB c.N sc x i
  | .cst x _ => glB sc x && nmB x
  | .tr e => e.plainT && e.okE c sc
  | .int .. => true | .str .. => true | .bl .. => true | .non .. => true | .emp .. => true
  | .tup es _ _ => es.okE c sc
  | .lst es _ => es.okE c sc
  | .lstH es _ => es.okE c sc
  | .bin _ a b _ => a.okE c sc && b.okE c sc
  | .neg a _ => a.okE c sc
  | .not a _ => a.okE c sc
  | .notV a _ => a.okE c sc
  | .bop _ es _ => es.okE c sc
  | .cmp _ a b _ => a.okE c sc && b.okE c sc
  | .chain _ _ a b d _ => a.okE c sc && (b.okE c sc && d.okE c sc)
  | .ife t a b _ => t.okE c sc && (a.okE c sc && b.okE c sc)
  | .call f x _ es _ => decide (c.fs f = some x) && (glB sc x && (nmB x && es.okE c sc))
  | .callK f x _ es ks _ => decide (c.fs f = some x) && (glB sc x && (nmB x && (decide ((f, es.len, ks.names) ∈ c.kws) && (es.okE c sc && ks.okE c sc))))
  | .blt b _ es _ => glB sc b.nm && (!es.isNil && es.okE c sc)
  | .isi a t _ _ _ => glB sc "isinstance" && (glB sc t.nm && (t.isB && a.okE c sc))
  | .isiT a t _ u _ _ _ _ _ => glB sc "isinstance" && (glB sc t.nm && (t.isB && (glB sc u.nm && (u.isB && a.okE c sc))))
  | .sub a i _ => a.okE c sc && i.okE c sc
  | .slc a lo hi _ _ => a.okE c sc && (lo.okE c sc && hi.okE c sc)
  | .lc e tg it t vs cs _ => blkC c.N sc cs vs && (tgIt tg it && (it.okE c sc && (tg.okC c (relS cs sc) (vs.map (·.2)) && (e.okE c (relS cs sc) && t.okE c (relS cs sc)))))
  | .dget x _ i _ => glB sc x && (nmB x && i.okE c sc)
  | .din _ a x _ _ => glB sc x && (nmB x && a.okE c sc)
  | .dicH ks es _ => decide (ks.length = es.len) && (decide (1 ≤ ks.length) && (decide (ks.length ≤ 15) && es.okE c sc))
def Es.okE (c : Oc) (sc : Scope) : Es → Bool
  | .nil => true
  | .cons e es => e.okE c sc && es.okE c sc
def Eo.okE (c : Oc) (sc : Scope) : Eo → Bool
  | .non => true
  | .some e => e.okE c sc
def Ks.okE (c : Oc) (sc : Scope) : Ks → Bool
  | .nil => true
  | .cons _ e _ ks => e.okE c sc && ks.okE c sc
/-- a comprehension's target: names of the block alone -/
def Tg.okC (c : Oc) (sc : Scope) (vs : List Nat) : Tg → Bool
  | .name x i _ => decide (c.N[i]? = some x) && (locB sc x && decide (i ∈ vs))
  | .tup ts _ _ => ts.okC c sc vs
  | .sub .. => false
def Tgs.okC (c : Oc) (sc : Scope) (vs : List Nat) : Tgs → Bool
  | .nil => true
  | .cons t ts => t.okC c sc vs && ts.okC c sc vs
def It.okE (c : Oc) (sc : Scope) : It → Bool
  | .seq e => e.okE c sc
  | .rng _ es _ => glB sc "range" && es.okE c sc
  | .enum _ e _ => glB sc "enumerate" && e.okE c sc
  | .zip _ a b _ => glB sc "zip" && (a.okE c sc && b.okE c sc)
end

/-! ## the syntax has none of the odd forms -/
section
variable {env : Env}
theorem star_un : ∀ (c : E) (es : List Expr), starEach (c.un :: es) env = (false, PySem.eval c.un env) :: starEach es env
  | .tr e, es => star_un e es
  | .name .., _ | .peek .., _ | .cst .., _ | .int .., _ | .str .., _ | .bl .., _ | .non .., _ | .tup .., _ | .lst .., _ | .lstH .., _ | .emp .., _ | .bin .., _ | .neg .., _ | .not .., _ | .notV .., _ | .bop .., _ | .cmp .., _ | .chain .., _ | .ife .., _ | .call .., _ | .callK .., _ | .blt .., _ | .isi .., _ | .isiT .., _ | .sub .., _ | .slc .., _ | .lc .., _ | .dget .., _ | .din .., _ | .dicH .., _ => rfl
theorem marks_un (op : CmpOp) : ∀ (c : E), behindInMarks op c.un = false
  | .tr e => marks_un op e
  | .name .. | .peek .. | .cst .. | .int .. | .str .. | .bl .. | .non .. | .tup .. | .lst .. | .lstH .. | .emp .. | .bin .. | .neg .. | .not .. | .notV .. | .bop .. | .cmp .. | .chain .. | .ife .. | .call .. | .callK .. | .blt .. | .isi .. | .isiT .. | .sub .. | .slc .. | .lc .. | .dget .. | .din .. | .dicH .. => rfl
theorem plainIx_un : ∀ (c : E) (o i : Value), subscripted c.un false o i = operate [o, i] (getItem o i)
  | .tr e, o, i => plainIx_un e o i
  | .name .., _, _ | .peek .., _, _ | .cst .., _, _ | .int .., _, _ | .str .., _, _ | .bl .., _, _ | .non .., _, _ | .tup .., _, _ | .lst .., _, _ | .lstH .., _, _ | .emp .., _, _ | .bin .., _, _ | .neg .., _, _ | .not .., _, _ | .notV .., _, _ | .bop .., _, _ | .cmp .., _, _ | .chain .., _, _ | .ife .., _, _ | .call .., _, _ | .callK .., _, _ | .blt .., _, _ | .isi .., _, _ | .isiT .., _, _ | .sub .., _, _ | .slc .., _, _ | .lc .., _, _ | .dget .., _, _ | .din .., _, _ | .dicH .., _, _ => rfl
theorem isTrue_un : ∀ (c : E), c.plainT = true → ∀ whole, isTrue c.un env whole = (do let v ← whole; standAt c.un.pos; holding [v] (truthy v))
  | .tr e, h, _ => by cases h
  | .din .., h, _ | .not .., h, _ | .notV .., h, _ | .bop .., h, _ | .cmp .., h, _ | .chain .., h, _ | .ife .., h, _ => by cases h
  | .name .., _, _ | .peek .., _, _ | .cst .., _, _ | .int .., _, _ | .str .., _, _ | .bl .., _, _ | .non .., _, _ | .tup .., _, _ | .lst .., _, _ | .lstH .., _, _ | .emp .., _, _ | .bin .., _, _ | .neg .., _, _ | .call .., _, _ | .callK .., _, _ | .blt .., _, _ | .isi .., _, _ | .isiT .., _, _ | .sub .., _, _ | .slc .., _, _ | .lc .., _, _ | .dget .., _, _ | .dicH .., _, _ => rfl
theorem folded_un : ∀ (c : E) (x : Value), foldedSetIterable c.un env x = pure x
  | .tr e, x => folded_un e x
  | .name .., _ | .peek .., _ | .cst .., _ | .int .., _ | .str .., _ | .bl .., _ | .non .., _ | .tup .., _ | .lst .., _ | .lstH .., _ | .emp .., _ | .bin .., _ | .neg .., _ | .not .., _ | .notV .., _ | .bop .., _ | .cmp .., _ | .chain .., _ | .ife .., _ | .call .., _ | .callK .., _ | .blt .., _ | .isi .., _ | .isiT .., _ | .sub .., _ | .slc .., _ | .lc .., _ | .dget .., _ | .din .., _ | .dicH .., _ => rfl
theorem foldedI_un (t : It) (x : Value) : foldedSetIterable t.un env x = pure x := by
  cases t with
  | seq e => exact folded_un e x
  | rng _ _ _ => rfl
  | enum _ _ _ => rfl
  | zip _ _ _ _ => rfl
theorem plain_un (pos : Pos) : ∀ (es : Es), (backTo pos (starEach es.un env)).any (·.1) = false
  | .nil => rfl
  | .cons e es => by
    show (backTo pos (starEach (e.un :: es.un) env)).any (·.1) = false
    rw [star_un e es.un]
    have ih := plain_un pos es
    unfold backTo at ih ⊢
    rw [List.map_cons, List.any_cons, ih]
    rfl
end
end Ev

namespace Ev
open PySem PySem.Spec PyProof.Rows L2

/-! ## slots set and forgotten, things held -/
/-- p stands alone: a new list that nobody has yet -/
structure Nw (e0 : Ent) (F : Hp) (ι : List Addr) (sl : Sls) (σ : VS) (H : Hp) (p : Addr) (vs : List V) : Prop where
  at_ : H p = some (.lst vs)
  f : F p = none
  i : p ∉ ι
  o : e0.H p = none
  hd : e0.hold p = none
  sl : ∀ (i : Nat) (ws : List W), sl[i]? = some (.own ws) → σ[i]? ≠ some (some (.ref p))
section
variable {K : PySem.W.Frag} {e0 : Ent} {F F' : Hp} {ι ι' : List Addr} {sl : Sls} {h h' : Obs} {σ : VS} {H H' : Hp}
theorem HR.notin (r : HR K F ι h H) {p : Addr} (hp : H p = none) : F p = none ∧ p ∉ ι := by
  refine ⟨?_, fun hm => ?_⟩
  · cases q : F p with
    | none => rfl
    | some o =>
      have z := r.sub _ _ q
      rw [hp] at z; cases z
  · obtain ⟨n, hn, e⟩ := List.mem_iff_getElem.mp hm
    have e1 : ι[n]? = some p := by rw [List.getElem?_eq_getElem hn, e]
    have hl : n < h.length := by rw [← r.len]; exact hn
    obtain ⟨_, q⟩ := r.ob n p _ e1 (List.getElem?_eq_getElem hl)
    exact q.some hp
theorem J.none0 (j : J K e0 F ι sl h σ H) {p : Addr} (hp : H p = none) : e0.H p = none ∧ e0.hold p = none ∧ ∀ (i : Nat) (ws : List W), sl[i]? = some (.own ws) → σ[i]? ≠ some (some (.ref p)) := by
  refine ⟨?_, ?_, fun i ws e z => ?_⟩
  · cases q : e0.H p with
    | none => rfl
    | some o => exact absurd hp (j.xt.d p (by rw [q]; simp))
  · cases q : e0.hold p with
    | none => rfl
    | some o =>
      have z := (j.hd p o q).1
      rw [hp] at z; cases z
  · obtain ⟨p', vs, e1, e2, _⟩ := j.at_ i _ e
    rw [z] at e1
    cases e1
    rw [hp] at e2; cases e2
/-- a list just laid is new -/
theorem J.nw (j : J K e0 F ι sl h σ H) {p : Addr} {vs : List V} (hp : H p = none) : Nw e0 F ι sl σ (upd H p (.lst vs)) p vs :=
  ⟨upd_same, (j.hr.notin hp).1, (j.hr.notin hp).2, (j.none0 hp).1, (j.none0 hp).2.1, (j.none0 hp).2.2⟩
/-- .. is given away, never to change again -/
theorem J.frz {p : Addr} {vs : List V} (j : J K e0 F ι sl h σ H) (n : Nw e0 F ι sl σ H p vs) : J K e0 (upd F p (.lst vs)) ι sl h σ H ∧ Le F ι (upd F p (.lst vs)) ι := by
  have fne : ∀ a o, F a = some o → a ≠ p := fun a o e z => by rw [z, n.f] at e; cases e
  have le : Le F ι (upd F p (.lst vs)) ι := ⟨fun a o e => by rw [upd_ne (fne a o e)]; exact e, [], by simp⟩
  refine ⟨⟨⟨fun a o e => ?_, j.hr.len, j.hr.nd, fun m a o e1 e2 => ?_⟩, ⟨j.xt.le.trans le, j.xt.h, fun a e => ?_, j.xt.m, j.xt.d⟩, j.len, fun i s e => ?_, j.ap, fun a o e => ?_⟩, le⟩
  · by_cases hn : a = p
    · rw [hn, upd_same] at e; rw [hn, n.at_]; exact e
    · rw [upd_ne hn] at e; exact j.hr.sub a o e
  · obtain ⟨fn, q⟩ := j.hr.ob m a o e1 e2
    have hn : a ≠ p := fun z => n.i (z ▸ List.mem_of_getElem? e1)
    rw [upd_ne hn]
    exact ⟨fn, q.mono le⟩
  · by_cases hn : a = p
    · rw [hn]; exact .inr n.o
    · rw [upd_ne hn] at e; exact j.xt.n a e
  · have q := j.at_ i s e
    cases s with
    | non => trivial
    | val w =>
      obtain ⟨v, e1, rv⟩ := q
      exact ⟨v, e1, rv.mono le⟩
    | own ws =>
      obtain ⟨p', us, e1, e2, rv, fn, ni, n0⟩ := q
      have hn : p' ≠ p := fun z => n.sl i ws e (z ▸ e1)
      exact ⟨p', us, e1, e2, rv.mono le, by rw [upd_ne hn]; exact fn, ni, n0⟩
  · obtain ⟨e1, e2, e3, e4⟩ := j.hd a o e
    have hn : a ≠ p := fun z => by rw [z, n.hd] at e; cases e
    exact ⟨e1, by rw [upd_ne hn]; exact e2, e3, e4⟩
/-- a name is given a value -/
theorem J.setV {i : Nat} {w : W} {v : V} (j : J K e0 F ι sl h σ H) (r : RV K F ι w v) : J K e0 F ι (sl.set i (.val w)) h (σ.set i (some v)) H where
  hr := j.hr
  xt := j.xt
  len := by rw [List.length_set, List.length_set, j.len]
  at_ := fun k s e => by
    by_cases hk : i = k
    · subst hk
      by_cases hl : i < sl.length
      · rw [List.getElem?_set_self hl] at e
        cases e
        exact ⟨v, by rw [List.getElem?_set_self (by rw [← j.len]; exact hl)], r⟩
      · rw [List.getElem?_eq_none (by simpa using hl)] at e; cases e
    · rw [List.getElem?_set_ne hk] at e ⊢
      exact j.at_ k s e
  ap := fun k l ws us p e1 e2 e3 e4 => by
    have nk : ∀ (k : Nat) (ws : List W), (sl.set i (.val w))[k]? = some (.own ws) → i ≠ k := fun k ws e z => by
      subst z
      by_cases hl : i < sl.length
      · rw [List.getElem?_set_self hl] at e; cases e
      · rw [List.getElem?_eq_none (by simpa using hl)] at e; cases e
    have n1 := nk k ws e1
    have n2 := nk l us e2
    rw [List.getElem?_set_ne n1] at e1 e3
    rw [List.getElem?_set_ne n2] at e2 e4
    exact j.ap k l ws us p e1 e2 e3 e4
  hd := fun a o e => by
    obtain ⟨e1, e2, e3, e4⟩ := j.hd a o e
    refine ⟨e1, e2, e3, fun k ws q => ?_⟩
    have hk : i ≠ k := fun z => by
      subst z
      by_cases hl : i < sl.length
      · rw [List.getElem?_set_self hl] at q; cases q
      · rw [List.getElem?_eq_none (by simpa using hl)] at q; cases q
    rw [List.getElem?_set_ne hk] at q ⊢
    exact e4 k ws q
/-- slots are forgotten -/
theorem J.wk {sl' : Sls} {σ' : VS} (j : J K e0 F ι sl h σ H) (hl : sl'.length = σ'.length) (w : ∀ (i : Nat) (s : Sl), sl'[i]? = some s → s = .non ∨ (sl[i]? = some s ∧ σ'[i]? = σ[i]?)) : J K e0 F ι sl' h σ' H where
  hr := j.hr
  xt := j.xt
  len := hl
  at_ := fun i s e => by
    rcases w i s e with rfl | ⟨e1, e2⟩
    · trivial
    · rw [e2]; exact j.at_ i s e1
  ap := fun k l ws us p e1 e2 e3 e4 => by
    rcases w k _ e1 with z | ⟨a1, a2⟩
    · cases z
    rcases w l _ e2 with z | ⟨b1, b2⟩
    · cases z
    exact j.ap k l ws us p a1 b1 (a2 ▸ e3) (b2 ▸ e4)
  hd := fun a o e => by
    obtain ⟨e1, e2, e3, e4⟩ := j.hd a o e
    refine ⟨e1, e2, e3, fun k ws q => ?_⟩
    rcases w k _ q with z | ⟨a1, a2⟩
    · cases z
    rw [a2]
    exact e4 k ws a1
theorem wipeS_length (σ : Sls) : ∀ vs : List Nat, (wipeS σ vs).length = σ.length
  | [] => rfl
  | v :: vs => by
    show ((wipeS σ vs).set v .non).length = _
    rw [List.length_set, wipeS_length σ vs]
theorem wipeS_get {σ : Sls} {i : Nat} {s : Sl} : ∀ {vs : List Nat}, (wipeS σ vs)[i]? = some s → s = .non ∨ (σ[i]? = some s ∧ i ∉ vs)
  | [], h => .inr ⟨h, by simp⟩
  | v :: vs, h => by
    have h : ((wipeS σ vs).set v .non)[i]? = some s := h
    by_cases hi : v = i
    · subst hi
      by_cases hv : v < (wipeS σ vs).length
      · rw [List.getElem?_set_self hv] at h; cases h; exact .inl rfl
      · rw [List.getElem?_eq_none (by simpa using hv)] at h; cases h
    · rw [List.getElem?_set_ne hi] at h
      rcases wipeS_get h with z | ⟨h1, h2⟩
      · exact .inl z
      · exact .inr ⟨h1, by simp only [List.mem_cons, not_or]; exact ⟨fun e => hi e.symm, h2⟩⟩
theorem wipeS_out {σ : Sls} {i : Nat} : ∀ {vs : List Nat}, i ∉ vs → (wipeS σ vs)[i]? = σ[i]?
  | [], _ => rfl
  | v :: vs, h => by
    simp only [List.mem_cons, not_or] at h
    show ((wipeS σ vs).set v .non)[i]? = _
    rw [List.getElem?_set_ne (fun e => h.1 e.symm), wipeS_out h.2]
theorem J.wipe (vs : List Nat) (j : J K e0 F ι sl h σ H) : J K e0 F ι (wipeS sl vs) h (L2.wipe σ vs) H := j.wk (by rw [wipeS_length, wipe_length, j.len]) fun i s e => by
  rcases wipeS_get e with z | ⟨h1, h2⟩
  · exact .inl z
  · exact .inr ⟨h1, wipe_out h2⟩
theorem noOwn_ok {sl : Sls} : ∀ {vs : List Nat}, noOwn sl vs = true → ∀ i ∈ vs, ∀ ws, sl[i]? ≠ some (.own ws)
  | [], _, i, hi, _ => by cases hi
  | v :: vs, h, i, hi, ws => by
    unfold noOwn at h
    split at h
    · cases h
    · rename_i hn
      rcases List.mem_cons.mp hi with rfl | hi
      · exact hn ws
      · exact noOwn_ok h i hi ws
/-- behind a block: its names' old values again -/
theorem J.unwipe {vs : List Nat} (j0 : J K e0 F ι sl h σ H) (no : noOwn sl vs = true) (l : Le F ι F' ι') (j : J K e0 F' ι' (wipeS sl vs) h' (L2.wipe σ vs) H') : J K e0 F' ι' sl h' σ H' where
  hr := j.hr
  xt := j.xt
  len := j0.len
  at_ := fun i s e => by
    by_cases hi : i ∈ vs
    · cases s with
      | non => trivial
      | val w =>
        obtain ⟨v, e1, rv⟩ := j0.at_ i _ e
        exact ⟨v, e1, rv.mono l⟩
      | own ws => exact absurd e (noOwn_ok no i hi ws)
    · have q := j.at_ i s (by rw [wipeS_out hi]; exact e)
      rw [wipe_out hi] at q
      exact q
  ap := j0.ap
  hd := fun a o e => by
    obtain ⟨e1, e2, e3, _⟩ := j.hd a o e
    exact ⟨e1, e2, e3, (j0.hd a o e).2.2.2⟩
theorem set_back {α : Type} (v : Nat) (x : α) : ∀ (s t : List α) , s.length = t.length → (∀ i, i ≠ v → s[i]? = t[i]?) → s.set v x = t.set v x := by
  intro s t hl h
  refine List.ext_getElem? fun i => ?_
  by_cases hi : v = i
  · subst hi
    by_cases hv : v < s.length
    · rw [List.getElem?_set_self hv, List.getElem?_set_self (hl ▸ hv)]
    · rw [List.getElem?_eq_none (by simpa using hv), List.getElem?_eq_none (by simpa [← hl] using hv)]
  · rw [List.getElem?_set_ne hi, List.getElem?_set_ne hi]
    exact h i (fun e => hi e.symm)
theorem wipeS_set {sl : Sls} {i : Nat} {s : Sl} : ∀ {vs : List Nat}, i ∈ vs → wipeS (sl.set i s) vs = wipeS sl vs
  | [], h => by cases h
  | v :: vs, h => by
    show (wipeS (sl.set i s) vs).set v .non = (wipeS sl vs).set v .non
    by_cases hm : i ∈ vs
    · rw [wipeS_set hm]
    · have e : i = v := (List.mem_cons.mp h).resolve_right hm
      subst e
      refine set_back i _ _ _ (by rw [wipeS_length, wipeS_length, List.length_set]) fun k hk => ?_
      by_cases hkv : k ∈ vs
      · have go : ∀ {us : List Nat}, k ∈ us → (wipeS (sl.set i s) us)[k]? = (wipeS sl us)[k]? := fun {us} => by
          induction us with
          | nil => intro z; cases z
          | cons u us ih =>
            intro z
            show ((wipeS (sl.set i s) us).set u .non)[k]? = ((wipeS sl us).set u .non)[k]?
            by_cases hu : u = k
            · subst hu
              by_cases hl : u < sl.length
              · rw [List.getElem?_set_self (by rw [wipeS_length, List.length_set]; exact hl), List.getElem?_set_self (by rw [wipeS_length]; exact hl)]
              · rw [List.getElem?_eq_none (by simpa [wipeS_length] using hl), List.getElem?_eq_none (by simpa [wipeS_length] using hl)]
            · rw [List.getElem?_set_ne hu, List.getElem?_set_ne hu]
              exact ih ((List.mem_cons.mp z).resolve_left fun e => hu e.symm)
        exact go hkv
      · rw [wipeS_out hkv, wipeS_out hkv, List.getElem?_set_ne (fun e => hk e.symm)]
theorem wipe_set {σ : VS} {i : Nat} {s : Option V} : ∀ {vs : List Nat}, i ∈ vs → wipe (σ.set i s) vs = wipe σ vs
  | [], h => by cases h
  | v :: vs, h => by
    show (wipe (σ.set i s) vs).set v none = (wipe σ vs).set v none
    by_cases hm : i ∈ vs
    · rw [wipe_set hm]
    · have e : i = v := (List.mem_cons.mp h).resolve_right hm
      subst e
      refine set_back i _ _ _ (by rw [wipe_length, wipe_length, List.length_set]) fun k hk => ?_
      by_cases hkv : k ∈ vs
      · have go : ∀ {us : List Nat}, k ∈ us → (wipe (σ.set i s) us)[k]? = (wipe σ us)[k]? := fun {us} => by
          induction us with
          | nil => intro z; cases z
          | cons u us ih =>
            intro z
            show ((wipe (σ.set i s) us).set u none)[k]? = ((wipe σ us).set u none)[k]?
            by_cases hu : u = k
            · subst hu
              by_cases hl : u < σ.length
              · rw [List.getElem?_set_self (by rw [wipe_length, List.length_set]; exact hl), List.getElem?_set_self (by rw [wipe_length]; exact hl)]
              · rw [List.getElem?_eq_none (by simpa [wipe_length] using hl), List.getElem?_eq_none (by simpa [wipe_length] using hl)]
            · rw [List.getElem?_set_ne hu, List.getElem?_set_ne hu]
              exact ih ((List.mem_cons.mp z).resolve_left fun e => hu e.symm)
        exact go hkv
      · rw [wipe_out hkv, wipe_out hkv, List.getElem?_set_ne (fun e => hk e.symm)]
theorem wipe_wipe (σ : VS) (vs : List Nat) : wipe (wipe σ vs) vs = wipe σ vs := by
  have go : ∀ us : List Nat, (∀ u ∈ us, u ∈ vs) → wipe (wipe σ us) vs = wipe σ vs := by
    intro us
    induction us with
    | nil => intro _; rfl
    | cons u us ih =>
      intro hu
      show wipe ((wipe σ us).set u none) vs = _
      rw [wipe_set (hu u List.mem_cons_self)]
      exact ih fun x hx => hu x (List.mem_cons_of_mem _ hx)
  exact go vs fun _ h => h
theorem wipeS_wipeS (σ : Sls) (vs : List Nat) : wipeS (wipeS σ vs) vs = wipeS σ vs := by
  have go : ∀ us : List Nat, (∀ u ∈ us, u ∈ vs) → wipeS (wipeS σ us) vs = wipeS σ vs := by
    intro us
    induction us with
    | nil => intro _; rfl
    | cons u us ih =>
      intro hu
      show wipeS ((wipeS σ us).set u .non) vs = _
      rw [wipeS_set (hu u List.mem_cons_self)]
      exact ih fun x hx => hu x (List.mem_cons_of_mem _ hx)
  exact go vs fun _ h => h

/-- a new thing that changes by number -/
theorem J.newO {K : PySem.W.Frag} {e0 : Ent} {F : Hp} {ι : List Addr} {sl : Sls} {h : Obs} {σ : VS} {H : Hp} {p : Addr} {b : Ob} {o : HO} (j : J K e0 F ι sl h σ H) (hp : H p = none) (r : ObR K F ι b (some o)) :
    J K e0 F (ι ++ [p]) sl (h ++ [b]) σ (upd H p o) := by
  have le : Le F ι F (ι ++ [p]) := ⟨fun _ _ e => e, [p], rfl⟩
  have nn := j.hr.notin hp
  have ne : ∀ {a : Addr} {o : HO}, H a = some o → a ≠ p := fun {a o} e z => by rw [z, hp] at e; cases e
  refine j.step ⟨le, fun a u e _ _ => by rw [upd_ne (ne e)]; exact e, fun _ e => .inl e, fun a e => ?_, fun a e => ?_⟩ ⟨fun a u e => ?_, by rw [List.length_append, List.length_append, j.hr.len]; rfl, ?_, fun n a b' e1 e2 => ?_⟩
  · rcases List.mem_append.mp e with z | z
    · exact .inl z
    · have z : a = p := by simpa using z
      rw [z]; exact .inr hp
  · by_cases hn : a = p
    · rw [hn, upd_same]; simp
    · rw [upd_ne hn]; exact e
  · have e2 := j.hr.sub a u e
    rw [upd_ne (ne e2)]; exact e2
  · refine List.nodup_append.mpr ⟨j.hr.nd, by simp, fun a ha b hb => ?_⟩
    have z : b = p := by simpa using hb
    rintro rfl
    exact nn.2 (z ▸ ha)
  · by_cases hn : n < ι.length
    · rw [List.getElem?_append_left hn] at e1
      rw [List.getElem?_append_left (by rw [← j.hr.len]; exact hn)] at e2
      obtain ⟨fn, q⟩ := j.hr.ob n a b' e1 e2
      have ha : a ≠ p := fun z => nn.2 (z ▸ List.mem_of_getElem? e1)
      rw [upd_ne ha]
      exact ⟨fn, q.mono le⟩
    · have hl := j.hr.len
      rw [List.getElem?_append_right (by omega)] at e1 e2
      have z1 : n - ι.length = 0 := by
        have := (List.getElem?_eq_some_iff.mp e1).1
        simp only [List.length_singleton] at this
        omega
      have z2 : n - h.length = 0 := by omega
      rw [z1] at e1
      rw [z2] at e2
      cases e1
      cases e2
      rw [upd_same]
      exact ⟨nn.1, r.mono le⟩

theorem J.newH {K : PySem.W.Frag} {e0 : Ent} {F : Hp} {ι : List Addr} {sl : Sls} {h : Obs} {σ : VS} {H : Hp} {p : Addr} {ws : List W} {vs : List V} (j : J K e0 F ι sl h σ H) (hp : H p = none) (r : RVs K F ι ws vs) :
    J K e0 F (ι ++ [p]) sl (h ++ [.lst ws]) σ (upd H p (.lst vs)) := j.newO hp ⟨vs, rfl, r⟩
/-- a name is given a new list as its own -/
theorem J.setO {K : PySem.W.Frag} {e0 : Ent} {F : Hp} {ι : List Addr} {sl : Sls} {h : Obs} {σ : VS} {H : Hp} {i : Nat} {ws : List W} {p : Addr} {vs : List V} (j : J K e0 F ι sl h σ H) (n : Nw e0 F ι sl σ H p vs) (r : RVs K F ι ws vs) :
    J K e0 F ι (sl.set i (.own ws)) h (σ.set i (some (.ref p))) H where
  hr := j.hr
  xt := j.xt
  len := by rw [List.length_set, List.length_set, j.len]
  at_ := fun k s e => by
    by_cases hk : i = k
    · subst hk
      by_cases hl : i < sl.length
      · rw [List.getElem?_set_self hl] at e
        cases e
        exact ⟨p, vs, by rw [List.getElem?_set_self (by rw [← j.len]; exact hl)], n.at_, r, n.f, n.i, n.o⟩
      · rw [List.getElem?_eq_none (by simpa using hl)] at e; cases e
    · rw [List.getElem?_set_ne hk] at e ⊢
      exact j.at_ k s e
  ap := fun k l us us' q e1 e2 e3 e4 => by
    have one : ∀ (k : Nat) (us : List W) (q : Addr), (sl.set i (.own ws))[k]? = some (.own us) → (σ.set i (some (.ref p)))[k]? = some (some (.ref q)) → (i = k ∧ q = p) ∨ (i ≠ k ∧ sl[k]? = some (.own us) ∧ σ[k]? = some (some (.ref q))) := fun k us q e e' => by
      by_cases hk : i = k
      · subst hk
        by_cases hl : i < σ.length
        · rw [List.getElem?_set_self hl] at e'
          cases e'
          exact .inl ⟨rfl, rfl⟩
        · rw [List.getElem?_eq_none (by simpa using hl)] at e'; cases e'
      · rw [List.getElem?_set_ne hk] at e e'
        exact .inr ⟨hk, e, e'⟩
    rcases one k us q e1 e3 with ⟨rfl, rfl⟩ | ⟨n1, a1, a2⟩ <;> rcases one l us' q e2 e4 with ⟨rfl, e⟩ | ⟨n2, b1, b2⟩
    · rfl
    · exact absurd b2 (n.sl l us' b1)
    · subst e
      exact absurd a2 (n.sl k us a1)
    · exact j.ap k l us us' q a1 b1 a2 b2
  hd := fun a o e => by
    obtain ⟨e1, e2, e3, e4⟩ := j.hd a o e
    refine ⟨e1, e2, e3, fun k us q z => ?_⟩
    by_cases hk : i = k
    · subst hk
      by_cases hl : i < σ.length
      · rw [List.getElem?_set_self hl] at z
        cases z
        rw [n.hd] at e; cases e
      · rw [List.getElem?_eq_none (by simpa using hl)] at z; cases z
    · rw [List.getElem?_set_ne hk] at q z
      exact e4 k us q z
/-- a list of one's own changes -/
theorem J.mutO {K : PySem.W.Frag} {e0 : Ent} {F : Hp} {ι : List Addr} {sl : Sls} {h : Obs} {σ : VS} {H : Hp} {i : Nat} {ws ws' : List W} {p : Addr} {vs' : List V} (j : J K e0 F ι sl h σ H) (e : sl[i]? = some (.own ws)) (e' : σ[i]? = some (some (.ref p))) (r : RVs K F ι ws' vs') :
    J K e0 F ι (sl.set i (.own ws')) h σ (upd H p (.lst vs')) := by
  obtain ⟨p', vs, q1, q2, rv, q3, q4, q5⟩ := j.at_ i _ e
  rw [e'] at q1
  cases q1
  have fne : ∀ a u, F a = some u → a ≠ p := fun a u e z => by rw [z, q3] at e; cases e
  have old : ∀ (k : Nat) (us : List W), (sl.set i (.own ws'))[k]? = some (.own us) → ∃ us', sl[k]? = some (.own us') := fun k us z => by
    by_cases hk : i = k
    · exact ⟨ws, hk ▸ e⟩
    · rw [List.getElem?_set_ne hk] at z
      exact ⟨us, z⟩
  refine ⟨⟨fun a u e => by rw [upd_ne (fne a u e)]; exact j.hr.sub a u e, j.hr.len, j.hr.nd, fun m a u z1 z2 => ?_⟩, ⟨j.xt.le, fun a u z1 z2 z3 => ?_, j.xt.n, j.xt.m, fun a z => ?_⟩, by rw [List.length_set]; exact j.len, fun k s z => ?_, fun k l us us' q z1 z2 z3 z4 => ?_, fun a u z => ?_⟩
  · obtain ⟨fn, q⟩ := j.hr.ob m a u z1 z2
    have hn : a ≠ p := fun z => q4 (z ▸ List.mem_of_getElem? z1)
    rw [upd_ne hn]
    exact ⟨fn, q⟩
  · have hn : a ≠ p := fun z => by rw [z, q5] at z1; cases z1
    rw [upd_ne hn]
    exact j.xt.h a u z1 z2 z3
  · by_cases hn : a = p
    · rw [hn, upd_same]; simp
    · rw [upd_ne hn]; exact j.xt.d a z
  · by_cases hk : i = k
    · subst hk
      have hl : i < sl.length := (List.getElem?_eq_some_iff.mp e).1
      rw [List.getElem?_set_self hl] at z
      cases z
      exact ⟨p, vs', e', upd_same, r, q3, q4, q5⟩
    · rw [List.getElem?_set_ne hk] at z
      have q := j.at_ k s z
      cases s with
      | non => trivial
      | val w => exact q
      | own us =>
        obtain ⟨p2, us2, a1, a2, rv2, fn, ni, n0⟩ := q
        have hn : p2 ≠ p := fun y => hk (j.ap i k ws us p e z e' (y ▸ a1))
        exact ⟨p2, us2, a1, by rw [upd_ne hn]; exact a2, rv2, fn, ni, n0⟩
  · obtain ⟨o1, y1⟩ := old k us z1
    obtain ⟨o2, y2⟩ := old l us' z2
    exact j.ap k l o1 o2 q y1 y2 z3 z4
  · obtain ⟨e1, e2, e3, e4⟩ := j.hd a u z
    have hn : a ≠ p := fun y => e4 i ws e (y ▸ e')
    refine ⟨by rw [upd_ne hn]; exact e1, e2, e3, fun k us y => ?_⟩
    obtain ⟨o1, y1⟩ := old k us y
    exact e4 k o1 y1
/-- a thing by number changes -/
theorem J.mutB {K : PySem.W.Frag} {e0 : Ent} {F : Hp} {ι : List Addr} {sl : Sls} {h : Obs} {σ : VS} {H : Hp} {n : Nat} {b : Ob} {p : Addr} {o : HO} (j : J K e0 F ι sl h σ H) (e : ι[n]? = some p) (fp : F p = none) (hp : H p ≠ none) (r : ObR K F ι b (some o)) :
    J K e0 F ι sl (h.set n b) σ (upd H p o) := by
  have fne : ∀ a u, F a = some u → a ≠ p := fun a u e z => by rw [z, fp] at e; cases e
  have hm : p ∈ ι := List.mem_of_getElem? e
  refine ⟨⟨fun a u e => by rw [upd_ne (fne a u e)]; exact j.hr.sub a u e, by rw [List.length_set]; exact j.hr.len, j.hr.nd, fun m a u z1 z2 => ?_⟩, ⟨j.xt.le, fun a u z1 z2 z3 => ?_, j.xt.n, j.xt.m, fun a z => ?_⟩, j.len, fun k s z => ?_, j.ap, fun a u z => ?_⟩
  · by_cases hk : n = m
    · subst hk
      have z3 : n < h.length := by
        have := (List.getElem?_eq_some_iff.mp z2).1
        rw [List.length_set] at this
        exact this
      rw [List.getElem?_set_self z3] at z2
      cases z2
      rw [e] at z1
      cases z1
      rw [upd_same]
      exact ⟨fp, r⟩
    · rw [List.getElem?_set_ne hk] at z2
      obtain ⟨fn, q⟩ := j.hr.ob m a u z1 z2
      have hn : a ≠ p := fun z => by
        subst z
        obtain ⟨l1, y1⟩ := List.getElem?_eq_some_iff.mp e
        obtain ⟨l2, y2⟩ := List.getElem?_eq_some_iff.mp z1
        exact hk ((List.getElem_inj j.hr.nd).mp (y1.trans y2.symm))
      rw [upd_ne hn]
      exact ⟨fn, q⟩
  · have hn : a ≠ p := fun z => by
      subst z
      rcases j.xt.m a hm with y | y
      · exact z3 y
      · have z1 : e0.H a = some u := z1
        rw [y] at z1; cases z1
    rw [upd_ne hn]
    exact j.xt.h a u z1 z2 z3
  · by_cases hn : a = p
    · rw [hn, upd_same]; simp
    · rw [upd_ne hn]; exact j.xt.d a z
  · have q := j.at_ k s z
    cases s with
    | non => trivial
    | val w => exact q
    | own us =>
      obtain ⟨p2, us2, a1, a2, rv2, fn, ni, n0⟩ := q
      have hn : p2 ≠ p := fun y => ni (y ▸ hm)
      exact ⟨p2, us2, a1, by rw [upd_ne hn]; exact a2, rv2, fn, ni, n0⟩
  · obtain ⟨e1, e2, e3, e4⟩ := j.hd a u z
    have hn : a ≠ p := fun y => e3 (y ▸ hm)
    exact ⟨by rw [upd_ne hn]; exact e1, e2, e3, e4⟩
theorem J.mutH {K : PySem.W.Frag} {e0 : Ent} {F : Hp} {ι : List Addr} {sl : Sls} {h : Obs} {σ : VS} {H : Hp} {n : Nat} {ws' : List W} {p : Addr} {vs' : List V} (j : J K e0 F ι sl h σ H) (e : ι[n]? = some p) (fp : F p = none) (hp : H p ≠ none) (r : RVs K F ι ws' vs') :
    J K e0 F ι sl (h.set n (.lst ws')) σ (upd H p (.lst vs')) := j.mutB e fp hp ⟨vs', rfl, r⟩
/-- a list of one's own is given away: its name keeps it -/
theorem J.frz1 {K : PySem.W.Frag} {e0 : Ent} {F : Hp} {ι : List Addr} {sl : Sls} {h : Obs} {σ : VS} {H : Hp} {i : Nat} {ws : List W} (j : J K e0 F ι sl h σ H) (e : sl[i]? = some (.own ws)) :
    ∃ F', Le F ι F' ι ∧ J K e0 F' ι (sl.set i (.val (.lst ws))) h σ H := by
  obtain ⟨p, vs, q1, q2, rv, q3, q4, q5⟩ := j.at_ i _ e
  have hl : i < sl.length := (List.getElem?_eq_some_iff.mp e).1
  have j1 : J K e0 F ι (sl.set i .non) h σ H := j.wk (by rw [List.length_set]; exact j.len) fun k s z => by
    by_cases hk : i = k
    · subst hk
      rw [List.getElem?_set_self hl] at z
      cases z
      exact .inl rfl
    · rw [List.getElem?_set_ne hk] at z
      exact .inr ⟨z, rfl⟩
  have nw : Nw e0 F ι (sl.set i .non) σ H p vs := ⟨q2, q3, q4, q5, by
      cases q : e0.hold p with
      | none => rfl
      | some o => exact absurd q1 ((j.hd p o q).2.2.2 i ws e), fun k us z y => by
      by_cases hk : i = k
      · subst hk
        rw [List.getElem?_set_self hl] at z
        cases z
      · rw [List.getElem?_set_ne hk] at z
        exact hk (j.ap i k ws us p e z q1 y)⟩
  obtain ⟨j2, l2⟩ := j1.frz nw
  refine ⟨_, l2, ?_⟩
  have j3 := j2.setV (i := i) (w := .lst ws) (v := .ref p) (.lst upd_same (rv.mono l2))
  rw [List.set_set] at j3
  have es : σ.set i (some (.ref p)) = σ := by
    refine List.ext_getElem? fun k => ?_
    by_cases hk : i = k
    · subst hk
      rw [List.getElem?_set_self (by rw [← j.len]; exact hl), q1]
    · rw [List.getElem?_set_ne hk]
  rw [es] at j3
  exact j3
theorem J.frzS {K : PySem.W.Frag} {e0 : Ent} {ι : List Addr} {h : Obs} {σ : VS} {H : Hp} : ∀ (is : List Nat) {F : Hp} {sl : Sls}, J K e0 F ι sl h σ H → ∃ F', Le F ι F' ι ∧ J K e0 F' ι (Ev.frzS is sl) h σ H
  | [], F, sl, j => ⟨F, .refl, j⟩
  | i :: is, F, sl, j => by
    unfold Ev.frzS
    split
    · rename_i ws e
      obtain ⟨F1, l1, j1⟩ := j.frz1 e
      obtain ⟨F2, l2, j2⟩ := J.frzS is j1
      exact ⟨F2, l1.trans l2, j2⟩
    · exact J.frzS is j
/-- what is new is held, as it stands -/
theorem J.holdN {K : PySem.W.Frag} {e0 : Ent} {F : Hp} {ι : List Addr} {sl : Sls} {h : Obs} {σ : VS} {H : Hp} {p : Addr} {vs : List V} (j : J K e0 F ι sl h σ H) (n : Nw e0 F ι sl σ H p vs) :
    J K { e0 with hold := upd e0.hold p (.lst vs) } F ι sl h σ H := ⟨j.hr, j.xt, j.len, j.at_, j.ap, fun a u e => by
    by_cases ha : a = p
    · subst ha
      have e : upd e0.hold a (.lst vs) a = some u := e
      rw [upd_same] at e
      cases e
      exact ⟨n.at_, n.f, n.i, n.sl⟩
    · have e : upd e0.hold p (.lst vs) a = some u := e
      rw [upd_ne ha] at e
      exact j.hd a u e⟩
theorem Nw.setV {e0 : Ent} {F : Hp} {ι : List Addr} {sl : Sls} {σ : VS} {H : Hp} {p : Addr} {vs : List V} {i : Nat} {w : W} {v : V} (n : Nw e0 F ι sl σ H p vs) : Nw e0 F ι (sl.set i (.val w)) (σ.set i (some v)) H p vs :=
  ⟨n.at_, n.f, n.i, n.o, n.hd, fun k us z => by
    by_cases hk : i = k
    · subst hk
      by_cases hl : i < sl.length
      · rw [List.getElem?_set_self hl] at z; cases z
      · rw [List.getElem?_eq_none (by simpa using hl)] at z; cases z
    · rw [List.getElem?_set_ne hk] at z ⊢
      exact n.sl k us z⟩
theorem Nw.setO {e0 : Ent} {F : Hp} {ι : List Addr} {sl : Sls} {σ : VS} {H : Hp} {p p2 : Addr} {vs : List V} {i : Nat} {ws : List W} (n : Nw e0 F ι sl σ H p vs) (hn : p2 ≠ p) : Nw e0 F ι (sl.set i (.own ws)) (σ.set i (some (.ref p2))) H p vs :=
  ⟨n.at_, n.f, n.i, n.o, n.hd, fun k us z y => by
    by_cases hk : i = k
    · subst hk
      by_cases hl : i < σ.length
      · rw [List.getElem?_set_self hl] at y
        cases y
        exact hn rfl
      · rw [List.getElem?_eq_none (by simpa using hl)] at y; cases y
    · rw [List.getElem?_set_ne hk] at z y
      exact n.sl k us z y⟩

/-! ### held things -/
def Ent.keep (e0 : Ent) (p : Addr) (o : HO) : Ent := { e0 with hold := upd e0.hold p o }
/-- what is new is held -/
theorem J.hold {p : Addr} {o : HO} (j : J K e0 F ι sl h σ H) (hp : H p = none) : J K (e0.keep p o) F ι sl h σ (upd H p o) := by
  have j2 := j.loose (o := o) hp
  exact ⟨j2.hr, j2.xt, j2.len, j2.at_, j2.ap, fun a u e => by
    by_cases ha : a = p
    · subst ha
      have e : upd e0.hold a o a = some u := e
      rw [upd_same] at e
      cases e
      exact ⟨upd_same, (j.hr.notin hp).1, (j.hr.notin hp).2, (j.none0 hp).2.2⟩
    · have e : upd e0.hold p o a = some u := e
      rw [upd_ne ha] at e
      exact j2.hd a u e⟩
/-- .. and changes -/
theorem J.reHold {p : Addr} {o o' : HO} (n0 : e0.H p = none) (j : J K (e0.keep p o) F ι sl h σ H) : J K (e0.keep p o') F ι sl h σ (upd H p o') := by
  obtain ⟨e1, e2, e3, e4⟩ := j.hd p o upd_same
  have fne : ∀ a u, F a = some u → a ≠ p := fun a u e z => by rw [z, e2] at e; cases e
  refine ⟨⟨fun a u e => by rw [upd_ne (fne a u e)]; exact j.hr.sub a u e, j.hr.len, j.hr.nd, fun m a u q1 q2 => ?_⟩, ⟨j.xt.le, fun a u q1 q2 q3 => ?_, j.xt.n, j.xt.m, fun a q => ?_⟩, j.len, fun i s e => ?_, j.ap, fun a u e => ?_⟩
  · obtain ⟨fn, q⟩ := j.hr.ob m a u q1 q2
    have hn : a ≠ p := fun z => e3 (z ▸ List.mem_of_getElem? q1)
    rw [upd_ne hn]
    exact ⟨fn, q⟩
  · have hn : a ≠ p := fun z => by
      have q1 : e0.H a = some u := q1
      rw [z, n0] at q1; cases q1
    rw [upd_ne hn]
    exact j.xt.h a u q1 q2 q3
  · by_cases hn : a = p
    · rw [hn, upd_same]; simp
    · rw [upd_ne hn]; exact j.xt.d a q
  · have q := j.at_ i s e
    cases s with
    | non => trivial
    | val w => exact q
    | own ws =>
      obtain ⟨p', us, q1, q2, rv, fn, ni, n0'⟩ := q
      have hn : p' ≠ p := fun z => e4 i ws e (z ▸ q1)
      exact ⟨p', us, q1, by rw [upd_ne hn]; exact q2, rv, fn, ni, n0'⟩
  · by_cases ha : a = p
    · subst ha
      have e : upd e0.hold a o' a = some u := e
      rw [upd_same] at e
      cases e
      exact ⟨upd_same, e2, e3, e4⟩
    · have e : upd e0.hold p o' a = some u := e
      rw [upd_ne ha] at e ⊢
      refine j.hd a u (show upd e0.hold p o a = some u from ?_)
      rw [upd_ne ha]; exact e
/-- .. and is forgotten -/
theorem J.unhold2 {p : Addr} {o : HO} (nh : e0.hold p = none) (j : J K (e0.keep p o) F ι sl h σ H) : J K e0 F ι sl h σ H := ⟨j.hr, j.xt, j.len, j.at_, j.ap, fun a u e => j.hd a u (show upd e0.hold p _ a = some u from by
  rw [upd_ne (fun z => by rw [z, nh] at e; cases e)]
  exact e)⟩
/-- .. and is given a number -/
theorem J.adopt {p : Addr} {o o' : HO} {b : Ob} (n0 : e0.H p = none) (nh : e0.hold p = none) (j : J K (e0.keep p o) F ι sl h σ H) (r : ObR K F ι b (some o')) : J K e0 F (ι ++ [p]) sl (h ++ [b]) σ (upd H p o') := by
  obtain ⟨e1, e2, e3, e4⟩ := j.hd p o upd_same
  have le : Le F ι F (ι ++ [p]) := ⟨fun _ _ e => e, [p], rfl⟩
  have fne : ∀ a u, F a = some u → a ≠ p := fun a u e z => by rw [z, e2] at e; cases e
  have jx : Xt e0.F e0.ι e0.H F ι H := j.xt
  refine ⟨⟨fun a u e => by rw [upd_ne (fne a u e)]; exact j.hr.sub a u e, by rw [List.length_append, List.length_append, j.hr.len]; rfl, ?_, fun n a b' q1 q2 => ?_⟩, ⟨jx.le.trans le, fun a u q1 q2 q3 => ?_, jx.n, fun a q => ?_, fun a q => ?_⟩, j.len, fun i s e => ?_, j.ap, fun a u e => ?_⟩
  · refine List.nodup_append.mpr ⟨j.hr.nd, by simp, fun a ha b hb => ?_⟩
    have z : b = p := by simpa using hb
    rintro rfl
    exact e3 (z ▸ ha)
  · by_cases hn : n < ι.length
    · rw [List.getElem?_append_left hn] at q1
      rw [List.getElem?_append_left (by rw [← j.hr.len]; exact hn)] at q2
      obtain ⟨fn, q⟩ := j.hr.ob n a b' q1 q2
      have ha : a ≠ p := fun z => e3 (z ▸ List.mem_of_getElem? q1)
      rw [upd_ne ha]
      exact ⟨fn, q.mono le⟩
    · have hl := j.hr.len
      rw [List.getElem?_append_right (by omega)] at q1 q2
      have z1 : n - ι.length = 0 := by
        have := (List.getElem?_eq_some_iff.mp q1).1
        simp only [List.length_singleton] at this
        omega
      have z2 : n - h.length = 0 := by omega
      rw [z1] at q1
      rw [z2] at q2
      cases q1
      cases q2
      rw [upd_same]
      exact ⟨e2, r.mono le⟩
  · have hn : a ≠ p := fun z => by rw [z, n0] at q1; cases q1
    rw [upd_ne hn]
    exact jx.h a u q1 q2 q3
  · rcases List.mem_append.mp q with z | z
    · exact jx.m a z
    · have z : a = p := by simpa using z
      rw [z]; exact .inr n0
  · by_cases hn : a = p
    · rw [hn, upd_same]; simp
    · rw [upd_ne hn]; exact jx.d a q
  · have q := j.at_ i s e
    cases s with
    | non => trivial
    | val w =>
      obtain ⟨v, q1, rv⟩ := q
      exact ⟨v, q1, rv.mono le⟩
    | own ws =>
      obtain ⟨p', us, q1, q2, rv, fn, ni, n0'⟩ := q
      have hn : p' ≠ p := fun z => e4 i ws e (z ▸ q1)
      refine ⟨p', us, q1, by rw [upd_ne hn]; exact q2, rv.mono le, fn, fun hm => ?_, n0'⟩
      rcases List.mem_append.mp hm with z | z
      · exact ni z
      · exact hn (by simpa using z)
  · have hn : a ≠ p := fun z => by rw [z, nh] at e; cases e
    obtain ⟨q1, q2, q3, q4⟩ := j.hd a u (show upd e0.hold p _ a = some u by rw [upd_ne hn]; exact e)
    refine ⟨by rw [upd_ne hn]; exact q1, q2, fun hm => ?_, q4⟩
    rcases List.mem_append.mp hm with z | z
    · exact q3 z
    · exact hn (by simpa using z)
/-- .. and is let go -/
theorem J.unhold {p : Addr} {vs : List V} (n0 : e0.H p = none) (nh : e0.hold p = none) (j : J K (e0.keep p (.lst vs)) F ι sl h σ H) : J K e0 F ι sl h σ H ∧ Nw e0 F ι sl σ H p vs := by
  obtain ⟨e1, e2, e3, e4⟩ := j.hd p _ upd_same
  refine ⟨⟨j.hr, j.xt, j.len, j.at_, j.ap, fun a u e => j.hd a u (show upd e0.hold p _ a = some u from ?_)⟩, ⟨e1, e2, e3, n0, nh, e4⟩⟩
  rw [upd_ne (fun z => by rw [z, nh] at e; cases e)]
  exact e
end
end Ev

namespace Ev
open PySem PySem.Spec PyProof.Rows L2

/-! ## what a def promises, how it is called -/
def spW (K : PySem.W.Frag) (mg : Str → Option Value) (n : Nat) (T : List W → Obs → R W) : Sp := fun vs H Q Z => ∃ F ι h ws, vs.length = n ∧ HR K F ι h H ∧ RVs K F ι ws vs ∧
  match T ws h with
  | .ok w h' => ∀ F' ι' H' v, Xt F ι H F' ι' H' → HR K F' ι' h' H' → RV K F' ι' w v → Q v H'
  | .exc x h' => ∀ F' ι' H' cls d, Xt F ι H F' ι' H' → HR K F' ι' h' H' → RX K mg F' ι' x cls d → Z cls d H'
  | .bad => False
/-- a def of the text keeps its promise, wherever nothing guards -/
structure Fk (P : Program) (w : World) (K : PySem.W.Frag) (mg : Str → Option Value) (base : Heap) (k : Nat) (f : Addr) (fd : FuncData) (ps : List Str) (sp : Sp) : Prop where
  run : ∀ (A : Around) (up : List Env) (s : Shared) (H : Hp) (a : Args) (us : List Value) (vs : List V) (Q : VK) (Z : XK), Room k A → A.guards = some [] → Env0 P w K mg base A up s H →
    BindsTo s fd a (ps.zip us) → Vals vs us → sp vs H Q Z → codeAny (model P w) A (.call (.ref f) a) (CR (CX P w) up P w H s Q Z) s
section
variable {X : Cx} {Z : WX} {k : Nat} {g : Addr} {fd : FuncData} {ps : List Str} {T : List W → Obs → R W}
theorem run_w (tk : Takes X Z) (hr : Room k X.A) (hg : X.A.guards = some []) (fk : Fk X.prog X.w X.K X.mg X.base k g fd ps (spW X.K X.mg ps.length T))
    {pins : List (Addr × Obj)} {s : Shared} {σ : VS} {H : Hp} {us us' : List Value} {kw : List (Str × Value)} {vs : List V} {Q : VK} {e0 : Ent} {F : Hp} {ι : List Addr} {sl : Sls} {h : Obs} {ws : List W}
    (I : Inv X pins σ H s) (hb : BindsTo s fd ⟨us, kw⟩ (ps.zip us')) (r : Vals vs us') (hl : vs.length = ps.length) (j : J X.K e0 F ι sl h σ H) (rv : RVs X.K F ι ws vs)
    (p : Po (bx X Z e0) F ι sl σ (fun F ι => RV X.K F ι) (T ws h) Q) : wpAny (model X.prog X.w) X.A (call (.ref g) us kw) (EP X pins σ Q) X.xe s := by
  refine wpAny_call (codeAny_mono (fk.run X.A X.stack s H ⟨us, kw⟩ us' vs Q (WE Z σ) hr hg I.env0 hb r ⟨F, ι, h, ws, hl, j.hr, rv, ?_⟩) fun r s' hq => ?_)
  · cases q : T ws h with
    | ok w h' =>
      rw [q] at p
      exact fun F' ι' H' v x hr' rv' => p F' ι' H' v x.le (j.step x hr') rv'
    | exc x h' =>
      rw [q] at p
      exact fun F' ι' H' cls d x hr' rx => p F' ι' H' cls d x.le (j.step x hr') rx
    | bad => rw [q] at p; exact p
  · cases r with
    | error e => exact L2.passAt tk σ pins H s e s' I hq
    | ok fl =>
      cases fl with
      | ret u => exact I.after hq
      | next => exact False.elim hq
      | brk => exact False.elim hq
      | cont => exact False.elim hq
end

/-- keywords are bound as they are put -/
def KwOk (kws : List (Nat × Nat × List Str)) (i : Nat) (fd : FuncData) (ps : List Str) : Prop := ∀ n ks, (i, n, ks) ∈ kws → ∀ us zs : List Value, us.length = n → zs.length = ks.length → ∃ as, kwPut ps us (ks.zip zs) = some as ∧ ∀ s : Shared, BindsTo s fd ⟨us, ks.zip zs⟩ (ps.zip as)
/-- .. whatever the values are -/
theorem kwAll_rel {α β : Type} {rel : α → β → Prop} {ks : List (Str × α)} {ls : List (Str × β)} (r : Paired (fun p q => p.1 = q.1 ∧ rel p.2 q.2) ks ls) : ∀ {xs : List Str} {as : List α}, kwAll ks xs = some as → ∃ bs, kwAll ls xs = some bs ∧ Paired rel as bs
  | [], as, e => by cases e; exact ⟨[], rfl, .nil⟩
  | x :: xs, as, e => by
    have look : ∀ {ks : List (Str × α)} {ls : List (Str × β)} {a : α}, Paired (fun p q => p.1 = q.1 ∧ rel p.2 q.2) ks ls → ks.lookup x = some a → ∃ b, ls.lookup x = some b ∧ rel a b := fun {ks ls a} r => by
      induction r with
      | nil => intro z; cases z
      | @cons p q ks ls h t ih =>
        intro z
        obtain ⟨p1, p2⟩ := p
        obtain ⟨q1, q2⟩ := q
        obtain ⟨h1, h2⟩ := h
        cases h1
        rw [List.lookup_cons] at z ⊢
        cases hx : x == p1 with
        | true => rw [hx] at z; cases z; exact ⟨q2, rfl, h2⟩
        | false => rw [hx] at z; exact ih z
    unfold kwAll at e ⊢
    cases q1 : ks.lookup x with
    | none => rw [q1] at e; cases e
    | some a =>
      cases q2 : kwAll ks xs with
      | none => rw [q1, q2] at e; cases e
      | some as' =>
        rw [q1, q2] at e
        cases e
        obtain ⟨b, e1, r1⟩ := look r q1
        obtain ⟨bs, e2, r2⟩ := kwAll_rel r q2
        rw [e1, e2]
        exact ⟨_, rfl, .cons r1 r2⟩
theorem kwPut_rel {α β : Type} {rel : α → β → Prop} {ps : List Str} {us : List α} {vs : List β} {ks : List (Str × α)} {ls : List (Str × β)} {as : List α} (r : Paired rel us vs) (rk : Paired (fun p q => p.1 = q.1 ∧ rel p.2 q.2) ks ls) (e : kwPut ps us ks = some as) :
    ∃ bs, kwPut ps vs ls = some bs ∧ Paired rel as bs := by
  have app : ∀ {a : List α} {b : List β} {x : List α} {y : List β}, Paired rel a b → Paired rel x y → Paired rel (a ++ x) (b ++ y) := fun {a b x y} h1 h2 => by
    induction h1 with
    | nil => exact h2
    | cons h t ih => exact .cons h ih
  unfold kwPut at e ⊢
  rw [← r.length, ← rk.length]
  split at e
  · cases q : kwAll ks (ps.drop us.length) with
    | none => rw [q] at e; cases e
    | some x =>
      rw [q] at e
      cases e
      obtain ⟨bs, e1, r1⟩ := kwAll_rel rk q
      rw [e1]
      exact ⟨_, rfl, app r r1⟩
  · cases e
theorem RVs.pair {K : PySem.W.Frag} {F : Hp} {ι : List Addr} : ∀ {ws : List W} {vs : List V}, RVs K F ι ws vs → Paired (RV K F ι) ws vs
  | _, _, .nil => .nil
  | _, _, .cons r t => .cons r (RVs.pair t)
theorem RVs.unpair {K : PySem.W.Frag} {F : Hp} {ι : List Addr} : ∀ {ws : List W} {vs : List V}, Paired (RV K F ι) ws vs → RVs K F ι ws vs
  | _, _, .nil => .nil
  | _, _, .cons r t => .cons r (RVs.unpair t)
theorem zip_pair {α β : Type} {rel : α → β → Prop} : ∀ {ks : List (Str × α)} {bs : List β}, Paired rel (ks.map Prod.snd) bs → Paired (fun p q => p.1 = q.1 ∧ rel p.2 q.2) ks ((ks.map Prod.fst).zip bs)
  | [], _, r => by cases r; exact .nil
  | (x, a) :: ks, _, r => by
    cases r with
    | cons h t => exact .cons ⟨rfl, h⟩ (zip_pair t)
theorem zip_two {α β : Type} {rel : α → β → Prop} : ∀ {ks : List Str} {as : List α} {bs : List β}, Paired rel as bs → Paired (fun p q => p.1 = q.1 ∧ rel p.2 q.2) (ks.zip as) (ks.zip bs)
  | [], _, _, _ => .nil
  | _ :: _, _, _, .nil => .nil
  | k :: ks, _, _, .cons h t => .cons ⟨rfl, h⟩ (zip_two t)

/-- a dict of the module, text keys -/
def DicOk (K : PySem.W.Frag) (w : World) (mg : Str → Option Value) (x : Str) (kvs : List (Str × W)) : Prop := ∃ d es n, mg x = some (.ref d) ∧ KDict K w d es n ∧
  ∀ s, (∀ a, dicGet kvs s = some a → ∃ u v, PySem.W.nsIn K d s = some (some u) ∧ RelV v u ∧ ∀ F ι, RV K F ι a v) ∧ (dicGet kvs s = none → PySem.W.nsIn K d s = some none)

/-! ## a context that the core's readings hold in -/
structure Cn (X : Cx) (Z : WX) (D : Dn) (c : Oc) : Prop where
  calm : X.calm = true
  tk : Takes X Z
  N : X.N = c.N
  nd : X.N.Nodup
  gd : X.A.guards = some []
  un : X.A.units + 70 < cLine
  bt : ∀ b : Bt, X.mg b.nm = none
  ty : ∀ t : Ty, X.mg t.nm = none
  isi : X.mg "isinstance" = none
  rng : X.mg "range" = none
  enum : X.mg "enumerate" = none
  zip : X.mg "zip" = none
  cst : ∀ x w, cstV (D.cst x) = some w → ∃ v u, X.mg x = some u ∧ RelV v u ∧ ∀ F ι, RV X.K F ι w v
  dic : ∀ x kvs, D.cst x = some (.dic kvs) → DicOk X.K X.w X.mg x kvs
  fn : ∀ i x, c.fs i = some x → ∃ g fd ps k, X.mg x = some (.ref g) ∧ PySem.W.keepIn X.K (.ref g) = true ∧ Binds X.K fd ps [] ∧ D.par i = ps ∧ Room k X.A ∧ Fk X.prog X.w X.K X.mg X.base k g fd ps (spW X.K X.mg ps.length (D.call i)) ∧ KwOk c.kws i fd ps
  /-- what a def wants of its arguments' number -/
  ar : ∀ i ws h, D.call i ws h = .bad ∨ ws.length = (D.par i).length
/-- no exception may leave -/
abbrev nox : WX := fun _ _ _ _ => False
theorem Cn.blk {X : Cx} {Z : WX} {D : Dn} {c : Oc} (n : Cn X Z D c) (s : Shared) (H : Hp) (sc : Scope) (env : Env) (fp : List Addr) : Cn (X.blk s H sc env fp) nox D c where
  calm := n.calm
  tk := fun u s' ⟨_, _, _, _, _, _, _, _, _, _, _, _, _, _, _, _, w⟩ => w
  N := n.N
  nd := n.nd
  gd := n.gd
  un := n.un
  bt := n.bt
  ty := n.ty
  isi := n.isi
  rng := n.rng
  enum := n.enum
  zip := n.zip
  cst := n.cst
  dic := n.dic
  fn := n.fn
  ar := n.ar

/-! ## truth -/
theorem tru_of {K : PySem.W.Frag} {F : Hp} {ι : List Addr} {H : Hp} {w : W} {v : V} {k : Bool} (s : ∀ a o, F a = some o → H a = some o) (r : RN K F ι H w v) (e : truW w = some k) : TruV K v H k := by
  have lem : ∀ {xs : List V} {ws : List W}, RVs K F ι ws xs → (!ws.isEmpty) = !xs.isEmpty := fun r => by cases r <;> rfl
  rcases r with r | ⟨ws, p, vs, rfl, rfl, e2, rv⟩ | ⟨ws, p, vs, rfl, rfl, e2, rv⟩
  rotate_left 2
  · cases e
  · cases r with
    | non => cases e; rfl
    | bl b => cases e; rfl
    | int i => cases e; rfl
    | str x =>
      have e : (match lineN x.length with | true => some ((x.length : Int) != 0) | false => none) = some k := e
      split at e
      · rename_i hl
        cases e
        exact ⟨lineN_ok hl, rfl⟩
      · cases e
    | ty n => cases e
    | tup q rv =>
      cases e
      exact .inr (.inl ⟨_, sqT_mono s q, lem rv⟩)
    | lst q rv =>
      cases e
      exact .inl ⟨_, .inl (.inl (s _ _ q)), lem rv⟩
    | emp q => cases e
    | scr q => cases e
    | ref q => cases e
  · cases e
    exact .inl ⟨_, .inl (.inl e2), lem rv⟩

/-! ## what is walked -/
/-- the iterator gives the values xs, wherever the heap goes -/
def Wk (K : PySem.W.Frag) (F : Hp) (ι : List Addr) (t : L2.It) (xs : List W) : Prop :=
  ∀ (i : Nat) (e1 : Ent) (F1 : Hp) (ι1 : List Addr) (sl : Sls) (h : Obs) (σ : VS) (H : Hp), Le F ι F1 ι1 → J K e1 F1 ι1 sl h σ H →
    (xs.length ≤ i → t.stop i H) ∧ ∀ w, xs[i]? = some w → t.go i H ∧ ∀ x H', t.yld i H x H' → ∃ F2 ι2, Le F1 ι1 F2 ι2 ∧ J K e1 F2 ι2 sl h σ H' ∧ RV K F2 ι2 w x
def tWk (X : Cx) (Z : WX) (m : Sls → Obs → R (List W)) : TI := fun σ H Q => ∃ e0 F ι sl h, J X.K e0 F ι sl h σ H ∧ Po (bx X Z e0) F ι sl σ (fun F ι xs t => Wk X.K F ι t xs) (m sl h) Q
section
variable {K : PySem.W.Frag} {F : Hp} {ι : List Addr} {ws : List W} {vs : List V} {a : Addr}
theorem wk_list (q : SqL K F a vs) (r : RVs K F ι ws vs) : Wk K F ι (Itl K a) ws := fun i e1 F1 ι1 sl h σ H l j => by
  have q1 : SqL K H a vs := sqL_mono j.hr.sub (sqL_mono l.f q)
  refine ⟨fun z => ⟨vs, q1, by rw [← r.length]; exact z⟩, fun w e => ?_⟩
  obtain ⟨v, e1, rv⟩ := r.get e
  refine ⟨⟨vs, v, q1, e1⟩, fun x H' y => ?_⟩
  obtain ⟨rfl, y⟩ := y
  have z := y vs q1
  rw [e1] at z
  cases z
  exact ⟨F1, ι1, .refl, j, rv.mono l⟩
theorem wk_tup (q : SqT K F a vs) (r : RVs K F ι ws vs) : Wk K F ι (Itt K a) ws := fun i e1 F1 ι1 sl h σ H l j => by
  have q1 : SqT K H a vs := sqT_mono j.hr.sub (sqT_mono l.f q)
  refine ⟨fun z => ⟨vs, q1, by rw [← r.length]; exact z⟩, fun w e => ?_⟩
  obtain ⟨v, e1, rv⟩ := r.get e
  refine ⟨⟨vs, v, q1, e1⟩, fun x H' y => ?_⟩
  obtain ⟨rfl, y⟩ := y
  have z := y vs q1
  rw [e1] at z
  cases z
  exact ⟨F1, ι1, .refl, j, rv.mono l⟩
theorem rngW_len (lo : Int) (n : Nat) : (rngW lo n).length = n := by
  induction n generalizing lo with
  | zero => rfl
  | succ n ih =>
    show (rngW (lo + 1) n).length + 1 = n + 1
    rw [ih]
theorem rngW_get (lo : Int) (n i : Nat) (h : i < n) : (rngW lo n)[i]? = some (.int (lo + i)) := by
  induction n generalizing lo i with
  | zero => omega
  | succ n ih =>
    cases i with
    | zero => simp [rngW]
    | succ i =>
      show (rngW (lo + 1) n)[i]? = _
      rw [ih (lo + 1) i (by omega)]
      congr 2
      omega
theorem wk_rng (lo : Int) (n : Nat) : Wk K F ι (Itr lo n) (rngW lo n) := fun i e1 F1 ι1 sl h σ H l j => by
  refine ⟨fun z => by rw [rngW_len] at z; exact z, fun w e => ?_⟩
  have hi : i < n := by
    have z := (List.getElem?_eq_some_iff.mp e).1
    rw [rngW_len] at z; exact z
  refine ⟨hi, fun x H' y => ?_⟩
  obtain ⟨rfl, rfl⟩ := y
  rw [rngW_get lo n i hi] at e
  cases e
  exact ⟨F1, ι1, .refl, j, .int _⟩
theorem enumW_len (k : Nat) (ws : List W) : (enumW k ws).length = ws.length := by
  induction ws generalizing k with
  | nil => rfl
  | cons w ws ih =>
    show (enumW (k + 1) ws).length + 1 = ws.length + 1
    rw [ih]
theorem enumW_get (k i : Nat) (ws : List W) (w : W) (e : (enumW k ws)[i]? = some w) : ∃ u, ws[i]? = some u ∧ w = .tup [.int ((k + i : Nat) : Int), u] := by
  induction ws generalizing k i with
  | nil => cases e
  | cons u ws ih =>
    cases i with
    | zero =>
      cases e
      exact ⟨u, rfl, rfl⟩
    | succ i =>
      obtain ⟨u', e1, e2⟩ := ih (k + 1) i e
      refine ⟨u', e1, e2.trans ?_⟩
      have z : k + 1 + i = k + (i + 1) := by omega
      rw [z]
theorem wk_enum (q : SqL K F a vs) (r : RVs K F ι ws vs) : Wk K F ι (Ite K a) (enumW 0 ws) := fun i e1 F1 ι1 sl h σ H l j => by
  have q1 : SqL K H a vs := sqL_mono j.hr.sub (sqL_mono l.f q)
  refine ⟨fun z => ⟨vs, q1, by rw [enumW_len] at z; rw [← r.length]; exact z⟩, fun w e => ?_⟩
  obtain ⟨u, e1, rfl⟩ := enumW_get 0 i ws w e
  obtain ⟨v, e2, rv⟩ := r.get e1
  refine ⟨⟨vs, v, q1, e2⟩, fun x H' y => ?_⟩
  · obtain ⟨T, y0, rfl, hT, rfl, y⟩ := y
    have z := y vs q1
    rw [e2] at z
    cases z
    have rr : RVs K F1 ι1 [.int ((0 + i : Nat) : Int), u] [.int ((i : Nat) : Int), v] := .cons (by rw [Nat.zero_add]; exact .int _) (.cons (rv.mono l) .nil)
    exact ⟨_, ι1, j.newLe (o := HO.tup [.int ((i : Nat) : Int), v]) hT, j.new hT, .tup (.inl (.inl upd_same)) (rr.mono (j.newLe hT))⟩
theorem zipW_some : ∀ (i : Nat) (ws us : List W) (w : W), (zipW ws us)[i]? = some w → ∃ x y, ws[i]? = some x ∧ us[i]? = some y ∧ w = .tup [x, y]
  | 0, a :: as, b :: bs, w, e => by cases e; exact ⟨a, b, rfl, rfl, rfl⟩
  | i + 1, a :: as, b :: bs, w, e => zipW_some i as bs w e
  | i, [], us, w, e => by
    have e : ([] : List W)[i]? = some w := by cases us <;> exact e
    simp at e
  | i, a :: as, [], w, e => by
    have e : ([] : List W)[i]? = some w := e
    simp at e
theorem zipW_len : ∀ (i : Nat) (ws us : List W), (zipW ws us).length ≤ i → ws.length ≤ i ∨ us.length ≤ i
  | i, [], us, _ => .inl (Nat.zero_le _)
  | i, a :: as, [], _ => .inr (Nat.zero_le _)
  | 0, a :: as, b :: bs, h => absurd (show (zipW as bs).length + 1 ≤ 0 from h) (by omega)
  | i + 1, a :: as, b :: bs, h => by
    have h : (zipW as bs).length + 1 ≤ i + 1 := h
    rcases zipW_len i as bs (by omega) with z | z
    · exact .inl (Nat.succ_le_succ z)
    · exact .inr (Nat.succ_le_succ z)
theorem wk_zip {us : List W} {xs : List V} {b : Addr} (q : SqL K F a vs) (r : RVs K F ι ws vs) (q' : SqL K F b xs) (r' : RVs K F ι us xs) : Wk K F ι (Itz K a b) (zipW ws us) := fun i e1 F1 ι1 sl h σ H l j => by
  have q1 : SqL K H a vs := sqL_mono j.hr.sub (sqL_mono l.f q)
  have q2 : SqL K H b xs := sqL_mono j.hr.sub (sqL_mono l.f q')
  refine ⟨fun z => ⟨vs, xs, q1, q2, by rw [← r.length, ← r'.length]; exact zipW_len i ws us z⟩, fun w e => ?_⟩
  obtain ⟨x, y, e1, e2, rfl⟩ := zipW_some i ws us w e
  obtain ⟨v, e3, rv⟩ := r.get e1
  obtain ⟨v2, e4, rv2⟩ := r'.get e2
  refine ⟨⟨vs, xs, v, v2, q1, q2, e3, e4⟩, fun x' H' y' => ?_⟩
  obtain ⟨T, y1, y2, rfl, hT, rfl, z1, z2⟩ := y'
  have z := z1 vs q1
  rw [e3] at z
  cases z
  have z := z2 xs q2
  rw [e4] at z
  cases z
  have rr : RVs K F1 ι1 [x, y] [v, v2] := .cons (rv.mono l) (.cons (rv2.mono l) .nil)
  exact ⟨_, ι1, j.newLe (o := HO.tup [v, v2]) hT, j.new hT, .tup (.inl (.inl upd_same)) (rr.mono (j.newLe hT))⟩
end
/-- a list or a tuple, as it comes -/
theorem pi_seq {X : Cx} {tg l : Expr} {tl : TE} (hl : PE X l tl) : PI X tg l (fun σ H Q => tl σ H fun x H1 => ∃ a, x = .ref a ∧ (((∃ xs, SqL X.K H1 a xs) ∧ Q (Itl X.K a) H1) ∨ ((∃ xs, SqT X.K H1 a xs) ∧ Q (Itt X.K a) H1))) := by
  refine ⟨fun pins s σ H Q I hq => thn (hl.run pins s σ H _ I hq) fun u s1 ⟨x, H1, I1, rx, a, e, q⟩ => ?_⟩
  subst e
  cases rx
  have new : ∀ b ∈ [s1.heap.objs.size], FpOk X pins H1 b := fun b hb => by
    have e : b = s1.heap.objs.size := by simpa using hb
    rw [e]
    exact I1.fpOk (Nat.le_refl _) (I1.hok.fresh (Nat.le_refl _))
  have kept : ∀ ob : Obj, Inv X pins σ H1 { s1 with heap := s1.heap.push ob } := fun ob => I1.kept (t' := s1.toks) fun b o e => Heap.get?_push_of_some _ e
  rcases q with ⟨⟨xs, hq⟩, q⟩ | ⟨⟨xs, hq⟩, q⟩
  · obtain ⟨its, _, pl, _⟩ := I1.list hq
    exact wpAny_pyIter_list pl.isList ⟨s1.heap.objs.size, _, _, _, H1, rfl, kept _, turn_list a _, ⟨_, Heap.get?_push_size _ rfl, rfl, rfl⟩, new, q⟩
  · obtain ⟨its, _, pl, _⟩ := I1.tuple hq
    exact wpAny_pyIter_tuple (show s1.heap.IsTuple a its.toArray from pl) ⟨s1.heap.objs.size, _, _, _, H1, rfl, kept _, turn_tuple a _, ⟨_, Heap.get?_push_size _ rfl, rfl, rfl⟩, new, q⟩
end Ev

namespace Ev
open PySem PySem.Spec PyProof.Rows L2

/-! ## new lists -/
/-- an answer that is a new list -/
def PoF (b : Bx) (F : Hp) (ι : List Addr) (sl : Sls) (σ : VS) (r : R (List W)) (Q : V → Hp → Prop) : Prop := match r with
  | .ok ws h' => ∀ F' ι' H' p us, Le F ι F' ι' → b.J F' ι' sl h' σ H' → Nw b.e0 F' ι' sl σ H' p us → RVs b.K F' ι' ws us → Q (.ref p) H'
  | .exc x h' => ∀ F' ι' H' cls d, Le F ι F' ι' → b.J F' ι' sl h' σ H' → RX b.K b.mg F' ι' x cls d → b.W cls d σ H'
  | .bad => False
def tF (X : Cx) (Z : WX) (m : Sls → Obs → R (List W)) : TE := fun σ H Q => ∃ e0 F ι sl h, J X.K e0 F ι sl h σ H ∧ PoF (bx X Z e0) F ι sl σ (m sl h) Q
section
variable {α β γ δ : Type} {b : Bx} {F F' F1 : Hp} {ι ι' ι1 : List Addr} {sl : Sls} {σ : VS}
theorem PoF.le {r : R (List W)} {Q : V → Hp → Prop} (p : PoF b F ι sl σ r Q) (l : Le F ι F1 ι1) : PoF b F1 ι1 sl σ r Q := by
  cases r with
  | ok a h => exact fun F' ι' H' v us l2 j q => p F' ι' H' v us (l.trans l2) j q
  | exc x h => exact fun F' ι' H' cls d l2 j q => p F' ι' H' cls d (l.trans l2) j q
  | bad => exact p
theorem PoF.bind {rel : Hp → List Addr → α → β → Prop} {r : R α} {f : α → Obs → R (List W)} {Q : V → Hp → Prop} {Q1 : β → Hp → Prop} (p : PoF b F ι sl σ (r.bind f) Q)
    (k : ∀ a h1 F1 ι1 H1 v, Le F ι F1 ι1 → b.J F1 ι1 sl h1 σ H1 → rel F1 ι1 a v → PoF b F1 ι1 sl σ (f a h1) Q → Q1 v H1) : Po b F ι sl σ rel r Q1 := by
  cases r with
  | ok a h => exact fun F1 ι1 H1 v l j q => k a h F1 ι1 H1 v l j q (PoF.le (show PoF b F ι sl σ (f a h) Q from p) l)
  | exc x h => exact p
  | bad => exact p
/-- .. given away -/
theorem PoF.of {k : Bool} {r : R (List W)} {Q : V → Hp → Prop} (p : Po b F ι sl σ (RKd b.K sl σ k) (r.bind fun ws h => .ok (.lst ws) h) Q) : PoF b F ι sl σ r Q := by
  cases r with
  | ok ws h =>
    intro F' ι' H' a us l j n rv
    obtain ⟨j2, l2⟩ := j.frz n
    exact p _ _ H' (.ref a) (l.trans l2) j2 (RKd.of (.lst upd_same (rv.mono l2)))
  | exc x h => exact p
  | bad => exact p
end

/-! ## a comprehension's targets -/
def tPut (X : Cx) (vs : List Nat) (put : W → Sls → Option Sls) : TG := fun v σ H Q => ∃ e0 F ι sl h w s1, J X.K e0 F ι sl h σ H ∧ RV X.K F ι w v ∧ put w sl = some s1 ∧
  ∀ σ1, J X.K e0 F ι s1 h σ1 H → L2.wipe σ1 vs = L2.wipe σ vs → wipeS s1 vs = wipeS sl vs → Q σ1 H
def tPuts (X : Cx) (vs : List Nat) (put : List W → Sls → Option Sls) : TGs := fun us σ H Q => ∃ e0 F ι sl h ws s1, J X.K e0 F ι sl h σ H ∧ RVs X.K F ι ws us ∧ put ws sl = some s1 ∧
  ∀ σ1, J X.K e0 F ι s1 h σ1 H → L2.wipe σ1 vs = L2.wipe σ vs → wipeS s1 vs = wipeS sl vs → Q σ1 H
section
variable {X : Cx} {e : Expr} {es : List Expr}
theorem PG.imp {t t' : TG} (h : PG X e t) (i : ∀ v σ H Q, t' v σ H Q → t v σ H Q) : PG X e t' := ⟨fun pins s σ H v u Q I r q => h.run pins s σ H v u Q I r (i v σ H Q q)⟩
theorem PG.never {t : TG} (n : ∀ v σ H Q, ¬ t v σ H Q) : PG X e t := ⟨fun pins s σ H v u Q I r q => absurd q (n v σ H Q)⟩
theorem PGs.imp {t t' : TGs} (h : PGs X es t) (i : ∀ v σ H Q, t' v σ H Q → t v σ H Q) : PGs X es t' := ⟨fun pins s σ H v u Q I r q => h.run pins s σ H v u Q I r (i v σ H Q q)⟩
theorem PI.imp {tg it : Expr} {t t' : TI} (h : PI X tg it t) (i : ∀ σ H Q, t' σ H Q → t σ H Q) : PI X tg it t' := ⟨fun pins s σ H Q I q => h.run pins s σ H Q I (i σ H Q q)⟩
end
def Tgs.len : Tgs → Nat
  | .nil => 0
  | .cons _ ts => ts.len + 1
theorem assignEach_un {env : Env} : ∀ (t : Tg) (es : List Expr), assignEach (t.un :: es) env = (false, assign t.un env) :: assignEach es env
  | .name .., _ => rfl
  | .tup .., _ => rfl
  | .sub .., _ => rfl
theorem each_len {env : Env} : ∀ (ts : Tgs), (assignEach ts.un env).length = ts.len
  | .nil => rfl
  | .cons t ts => by
    show (assignEach (t.un :: ts.un) env).length = ts.len + 1
    rw [assignEach_un, List.length_cons, each_len ts]
theorem each_star {env : Env} : ∀ (ts : Tgs), (assignEach ts.un env).findIdx? (·.1) = none
  | .nil => rfl
  | .cons t ts => by
    show (assignEach (t.un :: ts.un) env).findIdx? (·.1) = none
    rw [assignEach_un, List.findIdx?_cons, each_star ts]
    rfl
theorem put_len : ∀ {ts : Tgs} {ws : List W} {sl s1 : Sls}, ts.put ws sl = some s1 → ws.length = ts.len
  | .nil, [], _, _, _ => rfl
  | .nil, _ :: _, _, _, h => by cases h
  | .cons t ts, [], _, _, h => by cases h
  | .cons t ts, w :: ws, sl, s1, h => by
    have h : (match t.put w sl with | some s => ts.put ws s | none => none) = some s1 := h
    cases q : t.put w sl with
    | none => rw [q] at h; cases h
    | some s =>
      rw [q] at h
      exact congrArg (· + 1) (put_len h)
mutual
theorem Tg.pput {X : Cx} {c : Oc} (hc : X.calm = true) (hN : X.N = c.N) (nd : X.N.Nodup) {vs : List Nat} : ∀ (t : Tg), t.okC c X.env.scope vs = true → PG X t.un (tPut X vs t.put)
  | .name x i p, ok => by
    obtain ⟨h1, h2⟩ := and_ok (show (decide (c.N[i]? = some x) && (locB X.env.scope x && decide (i ∈ vs))) = true from ok)
    obtain ⟨h2, h3⟩ := and_ok h2
    have hl := locB_ok h2
    have hi : i ∈ vs := of_decide_eq_true h3
    refine PG.imp (pg_name nd (i := i) (by rw [hN]; exact of_decide_eq_true h1) (.inl hl) (.inr hl)) ?_
    rintro v σ H Q ⟨e0, F, ι, sl, h, w, s1, j, r, hp, k⟩
    cases hp
    exact k _ (j.setV r) (wipe_set hi) (wipeS_set hi)
  | .tup ts n p, ok => by
    refine PG.imp (pg_tup hc (Tgs.pput hc hN nd ts ok) (each_len ts) (each_star ts)) ?_
    rintro v σ H Q ⟨e0, F, ι, sl, h, w, s1, j, r, hp, k⟩
    cases w with
    | tup ws =>
      have hp : ts.put ws sl = some s1 := hp
      cases r with
      | tup sq rv => exact ⟨_, _, rfl, sqT_mono j.hr.sub sq, by rw [← rv.length]; exact put_len hp, e0, F, ι, sl, h, ws, s1, j, rv, hp, k⟩
    | _ => cases hp
  | .sub a i p, ok => by cases ok
theorem Tgs.pput {X : Cx} {c : Oc} (hc : X.calm = true) (hN : X.N = c.N) (nd : X.N.Nodup) {vs : List Nat} : ∀ (ts : Tgs), ts.okC c X.env.scope vs = true → PGs X ts.un (tPuts X vs ts.put)
  | .nil, ok => by
    refine PGs.imp pgs_nil ?_
    rintro us σ H Q ⟨e0, F, ι, sl, h, ws, s1, j, r, hp, k⟩
    cases ws with
    | nil =>
      cases r
      cases hp
      exact ⟨rfl, k _ j rfl rfl⟩
    | cons _ _ => cases hp
  | .cons t ts, ok => by
    obtain ⟨o1, o2⟩ := and_ok (show (t.okC c X.env.scope vs && ts.okC c X.env.scope vs) = true from ok)
    refine PGs.imp (pgs_cons (Tg.pput hc hN nd t o1) (Tgs.pput hc hN nd ts o2) (by rw [assignEach_un]; rfl)) ?_
    rintro us σ H Q ⟨e0, F, ι, sl, h, ws, s1, j, r, hp, k⟩
    cases ws with
    | nil => cases hp
    | cons w ws =>
      have hp : (match t.put w sl with | some s => ts.put ws s | none => none) = some s1 := hp
      cases q : t.put w sl with
      | none => rw [q] at hp; cases hp
      | some s =>
        rw [q] at hp
        cases r with
        | cons r1 rr =>
          refine ⟨_, _, rfl, e0, F, ι, sl, h, w, s, j, r1, q, fun σ1 j1 e1 e2 => ⟨e0, F, ι, s, h, ws, s1, j1, rr, hp, fun σ2 j2 e3 e4 => ?_⟩⟩
          exact k σ2 j2 (e3.trans e1) (e4.trans e2)
end

/-! ## a comprehension -/
theorem lc_rd {X : Cx} {Z : WX} {vs : List Nat} {mi : Sls → Obs → R (List W)} {put : W → Sls → Option Sls} {ct : Sls → Obs → R Bool} {me : Sls → Obs → R W} {σ : VS} {H : Hp} {Q : VK}
    (q : tF X Z (fun sl h => match noOwn sl vs with | true => (mi sl h).bind fun xs h => lcGo (fun x => put x (wipeS sl vs)) ct me xs [] h | false => .bad) σ H Q) :
    tLc (tWk X Z mi) (tPut X vs put) (tT X nox ct) (tE X nox false me) vs σ H Q := by
  obtain ⟨e0, F, ι, sl, h, j, p⟩ := q
  cases hno : noOwn sl vs with
  | false => simp only [hno] at p; exact False.elim p
  | true =>
    simp only [hno] at p
    refine ⟨e0, F, ι, sl, h, j, p.bind fun xs h1 F1 ι1 H1 t l1 j1 wk p1 => ?_⟩
    intro Dd hD
    obtain ⟨n0, nh, ns⟩ := j1.none0 hD
    let Go : Nat → Nat → Hp → Prop := fun i m H => m = xs.length - i ∧ i ≤ xs.length ∧ ∃ F2 ι2 h2 acc us, Le F1 ι1 F2 ι2 ∧ J X.K (e0.keep Dd (.lst us)) F2 ι2 (wipeS sl vs) h2 (L2.wipe σ vs) H ∧ RVs X.K F2 ι2 acc us ∧
      PoF (bx X Z e0) F2 ι2 sl σ (lcGo (fun x => put x (wipeS sl vs)) ct me (xs.drop i) acc h2) Q
    refine ⟨Go, ⟨xs.length, by simp, Nat.zero_le _, F1, ι1, h1, [], [], .refl, (j1.hold hD).wipe vs, .nil, p1⟩, ?_⟩
    rintro i m H2 ⟨rfl, hi, F2, ι2, h2, acc, us, l2, j2, ra, p2⟩
    have w2 := wk i _ F2 ι2 _ h2 _ H2 l2 j2
    by_cases hlt : i < xs.length
    · right
      have ei : xs[i]? = some xs[i] := List.getElem?_eq_getElem hlt
      obtain ⟨go, yl⟩ := w2.2 _ ei
      refine ⟨go, fun H => Go (i + 1) (xs.length - (i + 1)) H, fun H' q => ⟨_, by omega, q⟩, fun x H' y => ?_⟩
      obtain ⟨F3, ι3, l3, j3, rx⟩ := yl x H' y
      rw [List.drop_eq_getElem_cons hlt] at p2
      unfold lcGo at p2
      cases hp : put xs[i] (wipeS sl vs) with
      | none => simp only [hp] at p2; exact False.elim p2
      | some s1 =>
        simp only [hp] at p2
        refine ⟨_, F3, ι3, _, h2, _, s1, j3, rx, hp, fun σ2 j4 e1 e2 => ⟨e1.trans (wipe_wipe σ vs), ?_⟩⟩
        have e1' : L2.wipe σ2 vs = L2.wipe σ vs := e1.trans (wipe_wipe σ vs)
        have e2' : wipeS s1 vs = wipeS sl vs := e2.trans (wipeS_wipeS sl vs)
        refine ⟨_, F3, ι3, s1, h2, j4, ?_⟩
        cases hc : ct s1 h2 with
        | bad => simp only [hc] at p2; exact False.elim p2
        | exc x h3 => simp only [hc] at p2; exact False.elim p2
        | ok b h3 =>
          intro F4 ι4 H4 b' l4 j5 eb
          subst eb
          cases b with
          | false =>
            simp only [hc] at p2
            simp only [Bool.false_eq_true, if_false]
            have j6 := j5.wipe vs
            rw [e1', e2'] at j6
            exact ⟨rfl, hlt, F4, ι4, h3, acc, us, l2.trans (l3.trans l4), j6, ra.mono (l3.trans l4), p2.le (l3.trans l4)⟩
          | true =>
            simp only [hc] at p2
            simp only [if_true]
            refine ⟨_, F4, ι4, s1, h3, j5, ?_⟩
            cases he : me s1 h3 with
            | bad => simp only [he] at p2; exact False.elim p2
            | exc x h4 => simp only [he] at p2; exact False.elim p2
            | ok y h4 =>
              simp only [he] at p2
              intro F5 ι5 H5 v l5 j6 rv
              obtain ⟨q1, q2, q3, q4⟩ := j6.hd Dd _ upd_same
              cases hd : decide (acc.length < sizeLine) with
              | false => simp only [hd] at p2; exact False.elim p2
              | true =>
                simp only [hd] at p2
                have j7 := (j6.wipe vs).reHold (o' := .lst (us ++ [v])) n0
                rw [e1', e2'] at j7
                have l35 := l3.trans (l4.trans l5)
                exact ⟨us, q1, by rw [← ra.length]; exact of_decide_eq_true hd, rfl, hlt, F5, ι5, h4, acc ++ [y], us ++ [v], l2.trans l35, j7, (ra.mono l35).append (.cons rv .nil), p2.le l35⟩
    · left
      refine ⟨w2.1 (by omega), ?_⟩
      rw [List.drop_eq_nil_of_le (by omega)] at p2
      unfold lcGo at p2
      obtain ⟨j3, nw⟩ := j2.unhold n0 nh
      exact p2 F2 ι2 H2 Dd us .refl (j1.unwipe hno l2 j3) ⟨nw.at_, nw.f, nw.i, nw.o, nw.hd, ns⟩ ra
end Ev

set_option maxHeartbeats 1000000
namespace Ev
open PySem PySem.Spec PyProof.Rows L2

/-! ## names of built-ins -/
theorem bt_boot : ∀ b : Bt, bootBuiltins b.nm = some b.val := by
  intro b
  cases b <;> decide +kernel
theorem bt_name : ∀ b : Bt, b.nm ≠ "__name__" ∧ (b.nm == ("__debug__" : Str)) = false := by
  intro b
  cases b <;> exact ⟨by decide +kernel, by decide +kernel⟩
theorem ty_boot : ∀ t : Ty, t.isB = true → bootBuiltins t.nm = some (.type t.s) := by
  intro t
  cases t <;> first | (intro h; cases h; done) | (intro _; decide +kernel)
theorem ty_name : ∀ t : Ty, t.nm ≠ "__name__" ∧ (t.nm == ("__debug__" : Str)) = false := by
  intro t
  cases t <;> exact ⟨by decide +kernel, by decide +kernel⟩
section
variable {X : Cx} {x : Str} {p pos : Pos} {e : Expr} {es : List Expr} {t : TA}
/-- a built-in, function or class, called -/
theorem pe_bt (b : Bt) (n : X.calm = true) (g : X.A.guards = some []) (u : X.A.units + 70 < cLine) (hg : Gl X b.nm) (hm : X.mg b.nm = none) (ha : PA X (e :: es) t) (he : starEach (e :: es) X.env = (false, eval e X.env) :: starEach es X.env)
    (hpl : (backTo pos (starEach es X.env)).any (·.1) = false) : PE X (.Call (.Name b.nm p) (e :: es) [] pos) (tCB (rBlt X.K b) t) := by
  have c := blt_ok (X := X) b n g u
  have bb := bt_boot b
  obtain ⟨n1, n2⟩ := bt_name b
  cases hb : b.val with
  | builtin id =>
    rw [hb] at c bb
    exact pe_callB c hg hm bb ha n1 n2 he hpl
  | type id =>
    rw [hb] at c bb
    exact pe_callTy c hg hm bb ha n1 n2 he hpl
  | _ => cases b <;> cases hb
end
theorem isTy_ty {K : PySem.W.Frag} (a b : Ty) : PySem.W.kitOne K (.type a.s) (.type b.s) = some (isTy a b) := kit_ty (kit_is a b)
theorem isTy_two {K : PySem.W.Frag} (a b c : Ty) : PySem.W.kitAny K (.type a.s) [.type b.s, .type c.s] = some (isTy a b || isTy a c) := by
  refine kitAny_cons (isTy_ty a b) (fun h => ?_) (fun h => by rw [h]; rfl)
  rw [h, Bool.false_or]
  exact kitAny_cons (isTy_ty a c) (fun h => by rw [h]; exact kitAny_nil) (fun h => h)

/-- a dict's item -/
def rDic : R2 := fun x y H Q => ∃ a v, x = .ref a ∧ DGet H a y (some v) ∧ Q v H
theorem ix_dic {X : Cx} (hu : X.A.units + 1 < cLine) : IxR X rDic := by
  intro value slice pins s σ H x y v u Q I rx ry h hs
  obtain ⟨a, z, rfl, g, q⟩ := h
  cases rx
  exact tail_any (dict_typeIs I g) PySem.F.slot_dict_getitem.lookup (d_getItem hu I g ry fun w' s' I' r' => ⟨z, H, I', r', q⟩) hs
/-- a subscript -/
theorem ix_of {K : PySem.W.Frag} {e0 : Ent} {F : Hp} {ι : List Addr} {sl : Sls} {h : Obs} {σ : VS} {H : Hp} {x y w : W} {v u : V} {Q : VK} (j : J K e0 F ι sl h σ H) (r : RN K F ι H x v) (r2 : RV K F ι y u) (e : idxW x y = some w)
    (k : ∀ z, RV K F ι w z → Q z H) : rIx K v u H Q ∨ rDic v u H Q := by
  cases r2 with
  | int i =>
    left
    cases x with
    | lst ws =>
      obtain ⟨a, vs, rfl, ha, rv⟩ := r.lst j.hr.sub
      obtain ⟨z, e1, rz⟩ := rv.atI (i := i) e
      exact .inl ⟨a, vs, i, z, rfl, rfl, .inl (.inl ha), e1, k z rz⟩
    | tup ws =>
      have r1 := r.rv (fun _ z => by cases z)
      cases r1 with
      | tup sq rv =>
        obtain ⟨z, e1, rz⟩ := rv.atI (i := i) e
        exact .inr (.inl ⟨_, _, i, z, rfl, rfl, sqT_mono j.hr.sub sq, e1, k z rz⟩)
    | scr ns =>
      have r1 := r.rv (fun _ z => by cases z)
      cases r1 with
      | scr sq =>
        have e : (L2.atI ns i).map W.int = some w := e
        have e2 : L2.atI (ns.map W.int) i = some w := by
          unfold L2.atI at e ⊢
          rw [List.length_map]
          cases q : ixN ns.length i with
          | none => rw [q] at e; cases e
          | some m => rw [q] at e; show (ns.map W.int)[m]? = some w; rw [List.getElem?_map]; exact e
        obtain ⟨z, e1, rz⟩ := (RVs.ints (K := K) (F := F) (ι := ι) ns).atI (i := i) e2
        exact .inl ⟨_, _, i, z, rfl, rfl, sqL_mono j.hr.sub sq, e1, k z rz⟩
    | str s =>
      cases r.str
      have e : (match lineN s.length with | true => (L2.atI s.cps.toList i).map fun c => W.str ⟨#[c]⟩ | false => none) = some w := e
      split at e
      · rename_i hl
        cases q : L2.atI s.cps.toList i with
        | none => rw [q] at e; cases e
        | some c =>
          rw [q] at e
          cases e
          exact .inr (.inr ⟨s, i, c, rfl, rfl, lineN_ok hl, q, k _ (.str _)⟩)
      · cases e
    | _ => cases e
  | str s =>
    right
    cases x with
    | dic kvs =>
      obtain ⟨p, ks, rfl, hp, c⟩ := r.dic
      obtain ⟨z, e1, rz⟩ := (c.get (s := s)).1 w e
      exact ⟨p, z, rfl, .inl ⟨ks, .inr s, .inl hp, rfl, e1.symm⟩, k z rz⟩
    | _ => cases e
  | _ => cases e

/-! ## the readings hold -/
section
variable {X : Cx} {Z : WX} {D : Dn} {c : Oc}
/-- calls -/
theorem call_pe (n : Cn X Z D c) {i : Nat} {x : Str} {xp p : Pos} {es : Es} (hf : c.fs i = some x) (hg : glB X.env.scope x = true) (hd : nmB x = true) (ha : PA X es.un (tA X Z false (es.den D false))) :
    PE X (.Call (.Name x xp) es.un [] p) (tE X Z false fun σ h => (es.den D false σ h).bind fun ws h => D.call i ws h) := by
  obtain ⟨g, fd, ps, k, m1, m2, m3, m4, m5, m6, _⟩ := n.fn i x hf
  refine ⟨fun pins s σ H Q I q => ?_⟩
  refine wpAny_Call_Name_kw (ld_glob I (glB_ok hg) m1 ?_ (nmB_ok hd).1)
  obtain ⟨e0, F, ι, sl, h, j, q⟩ := q
  have step : ∀ {us : List Value} {s1 : Shared} {H1 : Hp} {vs : List V} {h1 : Obs} {F1 : Hp} {ι1 : List Addr} {ws : List W}, Inv X pins σ H1 s1 → Vals vs us → J X.K e0 F1 ι1 sl h1 σ H1 → RVs X.K F1 ι1 ws vs →
      Po (bx X Z e0) F1 ι1 sl σ (RKd X.K sl σ false) (D.call i ws h1) Q → wpAny (model X.prog X.w) X.A (call (.ref g) us) (EP X pins σ Q) X.xe s1 := fun {us s1 H1 vs h1 F1 ι1 ws} I1 r1 j1 rv q1 => by
    have hl : vs.length = ps.length := by
      rcases n.ar i ws h1 with z | z
      · rw [z] at q1; exact False.elim q1
      · rw [← rv.length, z, m4]
    have hb := m3 s1 us I1.kIn (by rw [List.append_nil, ← r1.length]; exact hl)
    rw [List.append_nil] at hb
    exact run_w n.tk m5 n.gd m6 I1 hb r1 hl j1 rv q1
  cases es with
  | nil => exact PySem.W.callWith_K0 I.kIn m2 (step (us := []) I .nil j .nil q)
  | cons e es =>
    refine PySem.W.callWith_K (h₀ := X.base) I.ok.mod.kin m2 (thn (ha.run p pins s σ H _ I ⟨e0, F, ι, sl, h, j, q.bind fun ws h1 F1 ι1 H1 vs l1 j1 r1 p1 => (⟨h1, F1, ι1, ws, j1, r1.rvs, p1⟩ :
      ∃ h1 F1 ι1 ws, J X.K e0 F1 ι1 sl h1 σ H1 ∧ RVs X.K F1 ι1 ws vs ∧ Po (bx X Z e0) F1 ι1 sl σ (RKd X.K sl σ false) (D.call i ws h1) Q)⟩) fun us s1 ⟨vs, H1, I1, r1, h1, F1, ι1, ws, j1, rv, q1⟩ => ⟨I1.kIn, step (us := us) I1 r1 j1 rv q1⟩)
      (star_un e es.un) (plain_un p es)
end
/-- keyword arguments -/
def tK (X : Cx) (Z : WX) (ns : List Str) (m : Sls → Obs → R (List (Str × W))) : TA := fun σ H Q => ∃ e0 F ι sl h, J X.K e0 F ι sl h σ H ∧ Po (bx X Z e0) F ι sl σ (fun F ι ks vs => ks.map Prod.fst = ns ∧ RVs X.K F ι (ks.map Prod.snd) vs) (m sl h) Q
theorem PK.imp {X : Cx} {ks : List Keyword} {t t' : TA} (h : PK X ks t) (i : ∀ σ H Q, t' σ H Q → t σ H Q) : PK X ks t' := ⟨fun pos pins s σ H Q I q => h.run pos pins s σ H Q I (i σ H Q q)⟩
theorem ks_each {env : Env} (p : Pos) : ∀ ks : Ks, (backToKw p (keywordEach ks.un env)).all (·.1.isSome) = true ∧ (backToKw p (keywordEach ks.un env)).filterMap (·.1) = ks.names ∧ (backToKw p (keywordEach ks.un env)).any (·.1.isNone) = false
  | .nil => ⟨rfl, rfl, rfl⟩
  | .cons x e q ks => by
    obtain ⟨h1, h2, h3⟩ := ks_each p ks
    have z : backToKw p (keywordEach (Ks.un (.cons x e q ks)) env) = (some x, (do let v ← eval e.un env; standAt p; pure v)) :: backToKw p (keywordEach ks.un env) := rfl
    rw [z]
    refine ⟨?_, ?_, ?_⟩
    · rw [List.all_cons, h1]; rfl
    · rw [List.filterMap_cons, h2]; rfl
    · rw [List.any_cons, h3]; rfl
theorem es_len {D : Dn} {k : Bool} : ∀ {es : Es} {σ : Sls} {h h' : Obs} {ws : List W}, es.den D k σ h = .ok ws h' → ws.length = es.len
  | .nil, σ, h, h', ws, z => by cases z; rfl
  | .cons e es, σ, h, h', ws, z => by
    have z : ((e.den D k σ h).bind fun w h => (es.den D k σ h).bind fun ws h => R.ok (w :: ws) h) = .ok ws h' := z
    cases q1 : e.den D k σ h with
    | ok w h1 =>
      rw [q1] at z
      have z : ((es.den D k σ h1).bind fun ws h => R.ok (w :: ws) h) = .ok ws h' := z
      cases q2 : es.den D k σ h1 with
      | ok us h2 =>
        rw [q2] at z
        cases z
        exact congrArg (· + 1) (es_len q2)
      | exc x h2 => rw [q2] at z; cases z
      | bad => rw [q2] at z; cases z
    | exc x h2 => rw [q1] at z; cases z
    | bad => rw [q1] at z; cases z
theorem Po.strong {α β : Type} {b : Bx} {F : Hp} {ι : List Addr} {sl : Sls} {σ : VS} {rel : Hp → List Addr → α → β → Prop} {r : R α} {Q : β → Hp → Prop} {C : α → Prop} (hc : ∀ a h, r = .ok a h → C a) (p : Po b F ι sl σ (fun F ι a v => rel F ι a v ∧ C a) r Q) : Po b F ι sl σ rel r Q := by
  cases r with
  | ok a h => exact fun F' ι' H' v l j q => p F' ι' H' v l j ⟨q, hc a h rfl⟩
  | exc x h => exact p
  | bad => exact p
theorem callK_pe {X : Cx} {Z : WX} {D : Dn} {c : Oc} (n : Cn X Z D c) {i : Nat} {x : Str} {xp p : Pos} {es : Es} {ks : Ks} (hf : c.fs i = some x) (hg : glB X.env.scope x = true) (hd : nmB x = true) (hk : (i, es.len, ks.names) ∈ c.kws) (ha : PA X es.un (tA X Z false (es.den D false))) (hb : PK X ks.un (tK X Z ks.names (ks.den D))) :
    PE X (.Call (.Name x xp) es.un ks.un p) (tE X Z false fun σ h => (es.den D false σ h).bind fun ws h => (ks.den D σ h).bind fun zs h => match kwPut (D.par i) ws zs with | some us => D.call i us h | none => .bad) := by
  obtain ⟨g, fd, ps, k, m1, m2, m3, m4, m5, m6, m7⟩ := n.fn i x hf
  refine ⟨fun pins s σ H Q I q => ?_⟩
  refine wpAny_Call_Name_kw (ld_glob I (glB_ok hg) m1 ?_ (nmB_ok hd).1)
  obtain ⟨e0, F, ι, sl, h, j, q⟩ := q
  obtain ⟨k1, k2, k3⟩ := ks_each (env := X.env) p ks
  have step : ∀ {us zs : List Value} {s1 : Shared} {H1 : Hp} {vs ys : List V} {h1 : Obs} {F1 : Hp} {ι1 : List Addr} {ws : List W} {kw : List (Str × W)}, Inv X pins σ H1 s1 → Vals vs us → Vals ys zs → us.length = es.len → J X.K e0 F1 ι1 sl h1 σ H1 → RVs X.K F1 ι1 ws vs → kw.map Prod.fst = ks.names → RVs X.K F1 ι1 (kw.map Prod.snd) ys →
      Po (bx X Z e0) F1 ι1 sl σ (RKd X.K sl σ false) (match kwPut (D.par i) ws kw with | some us => D.call i us h1 | none => .bad) Q → wpAny (model X.prog X.w) X.A (call (.ref g) us (ks.names.zip zs)) (EP X pins σ Q) X.xe s1 := fun {us zs s1 H1 vs ys h1 F1 ι1 ws kw} I1 r1 r2 hl j1 rv en ry q1 => by
    have lz : zs.length = ks.names.length := by rw [← r2.length, ← ry.length, List.length_map, ← en, List.length_map]
    obtain ⟨as, e1, bnd⟩ := m7 _ _ hk us zs hl lz
    cases hp : kwPut (D.par i) ws kw with
    | none => rw [hp] at q1; exact False.elim q1
    | some as1 =>
      rw [hp] at q1
      rw [m4] at hp
      obtain ⟨as2, e2, r3⟩ := kwPut_rel rv.pair (zip_pair ry.pair) hp
      rw [en] at e2
      obtain ⟨as3, e3, r4⟩ := kwPut_rel (rel := RelV) r1 (zip_two (ks := ks.names) r2) e2
      rw [e1] at e3
      cases e3
      have rw1 := RVs.unpair r3
      refine run_w n.tk m5 n.gd m6 I1 (bnd s1) r4 ?_ j1 rw1 q1
      have q1 : Po (bx X Z e0) F1 ι1 sl σ (RKd X.K sl σ false) (D.call i as1 h1) Q := q1
      rcases n.ar i as1 h1 with z | z
      · rw [z] at q1; exact False.elim q1
      · rw [← rw1.length, z, m4]
  have kws : ∀ {us : List Value} {s1 : Shared} {H1 : Hp} {vs : List V} {h1 : Obs} {F1 : Hp} {ι1 : List Addr} {ws : List W}, Inv X pins σ H1 s1 → Vals vs us → us.length = es.len → J X.K e0 F1 ι1 sl h1 σ H1 → RVs X.K F1 ι1 ws vs →
      Po (bx X Z e0) F1 ι1 sl σ (RKd X.K sl σ false) ((ks.den D sl h1).bind fun zs h => match kwPut (D.par i) ws zs with | some us => D.call i us h | none => .bad) Q →
      wpAny (model X.prog X.w) X.A (evalAll ((backToKw p (keywordEach ks.un X.env)).map (·.2))) (fun zs s2 => X.K.In s2.heap ∧ wpAny (model X.prog X.w) X.A (call (.ref g) us (((backToKw p (keywordEach ks.un X.env)).filterMap (·.1)).zip zs)) (EP X pins σ Q) X.xe s2) X.xe s1 := fun {us s1 H1 vs h1 F1 ι1 ws} I1 r1 hl j1 rv q1 => by
    rw [k2]
    refine thn (hb.run p pins s1 σ H1 _ I1 ⟨e0, F1, ι1, sl, h1, j1, q1.bind fun kw h2 F2 ι2 H2 ys l2 j2 r2 q2 => (⟨h2, F2, ι2, kw, j2, rv.mono l2, r2, q2⟩ :
      ∃ h2 F2 ι2 kw, J X.K e0 F2 ι2 sl h2 σ H2 ∧ RVs X.K F2 ι2 ws vs ∧ (kw.map Prod.fst = ks.names ∧ RVs X.K F2 ι2 (kw.map Prod.snd) ys) ∧ Po (bx X Z e0) F2 ι2 sl σ (RKd X.K sl σ false) (match kwPut (D.par i) ws kw with | some us => D.call i us h2 | none => .bad) Q)⟩) fun zs s2 ⟨ys, H2, I2, rz, h2, F2, ι2, kw, j2, rv2, ⟨en, ry⟩, q2⟩ => ⟨I2.kIn, step I2 r1 rz hl j2 rv2 en ry q2⟩
  cases es with
  | nil => exact PySem.W.callWith_KW0 (h₀ := X.base) I.ok.mod.kin m2 k1 (kws (us := []) I .nil rfl j .nil q) (by rw [k3]; rfl)
  | cons e es =>
    refine PySem.W.callWith_KW (h₀ := X.base) I.ok.mod.kin m2 k1 (thn (ha.run p pins s σ H _ I ⟨e0, F, ι, sl, h, j, Po.strong (C := fun ws => ws.length = es.len + 1) (fun a h' z => es_len z) (q.bind fun ws h1 F1 ι1 H1 vs l1 j1 r1 p1 => (⟨h1, F1, ι1, ws, j1, r1.1.rvs, r1.2, p1⟩ :
      ∃ h1 F1 ι1 ws, J X.K e0 F1 ι1 sl h1 σ H1 ∧ RVs X.K F1 ι1 ws vs ∧ ws.length = es.len + 1 ∧ Po (bx X Z e0) F1 ι1 sl σ (RKd X.K sl σ false) ((ks.den D sl h1).bind fun zs h => match kwPut (D.par i) ws zs with | some us => D.call i us h | none => .bad) Q))⟩)
      fun us s1 ⟨vs, H1, I1, r1, h1, F1, ι1, ws, j1, rv, hl, q1⟩ => kws (us := us) I1 r1 (by rw [← r1.length, ← rv.length]; exact hl) j1 rv q1) ?_ (star_un e es.un)
    show ((backTo p (starEach (e.un :: es.un) X.env)).any (·.1) || _) = false
    rw [k3, Bool.or_false]
    have z := plain_un (env := X.env) p (.cons e es)
    exact z
theorem lc_of {X : Cx} {Z : WX} {D : Dn} {c : Oc} (n : Cn X Z D c) {e : E} {tg : Tg} {it : It} {t : Eo} {vs : List (Str × Nat)} {sc : Scope} {p : Pos} (o1 : blkC c.N X.env.scope sc vs = true) (o4 : tg.okC c (relS sc X.env.scope) (ixs vs) = true)
    (hi : PI X tg.un it.un (tWk X Z (it.den D)))
    (ht : ∀ (s : Shared) (H : Hp) (C : Addr) (cl : List (Str × Addr)) (fp : List Addr), PTs (X.blk s H sc (compEnvC sc cl C X.env) fp) t.uns (tT (X.blk s H sc (compEnvC sc cl C X.env) fp) nox (t.tst D)))
    (he : ∀ (s : Shared) (H : Hp) (C : Addr) (cl : List (Str × Addr)) (fp : List Addr), PE (X.blk s H sc (compEnvC sc cl C X.env) fp) e.un (tE (X.blk s H sc (compEnvC sc cl C X.env) fp) nox false (e.den D false))) :
    PE X (E.un (.lc e tg it t vs sc p)) (tF X Z (fun σ h => match noOwn σ (ixs vs) with
      | true => (it.den D σ h).bind fun xs h => lcGo (fun x => tg.put x (wipeS σ (ixs vs))) (fun σ h => t.tst D σ h) (fun σ h => e.den D false σ h) xs [] h
      | false => .bad)) := by
  refine PE.imp (pe_lc (wi := tWk X Z (fun σ h => it.den D σ h)) (g := tPut X (ixs vs) tg.put) (tt := tT X nox (fun σ h => t.tst D σ h)) (te := tE X nox false (fun σ h => e.den D false σ h)) n.calm n.nd hi (blkOk_by (by rw [n.N]; exact o1))
    (fun s H C cl fp => Tg.pput (X := X.blk s H sc (compEnvC sc cl C X.env) fp) n.calm n.N n.nd tg o4) ht he (foldedI_un it)) ?_
  intro σ H Q q
  exact lc_rd q
theorem in_kd {K : PySem.W.Frag} {d : Addr} {kvs : List (Str × W)} {s : Str} (look : (∀ a, dicGet kvs s = some a → ∃ u v, PySem.W.nsIn K d s = some (some u) ∧ RelV v u ∧ ∀ F ι, RV K F ι a v) ∧ (dicGet kvs s = none → PySem.W.nsIn K d s = some none)) :
    ∃ r, PySem.W.nsIn K d s = some r ∧ r.isSome = (dicGet kvs s).isSome := by
  cases q : dicGet kvs s with
  | none => exact ⟨none, look.2 q, rfl⟩
  | some a =>
    obtain ⟨u, v, e, _⟩ := look.1 a q
    exact ⟨some u, e, rfl⟩
theorem es_un_len : ∀ es : Es, es.un.length = es.len
  | .nil => rfl
  | .cons e es => congrArg (· + 1) (es_un_len es)
/-- the pairs of a display -/
def prs (X : Cx) (Z : WX) (D : Dn) : List (Str × Nat × Pos) → Es → List (TE × TE)
  | k :: ks, .cons e es => (tC (.str k.1), tE X Z false (e.den D false)) :: prs X Z D ks es
  | _, _ => []
def prV (ks : List (Str × Nat × Pos)) (vs : List V) : List (V × V) := ((ks.map fun k => k.1).zip vs).map fun p => (V.str p.1, p.2)
theorem prs_rd {X : Cx} {Z : WX} {D : Dn} {e0 : Ent} {sl : Sls} {σ : VS} : ∀ (ks : List (Str × Nat × Pos)) (es : Es), ks.length = es.len → ∀ {F : Hp} {ι : List Addr} {h : Obs} {H : Hp} {Q : List V → Hp → Prop} {Q' : List (V × V) → Hp → Prop}, J X.K e0 F ι sl h σ H →
    Po (bx X Z e0) F ι sl σ (fun F ι ws vs => RVs X.K F ι ws vs) (es.den D false sl h) Q → (∀ vs H2, vs.length = ks.length → Q vs H2 → Q' (prV ks vs) H2) → tPairs (prs X Z D ks es) σ H Q'
  | [], .nil, _, F, ι, h, H, Q, Q', j, p, f => f [] H rfl (p.ret j .nil)
  | k :: ks, .cons e es, hl, F, ι, h, H, Q, Q', j, p, f => by
    refine ⟨e0, F, ι, sl, h, j, Po.bind (rel2 := fun F ι ws vs => RVs X.K F ι ws vs) (Q := Q) p fun w h1 F1 ι1 H1 v l1 j1 r1 p1 => ?_⟩
    exact prs_rd ks es (Nat.succ.inj hl) (Q := fun vs H2 => Q (v :: vs) H2) j1 (Po.bind (rel2 := fun F ι ws vs => RVs X.K F ι ws vs) (Q := Q) p1 fun ws h2 F2 ι2 H2 vs l2 j2 r2 p2 => p2.ret j2 (.cons (r1.mono l2) r2))
      fun vs H2 hl q => f (v :: vs) H2 (by rw [List.length_cons, hl]; rfl) q
theorem dic_or (o : Option W) : (∃ kvs, o = some (.dic kvs)) ∨ ∀ kvs, o ≠ some (.dic kvs) := by
  cases o with
  | none => exact .inr fun _ z => by cases z
  | some w =>
    cases w with
    | dic kvs => exact .inl ⟨kvs, rfl⟩
    | _ => exact .inr fun _ z => by cases z
/-- a display's dict -/
theorem fold_rd {K : PySem.W.Frag} {F : Hp} {ι : List Addr} : ∀ (ks : List Str) {ws : List W} {vs : List V} {d : List (Str × W)} {t : List (L2.Key × V)}, RVs K F ι ws vs → RKv K F ι d t →
    RKv K F ι ((ks.zip ws).foldl (fun d p => dicPut d p.1 p.2) d) (mergeK t ((ks.zip vs).map fun p => (Sum.inr p.1, p.2)))
  | [], _, _, _, _, _, c => c
  | _ :: _, _, _, _, _, .nil, c => c
  | k :: ks, _, _, _, _, .cons r rr, c => fold_rd ks rr (c.put r)
mutual
theorem E.pe {D : Dn} {c : Oc} : ∀ (e : E) (X : Cx) (Z : WX) (n : Cn X Z D c) (k : Bool), e.okE c X.env.scope = true → PE X e.un (tE X Z k (e.den D k))
  | .name x i p, X, Z, n, k, ok => by
    obtain ⟨h1, h2⟩ := and_ok (show (decide (c.N[i]? = some x) && (visB X.env.scope x && nmB x)) = true from ok)
    obtain ⟨h2, h3⟩ := and_ok h2
    refine PE.imp (pe_var (by rw [n.N]; exact of_decide_eq_true h1) (visB_ok h2) (nmB_ok h3).1 (nmB_ok h3).2) ?_
    rintro σ H Q ⟨e0, F, ι, sl, h, j, q⟩
    obtain ⟨w, e, q⟩ := q.opt
    unfold slotV at e
    split at e
    · rename_i w' hw
      cases e
      obtain ⟨v, e1, rv⟩ := j.at_ i _ hw
      exact ⟨v, e1, q.ret j (RKd.of rv)⟩
    · cases e
  | .peek x i p, X, Z, n, k, ok => by
    obtain ⟨h1, h2⟩ := and_ok (show (decide (c.N[i]? = some x) && (visB X.env.scope x && nmB x)) = true from ok)
    obtain ⟨h2, h3⟩ := and_ok h2
    refine PE.imp (pe_var (by rw [n.N]; exact of_decide_eq_true h1) (visB_ok h2) (nmB_ok h3).1 (nmB_ok h3).2) ?_
    rintro σ H Q ⟨e0, F, ι, sl, h, j, q⟩
    cases k with
    | false => exact False.elim q
    | true =>
      have q : Po (bx X Z e0) F ι sl σ (RKd X.K sl σ true) (.opt (slotP sl i) h) Q := q
      obtain ⟨w, e, q⟩ := q.opt
      unfold slotP at e
      split at e
      · rename_i w' hw
        cases e
        obtain ⟨v, e1, rv⟩ := j.at_ i _ hw
        exact ⟨v, e1, q.ret j (RKd.of rv)⟩
      · rename_i ws hw
        cases e
        obtain ⟨a, vs, e1, e2, rv, _⟩ := j.at_ i _ hw
        exact ⟨.ref a, e1, q.ret j (.inr ⟨i, ws, a, rfl, rfl, hw, e1⟩)⟩
      · cases e
  | .cst x p, X, Z, n, k, ok => by
    obtain ⟨h1, h2⟩ := and_ok (show (glB X.env.scope x && nmB x) = true from ok)
    refine ⟨fun pins s σ H Q I q => ?_⟩
    obtain ⟨e0, F, ι, sl, h, j, q⟩ := q
    obtain ⟨w, e, q⟩ := q.opt
    obtain ⟨v, u, e1, e2, e3⟩ := n.cst x w e
    exact (pe_glob (glB_ok h1) e1 e2 (nmB_ok h2).1).run pins s σ H Q I (q.ret j (RKd.of (e3 F ι)))
  | .dget x xp i p, X, Z, n, k, ok => by
    obtain ⟨h1, h2⟩ := and_ok (show (glB X.env.scope x && (nmB x && i.okE c X.env.scope)) = true from ok)
    obtain ⟨h2, h3⟩ := and_ok h2
    have hi := E.pe i X Z n false h3
    rcases dic_or (D.cst x) with ⟨kvs, hx⟩ | hx
    · obtain ⟨d, es, m, hm, KD, look⟩ := n.dic x kvs hx
      refine PE.imp (pe_ix ix_kdict (pe_glob (v := .ref d) (glB_ok h1) hm rfl (nmB_ok h2).1) hi (fun o v => plainIx_un i o v)) ?_
      rintro σ H Q ⟨e0, F, ι, sl, h, j, q⟩
      simp only [E.den, hx] at q
      refine ⟨e0, F, ι, sl, h, j, q.bind fun y h1 F1 ι1 H1 v l1 j1 r1 q1 => ?_⟩
      cases r1 with
      | str s =>
        obtain ⟨w, e, q2⟩ := Po.opt q1
        obtain ⟨u, v, hn, rel, rv⟩ := (look s).1 w e
        exact ⟨d, s, v, rfl, rfl, ⟨es, m, u, KD.at_, KD.lit, hn, rel⟩, q2.ret j1 (RKd.of (rv F1 ι1))⟩
      | _ => exact False.elim q1
    · refine PE.never fun σ H Q ⟨e0, F, ι, sl, h, j, q⟩ => ?_
      simp only [E.den] at q
      exact q
  | .din ng a x xp p, X, Z, n, k, ok => by
    obtain ⟨h1, h2⟩ := and_ok (show (glB X.env.scope x && (nmB x && a.okE c X.env.scope)) = true from ok)
    obtain ⟨h2, h3⟩ := and_ok h2
    have ha := E.pe a X Z n false h3
    rcases dic_or (D.cst x) with ⟨kvs, hx⟩ | hx
    · obtain ⟨d, es, m, hm, KD, look⟩ := n.dic x kvs hx
      have pn : PE X (.Name x xp) (tC (.ref d)) := pe_glob (v := .ref d) (glB_ok h1) hm rfl (nmB_ok h2).1
      cases ng with
      | false =>
        refine PE.imp (pe_cmpR (op_in_kd KD) ha pn rfl) ?_
        rintro σ H Q ⟨e0, F, ι, sl, h, j, q⟩
        simp only [E.den, hx] at q
        refine ⟨e0, F, ι, sl, h, j, q.bind fun y h1 F1 ι1 H1 v l1 j1 r1 q1 => ?_⟩
        cases r1 with
        | str s =>
          obtain ⟨r, hr, er⟩ := in_kd (look s)
          exact ⟨s, r, rfl, rfl, hr, by rw [er]; exact Po.ret q1 j1 (RKd.of (by rw [Bool.bne_false]; exact .bl _))⟩
        | _ => exact False.elim q1
      | true =>
        refine PE.imp (pe_cmpR (op_notIn_kd KD) ha pn rfl) ?_
        rintro σ H Q ⟨e0, F, ι, sl, h, j, q⟩
        simp only [E.den, hx] at q
        refine ⟨e0, F, ι, sl, h, j, q.bind fun y h1 F1 ι1 H1 v l1 j1 r1 q1 => ?_⟩
        cases r1 with
        | str s =>
          obtain ⟨r, hr, er⟩ := in_kd (look s)
          exact ⟨s, r, rfl, rfl, hr, by rw [er]; exact Po.ret q1 j1 (RKd.of (by rw [Bool.bne_true]; exact .bl _))⟩
        | _ => exact False.elim q1
    · refine PE.never fun σ H Q ⟨e0, F, ι, sl, h, j, q⟩ => ?_
      simp only [E.den] at q
      exact q
  | .dicH ks es p, X, Z, n, k, ok => by
    obtain ⟨h1, h2⟩ := and_ok (show (decide (ks.length = es.len) && (decide (1 ≤ ks.length) && (decide (ks.length ≤ 15) && es.okE c X.env.scope))) = true from ok)
    obtain ⟨h2, h3⟩ := and_ok h2
    obtain ⟨h3, h4⟩ := and_ok h3
    have hl : ks.length = es.len := of_decide_eq_true h1
    have h1' : 1 ≤ ks.length := of_decide_eq_true h2
    have h15 : ks.length ≤ 15 := of_decide_eq_true h3
    refine PE.imp (pe_disp (Es.pp es X Z n ks p hl h4) (by simp) (by rw [List.length_map, hl, es_un_len]) (fun z => by rw [List.map_eq_nil_iff.mp z] at h1'; simp at h1') (by rw [List.length_map]; exact h15)) ?_
    rintro σ H Q ⟨e0, F, ι, sl, h, j, q⟩
    intro a ha
    have j1 := j.hold (o := .dK []) ha
    obtain ⟨n0, nh, _⟩ := j.none0 ha
    have q : Po (bx X Z e0) F ι sl σ (RKd X.K sl σ k) ((es.den D false sl h).bind fun ws h => .ok (.ref h.length) (h ++ [.dic (((ks.map fun k => k.1).zip ws).foldl (fun d p => dicPut d p.1 p.2) [])])) Q := q
    refine prs_rd ks es hl (Q := fun vs H2 => H2 a = some (.dK []) ∧ Q (.ref a) (upd H2 a (.dK (mergeK [] (((ks.map fun k => k.1).zip vs).map fun p => (Sum.inr p.1, p.2)))))) j1 ?_ ?_
    · cases hr : es.den D false sl h with
      | bad => rw [hr] at q; exact q
      | exc x h1 =>
        rw [hr] at q
        exact fun F1 ι1 H1 cls dd l1 j2 r2 => q F1 ι1 H1 cls dd l1 (j2.unhold2 nh) r2
      | ok ws h1 =>
        rw [hr] at q
        intro F1 ι1 H1 vs l1 j2 r2
        refine ⟨(j2.hd a _ upd_same).1, ?_⟩
        have c := fold_rd (K := X.K) (ks.map fun k => k.1) r2 .nil
        have j3 := j2.adopt (b := .dic (((ks.map fun k => k.1).zip ws).foldl (fun d p => dicPut d p.1 p.2) [])) n0 nh ⟨_, rfl, c⟩
        refine q F1 _ _ (.ref a) ⟨l1.f, ?_⟩ j3 (RKd.of (.ref ?_))
        · obtain ⟨t, e⟩ := l1.i
          exact ⟨t ++ [a], by rw [e, List.append_assoc]⟩
        · rw [← j2.hr.len, List.getElem?_append_right (Nat.le_refl _), Nat.sub_self]
          rfl
    · rintro vs H2 e1 ⟨e2, e3⟩
      refine ⟨e2, ((ks.map fun k => k.1).zip vs).map fun p => (Sum.inr p.1, p.2), ?_, ?_, e3⟩
      · unfold prV
        rw [List.map_map]
        rfl
      · rw [List.length_map, List.length_zip, List.length_map]
        omega
  | .tr e, X, Z, n, k, ok => PE.never fun σ H Q ⟨e0, F, ι, sl, h, j, q⟩ => q
  | .int i a p, X, Z, n, k, ok => PE.imp pe_int fun σ H Q ⟨e0, F, ι, sl, h, j, q⟩ => q.ret j (RKd.of (.int i))
  | .str s a p, X, Z, n, k, ok => PE.imp pe_str fun σ H Q ⟨e0, F, ι, sl, h, j, q⟩ => q.ret j (RKd.of (.str s))
  | .bl b a p, X, Z, n, k, ok => PE.imp pe_bl fun σ H Q ⟨e0, F, ι, sl, h, j, q⟩ => q.ret j (RKd.of (.bl b))
  | .non a p, X, Z, n, k, ok => PE.imp pe_non fun σ H Q ⟨e0, F, ι, sl, h, j, q⟩ => q.ret j (RKd.of .non)
  | .tup es a p, X, Z, n, k, ok => by
    refine PE.imp (pe_tup (Es.pa es X Z n false ok)) ?_
    rintro σ H Q ⟨e0, F, ι, sl, h, j, q⟩
    refine ⟨e0, F, ι, sl, h, j, q.bind fun ws h1 F1 ι1 H1 vs l1 j1 r1 q1 => ?_⟩
    cases hl : lineN ws.length with
    | false => simp only [hl] at q1; exact False.elim q1
    | true =>
      simp only [hl] at q1
      refine ⟨by rw [← r1.rvs.length]; exact lineN_ok hl, fun a ha => ?_⟩
      exact q1 _ _ _ (.ref a) (j1.newLe (o := .tup vs) ha) (j1.new ha) (RKd.of (.tup (.inl (.inl upd_same)) (r1.rvs.mono (j1.newLe ha))))
  | .lst es p, X, Z, n, k, ok => by
    refine PE.imp (pe_lst (Es.pa es X Z n false ok)) ?_
    rintro σ H Q ⟨e0, F, ι, sl, h, j, q⟩
    refine ⟨e0, F, ι, sl, h, j, q.bind fun ws h1 F1 ι1 H1 vs l1 j1 r1 q1 => ?_⟩
    cases hl : lineN ws.length with
    | false => simp only [hl] at q1; exact False.elim q1
    | true =>
      simp only [hl] at q1
      refine ⟨by rw [← r1.rvs.length]; exact lineN_ok hl, fun a ha => ?_⟩
      exact q1 _ _ _ (.ref a) (j1.newLe (o := .lst vs) ha) (j1.new ha) (RKd.of (.lst upd_same (r1.rvs.mono (j1.newLe ha))))
  | .lstH es p, X, Z, n, k, ok => by
    refine PE.imp (pe_lst (Es.pa es X Z n false ok)) ?_
    rintro σ H Q ⟨e0, F, ι, sl, h, j, q⟩
    refine ⟨e0, F, ι, sl, h, j, q.bind fun ws h1 F1 ι1 H1 vs l1 j1 r1 q1 => ?_⟩
    cases hl : lineN ws.length with
    | false => simp only [hl] at q1; exact False.elim q1
    | true =>
      simp only [hl] at q1
      refine ⟨by rw [← r1.rvs.length]; exact lineN_ok hl, fun a ha => ?_⟩
      have j2 := j1.newH (ws := ws) ha r1.rvs
      refine q1 _ _ _ (.ref a) ⟨fun _ _ e => e, [a], rfl⟩ j2 (RKd.of (.ref ?_))
      rw [← j1.hr.len, List.getElem?_append_right (Nat.le_refl _), Nat.sub_self]
      rfl
  | .emp p, X, Z, n, k, ok => by
    refine PE.imp pe_dnewK ?_
    rintro σ H Q ⟨e0, F, ι, sl, h, j, q⟩
    intro a ha
    exact q _ _ _ (.ref a) (j.newLe (o := .dK []) ha) (j.new ha) (RKd.of (.emp upd_same))
  | .bin op a b p, X, Z, n, k, ok => by
    obtain ⟨o1, o2⟩ := and_ok (show (a.okE c X.env.scope && b.okE c X.env.scope) = true from ok)
    refine PE.imp (pe_op (bin_ok op) (E.pe a X Z n true o1) (E.pe b X Z n true o2)) ?_
    rintro σ H Q ⟨e0, F, ι, sl, h, j, q⟩
    refine ⟨e0, F, ι, sl, h, j, q.bind fun x h1 F1 ι1 H1 v l1 j1 r1 q1 => ⟨e0, F1, ι1, sl, h1, j1, q1.bind fun y h2 F2 ι2 H2 u l2 j2 r2 q2 => ?_⟩⟩
    obtain ⟨w, e, q3⟩ := q2.opt
    exact ⟨F2, ι2, h2, _, _, w, j2.hr, j2.now (r1.mono l2).op, j2.now r2.op, e, fun F' H' v x hr rv => q3 F' ι2 H' v x.le (j2.step x hr) (RKd.of rv)⟩
  | .neg a p, X, Z, n, k, ok => by
    refine PE.imp (pe_un un_neg (E.pe a X Z n false ok)) ?_
    rintro σ H Q ⟨e0, F, ι, sl, h, j, q⟩
    refine ⟨e0, F, ι, sl, h, j, q.bind fun x h1 F1 ι1 H1 v l1 j1 r1 q1 => ?_⟩
    cases r1 with
    | int i => exact ⟨i, rfl, q1.ret j1 (RKd.of (.int _))⟩
    | _ => exact False.elim q1
  | .not a p, X, Z, n, k, ok => PE.never fun σ H Q ⟨e0, F, ι, sl, h, j, q⟩ => q
  | .notV a p, X, Z, n, k, ok => by
    refine PE.imp (pe_notT (E.pe a X Z n true ok)) ?_
    rintro σ H Q ⟨e0, F, ι, sl, h, j, q⟩
    refine ⟨e0, F, ι, sl, h, j, q.bind fun x h1 F1 ι1 H1 v l1 j1 r1 q1 => ?_⟩
    obtain ⟨w, e, q2⟩ := q1.opt
    cases ht : truW (x.now h1) with
    | none => rw [ht] at e; cases e
    | some d =>
      rw [ht] at e
      cases e
      exact ⟨d, tru_of j1.hr.sub (j1.now r1.op) ht, q2.ret j1 (RKd.of (.bl _))⟩
  | .bop op es p, X, Z, n, k, ok => Es.pbo es X Z n k op p ok
  | .cmp op a b p, X, Z, n, k, ok => by
    obtain ⟨o1, o2⟩ := and_ok (show (a.okE c X.env.scope && b.okE c X.env.scope) = true from ok)
    have hu := n.un
    refine PE.imp (pe_cmpR (cmp_ok op (by omega)) (E.pe a X Z n true o1) (E.pe b X Z n true o2) (marks_un _ b)) ?_
    rintro σ H Q ⟨e0, F, ι, sl, h, j, q⟩
    refine ⟨e0, F, ι, sl, h, j, q.bind fun x h1 F1 ι1 H1 v l1 j1 r1 q1 => ⟨e0, F1, ι1, sl, h1, j1, q1.bind fun y h2 F2 ι2 H2 u l2 j2 r2 q2 => ?_⟩⟩
    obtain ⟨w, e, q3⟩ := q2.opt
    cases ht : cmpW op (x.now h2) (y.now h2) with
    | none => rw [ht] at e; cases e
    | some d =>
      rw [ht] at e
      cases e
      exact ⟨F2, ι2, h2, _, _, d, j2.hr, j2.now (r1.mono l2).op, j2.now r2.op, ht, q3.ret j2 (RKd.of (.bl d))⟩
  | .chain op op' a b d p, X, Z, n, k, ok => by
    obtain ⟨o1, o2⟩ := and_ok (show (a.okE c X.env.scope && (b.okE c X.env.scope && d.okE c X.env.scope)) = true from ok)
    obtain ⟨o2, o3⟩ := and_ok o2
    have hu := n.un
    refine PE.imp (pe_chain (cmp_ok op (by omega)) (cmp_ok op' (by omega)) (E.pe a X Z n false o1) (E.pe b X Z n false o2) (E.pe d X Z n false o3) (marks_un _ d)) ?_
    rintro σ H Q ⟨e0, F, ι, sl, h, j, q⟩
    refine ⟨e0, F, ι, sl, h, j, q.bind fun x h1 F1 ι1 H1 v l1 j1 r1 q1 => ⟨e0, F1, ι1, sl, h1, j1, q1.bind fun y h2 F2 ι2 H2 u l2 j2 r2 q2 => ?_⟩⟩
    cases ht : cmpW op x y with
    | none => simp only [ht] at q2; exact False.elim q2
    | some g =>
      refine ⟨F2, ι2, h2, x, y, g, j2.hr, .inl (r1.mono l2), .inl r2, ht, g, rfl, ?_⟩
      cases g with
      | false =>
        simp only [ht] at q2
        simp only [Bool.false_eq_true, if_false]
        exact q2.ret j2 (RKd.of (.bl false))
      | true =>
        simp only [ht] at q2
        simp only [if_true]
        refine ⟨e0, F2, ι2, sl, h2, j2, q2.bind fun z h3 F3 ι3 H3 t l3 j3 r3 q3 => ?_⟩
        obtain ⟨w, e, q4⟩ := q3.opt
        cases ht2 : cmpW op' y z with
        | none => rw [ht2] at e; cases e
        | some g2 =>
          rw [ht2] at e
          cases e
          exact ⟨F3, ι3, h3, y, z, g2, j3.hr, .inl (r2.mono l3), .inl r3, ht2, q4.ret j3 (RKd.of (.bl g2))⟩
  | .ife t a b p, X, Z, n, k, ok => by
    obtain ⟨o1, o2⟩ := and_ok (show (t.okE c X.env.scope && (a.okE c X.env.scope && b.okE c X.env.scope)) = true from ok)
    obtain ⟨o2, o3⟩ := and_ok o2
    refine PE.imp (pe_ifExp (E.pt t X Z n o1) (E.pe a X Z n false o2) (E.pe b X Z n false o3)) ?_
    rintro σ H Q ⟨e0, F, ι, sl, h, j, q⟩
    refine ⟨e0, F, ι, sl, h, j, q.bind fun x h1 F1 ι1 H1 v l1 j1 r1 q1 => ?_⟩
    subst r1
    cases x with
    | true =>
      simp only [if_true]
      exact ⟨e0, F1, ι1, sl, h1, j1, Po.imp q1 fun _ _ _ _ r => RKd.of r⟩
    | false =>
      simp only [Bool.false_eq_true, if_false]
      exact ⟨e0, F1, ι1, sl, h1, j1, Po.imp q1 fun _ _ _ _ r => RKd.of r⟩
  | .call i x xp es p, X, Z, n, k, ok => by
    obtain ⟨o1, o2⟩ := and_ok (show (decide (c.fs i = some x) && (glB X.env.scope x && (nmB x && es.okE c X.env.scope))) = true from ok)
    obtain ⟨o2, o3⟩ := and_ok o2
    obtain ⟨o3, o4⟩ := and_ok o3
    refine PE.imp (call_pe n (of_decide_eq_true o1) o2 o3 (Es.pa es X Z n false o4)) ?_
    rintro σ H Q ⟨e0, F, ι, sl, h, j, q⟩
    exact ⟨e0, F, ι, sl, h, j, Po.imp q fun _ _ _ _ r => RKd.of r⟩
  | .callK i x xp es ks p, X, Z, n, k, ok => by
    obtain ⟨o1, o2⟩ := and_ok (show (decide (c.fs i = some x) && (glB X.env.scope x && (nmB x && (decide ((i, es.len, ks.names) ∈ c.kws) && (es.okE c X.env.scope && ks.okE c X.env.scope))))) = true from ok)
    obtain ⟨o2, o3⟩ := and_ok o2
    obtain ⟨o3, o4⟩ := and_ok o3
    obtain ⟨o4, o5⟩ := and_ok o4
    obtain ⟨o5, o6⟩ := and_ok o5
    refine PE.imp (callK_pe n (of_decide_eq_true o1) o2 o3 (of_decide_eq_true o4) (Es.pa es X Z n false o5) (Ks.pk ks X Z n o6)) ?_
    rintro σ H Q ⟨e0, F, ι, sl, h, j, q⟩
    exact ⟨e0, F, ι, sl, h, j, Po.imp q fun _ _ _ _ r => RKd.of r⟩
  | .blt b xp es p, X, Z, n, k, ok => by
    obtain ⟨o1, o2⟩ := and_ok (show (glB X.env.scope b.nm && (!es.isNil && es.okE c X.env.scope)) = true from ok)
    obtain ⟨o2, o3⟩ := and_ok o2
    have ha := Es.pa es X Z n true o3
    cases es with
    | nil => cases o2
    | cons e es =>
      refine PE.imp (pe_bt b n.calm n.gd n.un (glB_ok o1) (n.bt b) ha (star_un e es.un) (plain_un p es)) ?_
      rintro σ H Q ⟨e0, F, ι, sl, h, j, q⟩
      refine ⟨e0, F, ι, sl, h, j, q.bind fun ws h1 F1 ι1 H1 vs l1 j1 r1 q1 => ?_⟩
      obtain ⟨w, e, q2⟩ := q1.opt
      exact ⟨F1, ι1, h1, _, w, j1.hr, r1.rns j1, e, fun F' H' v x hr rv => q2 F' ι1 H' v x.le (j1.step x hr) (RKd.of rv)⟩
  | .isi a t xp tp p, X, Z, n, k, ok => by
    obtain ⟨o1, o2⟩ := and_ok (show (glB X.env.scope "isinstance" && (glB X.env.scope t.nm && (t.isB && a.okE c X.env.scope))) = true from ok)
    obtain ⟨o2, o3⟩ := and_ok o2
    obtain ⟨o3, o4⟩ := and_ok o3
    have pt : PE X (.Name t.nm tp) (tC (.ty t.s)) := pe_bltn (glB_ok o2) (n.ty t) (ty_boot t o3) rfl (ty_name t).1 (ty_name t).2
    refine PE.imp (pe_callB call_isi (glB_ok o1) n.isi boot_isinstance (pa_cons (E.pe a X Z n false o4) (pa_cons pt pa_nil rfl) (star_un a _)) (by decide +kernel) (by decide +kernel) (star_un a _) rfl) ?_
    rintro σ H Q ⟨e0, F, ι, sl, h, j, q⟩
    refine ⟨e0, F, ι, sl, h, j, q.bind fun w h1 F1 ι1 H1 v l1 j1 r1 q1 => ?_⟩
    obtain ⟨w', e, q2⟩ := q1.opt
    cases ht : tyW h1 w with
    | none => rw [ht] at e; cases e
    | some y =>
      rw [ht] at e
      cases e
      exact ⟨v, _, _, _, _, rfl, .ty t.s, tyX_of j1.hr r1 ht, isTy_ty y t, q2.ret j1 (RKd.of (.bl _))⟩
  | .isiT a t p1 u p2 m xp tp p, X, Z, n, k, ok => by
    obtain ⟨o1, o2⟩ := and_ok (show (glB X.env.scope "isinstance" && (glB X.env.scope t.nm && (t.isB && (glB X.env.scope u.nm && (u.isB && a.okE c X.env.scope))))) = true from ok)
    obtain ⟨o2, o3⟩ := and_ok o2
    obtain ⟨o3, o4⟩ := and_ok o3
    obtain ⟨o4, o5⟩ := and_ok o4
    obtain ⟨o5, o6⟩ := and_ok o5
    have pt : PE X (.Name t.nm p1) (tC (.ty t.s)) := pe_bltn (glB_ok o2) (n.ty t) (ty_boot t o3) rfl (ty_name t).1 (ty_name t).2
    have pu : PE X (.Name u.nm p2) (tC (.ty u.s)) := pe_bltn (glB_ok o4) (n.ty u) (ty_boot u o5) rfl (ty_name u).1 (ty_name u).2
    have pp : PE X (.Tuple [.Name t.nm p1, .Name u.nm p2] m tp) (tTup (tCons (tC (.ty t.s)) (tCons (tC (.ty u.s)) tNil))) := pe_tup (pa_cons pt (pa_cons pu pa_nil rfl) rfl)
    refine PE.imp (pe_callB call_isiT (glB_ok o1) n.isi boot_isinstance (pa_cons (E.pe a X Z n false o6) (pa_cons pp pa_nil rfl) (star_un a _)) (by decide +kernel) (by decide +kernel) (star_un a _) rfl) ?_
    rintro σ H Q ⟨e0, F, ι, sl, h, j, q⟩
    refine ⟨e0, F, ι, sl, h, j, q.bind fun w h1 F1 ι1 H1 v l1 j1 r1 q1 => ?_⟩
    refine ⟨by show 2 ≤ sizeLine; rw [sizeLine_eq]; omega, fun T hT => ?_⟩
    have j2 := j1.loose (o := .tup [.ty t.s, .ty u.s]) hT
    obtain ⟨w', e, q2⟩ := q1.opt
    cases ht : tyW h1 w with
    | none => rw [ht] at e; cases e
    | some y =>
      rw [ht] at e
      cases e
      exact ⟨v, T, _, _, _, _, rfl, upd_same, .cons (.ty t.s) (.cons (.ty u.s) .nil), tyX_of j2.hr r1 ht, isTy_two y t u, q2.ret j2 (RKd.of (.bl _))⟩
  | .sub a i p, X, Z, n, k, ok => by
    obtain ⟨o1, o2⟩ := and_ok (show (a.okE c X.env.scope && i.okE c X.env.scope) = true from ok)
    have hu := n.un
    refine PE.imp (pe_ix (ix_seq.or (ix_dic (by omega))) (E.pe a X Z n true o1) (E.pe i X Z n false o2) (fun o v => plainIx_un i o v)) ?_
    rintro σ H Q ⟨e0, F, ι, sl, h, j, q⟩
    refine ⟨e0, F, ι, sl, h, j, q.bind fun x h1 F1 ι1 H1 v l1 j1 r1 q1 => ⟨e0, F1, ι1, sl, h1, j1, q1.bind fun y h2 F2 ι2 H2 u l2 j2 r2 q2 => ?_⟩⟩
    obtain ⟨w, e, q3⟩ := q2.opt
    exact ix_of j2 (j2.now (r1.mono l2).op) r2 e fun v rv => q3.ret j2 (RKd.of rv)
  | .slc a lo hi sp p, X, Z, n, k, ok => by
    obtain ⟨o1, o2⟩ := and_ok (show (a.okE c X.env.scope && (lo.okE c X.env.scope && hi.okE c X.env.scope)) = true from ok)
    obtain ⟨o2, o3⟩ := and_ok o2
    refine PE.imp (pe_slice (sl_list.or sl_tup) (E.pe a X Z n true o1) (Eo.po lo X Z n o2) (Eo.po hi X Z n o3)) ?_
    rintro σ H Q ⟨e0, F, ι, sl, h, j, q⟩
    refine ⟨e0, F, ι, sl, h, j, q.bind fun x h1 F1 ι1 H1 v l1 j1 r1 q1 => ⟨e0, F1, ι1, sl, h1, j1, q1.bind fun y h2 F2 ι2 H2 u l2 j2 r2 q2 => ⟨e0, F2, ι2, sl, h2, j2, q2.bind fun z h3 F3 ι3 H3 t l3 j3 r3 q3 => ?_⟩⟩⟩
    subst r2
    subst r3
    obtain ⟨w, e, q4⟩ := q3.opt
    have rn := j3.now ((r1.mono l2).mono l3).op
    cases hx : x.now h3 with
    | lst ws =>
      rw [hx] at e rn
      cases e
      obtain ⟨a, vs, rfl, ha, rv⟩ := rn.lst j3.hr.sub
      refine .inl ⟨a, vs, rfl, .inl (.inl ha), fun p hp => ?_⟩
      have rc := rv.cutR y z
      exact q4 _ _ _ (.ref p) (j3.newLe (o := .lst (cutV vs y z)) hp) (j3.new hp) (RKd.of (.lst upd_same (rc.mono (j3.newLe hp))))
    | tup ws =>
      rw [hx] at e rn
      have e : (match decide (HT.sIx ws.length 0 y = 0) && decide (HT.sIx ws.length ws.length z = ws.length) with | true => none | false => some (W.tup (cut ws y z))) = some w := e
      split at e
      · cases e
      · rename_i hw
        cases e
        have r := rn.rv (fun _ z => by cases z)
        cases r with
        | @tup _ a vs sq rv =>
          refine .inr ⟨a, vs, rfl, sqT_mono j3.hr.sub sq, fun ⟨z1, z2⟩ => ?_, fun p hp => ?_⟩
          · rw [← rv.length] at z1 z2
            rw [decide_eq_true z1, decide_eq_true z2] at hw
            cases hw
          · have rc := rv.cutR y z
            exact q4 _ _ _ (.ref p) (j3.newLe (o := .tup (cutV vs y z)) hp) (j3.new hp) (RKd.of (.tup (.inl (.inl upd_same)) (rc.mono (j3.newLe hp))))
    | _ => rw [hx] at e; cases e
  | .lc e tg it t vs sc p, X, Z, n, k, ok => by
    obtain ⟨o1, o2⟩ := and_ok (show (blkC c.N X.env.scope sc vs && (tgIt tg it && (it.okE c X.env.scope && (tg.okC c (relS sc X.env.scope) (ixs vs) && (e.okE c (relS sc X.env.scope) && t.okE c (relS sc X.env.scope)))))) = true from ok)
    obtain ⟨o2, o3⟩ := and_ok o2
    obtain ⟨o3, o4⟩ := and_ok o3
    obtain ⟨o4, o5⟩ := and_ok o4
    obtain ⟨o5, o6⟩ := and_ok o5
    refine PE.imp (lc_of (e := e) (sc := sc) (p := p) n o1 o4 (It.pi it X Z n tg o2 o3) (fun s H C cl fp => Eo.pt t (X.blk s H sc (compEnvC sc cl C X.env) fp) nox (n.blk ..) o6)
      (fun s H C cl fp => E.pe e (X.blk s H sc (compEnvC sc cl C X.env) fp) nox (n.blk ..) false o5)) ?_
    rintro σ H Q ⟨e0, F, ι, sl, h, j, q⟩
    exact ⟨e0, F, ι, sl, h, j, PoF.of q⟩
theorem Es.pa {D : Dn} {c : Oc} : ∀ (es : Es) (X : Cx) (Z : WX) (n : Cn X Z D c) (k : Bool), es.okE c X.env.scope = true → PA X es.un (tA X Z k (es.den D k))
  | .nil, X, Z, n, k, ok => PA.imp pa_nil fun σ H Q ⟨e0, F, ι, sl, h, j, q⟩ => q.ret j .nil
  | .cons e es, X, Z, n, k, ok => by
    obtain ⟨o1, o2⟩ := and_ok (show (e.okE c X.env.scope && es.okE c X.env.scope) = true from ok)
    refine PA.imp (pa_cons (E.pe e X Z n k o1) (Es.pa es X Z n k o2) (star_un e _)) ?_
    rintro σ H Q ⟨e0, F, ι, sl, h, j, q⟩
    exact ⟨e0, F, ι, sl, h, j, q.bind fun w h1 F1 ι1 H1 v l1 j1 r1 q1 => ⟨e0, F1, ι1, sl, h1, j1, q1.bind fun ws h2 F2 ι2 H2 us l2 j2 r2 q2 => q2.ret j2 (.cons (r1.mono l2) r2)⟩⟩
theorem Es.pp {D : Dn} {c : Oc} : ∀ (es : Es) (X : Cx) (Z : WX) (n : Cn X Z D c) (ks : List (Str × Nat × Pos)) (p : Pos), ks.length = es.len → es.okE c X.env.scope = true → PPs X p (ks.map fun k => some (.Constant (.str k.1) k.2.1 k.2.2)) es.un (prs X Z D ks es)
  | .nil, X, Z, n, [], p, hl, ok => pps_nil
  | .nil, X, Z, n, _ :: _, p, hl, ok => by cases hl
  | .cons e es, X, Z, n, [], p, hl, ok => by cases hl
  | .cons e es, X, Z, n, k :: ks, p, hl, ok => by
    obtain ⟨o1, o2⟩ := and_ok (show (e.okE c X.env.scope && es.okE c X.env.scope) = true from ok)
    exact pps_cons pe_str (E.pe e X Z n false o1) (Es.pp es X Z n ks p (Nat.succ.inj hl) o2)
theorem Ks.pk {D : Dn} {c : Oc} : ∀ (ks : Ks) (X : Cx) (Z : WX) (n : Cn X Z D c), ks.okE c X.env.scope = true → PK X ks.un (tK X Z ks.names (ks.den D))
  | .nil, X, Z, n, ok => PK.imp pk_nil fun σ H Q ⟨e0, F, ι, sl, h, j, q⟩ => q.ret j ⟨rfl, .nil⟩
  | .cons x e p ks, X, Z, n, ok => by
    obtain ⟨o1, o2⟩ := and_ok (show (e.okE c X.env.scope && ks.okE c X.env.scope) = true from ok)
    refine PK.imp (pk_cons (E.pe e X Z n false o1) (Ks.pk ks X Z n o2)) ?_
    rintro σ H Q ⟨e0, F, ι, sl, h, j, q⟩
    exact ⟨e0, F, ι, sl, h, j, q.bind fun w h1 F1 ι1 H1 v l1 j1 r1 q1 => ⟨e0, F1, ι1, sl, h1, j1, q1.bind fun ws h2 F2 ι2 H2 us l2 j2 r2 q2 => q2.ret j2 ⟨congrArg (x :: ·) r2.1, .cons (r1.mono l2) r2.2⟩⟩⟩
theorem Eo.po {D : Dn} {c : Oc} : ∀ (o : Eo) (X : Cx) (Z : WX) (n : Cn X Z D c), o.okE c X.env.scope = true → PO X o.un (tI X Z (o.den D))
  | .non, X, Z, n, ok => PO.imp po_none fun σ H Q ⟨e0, F, ι, sl, h, j, q⟩ => q.ret j rfl
  | .some e, X, Z, n, ok => by
    refine PO.imp (po_some (E.pe e X Z n false ok)) ?_
    rintro σ H Q ⟨e0, F, ι, sl, h, j, q⟩
    refine ⟨e0, F, ι, sl, h, j, q.bind fun x h1 F1 ι1 H1 v l1 j1 r1 q1 => ?_⟩
    cases r1 with
    | int i => exact ⟨i, rfl, q1.ret j1 rfl⟩
    | _ => exact False.elim q1
theorem Eo.pt {D : Dn} {c : Oc} : ∀ (o : Eo) (X : Cx) (Z : WX) (n : Cn X Z D c), o.okE c X.env.scope = true → PTs X o.uns (tT X Z (o.tst D))
  | .non, X, Z, n, ok => ⟨fun pins s σ H Q I ⟨e0, F, ι, sl, h, j, q⟩ => pts_nil.run pins s σ H Q I (q.ret j rfl)⟩
  | .some e, X, Z, n, ok => pts_one (E.pt e X Z n ok)
theorem Es.pbo {D : Dn} {c : Oc} : ∀ (es : Es) (X : Cx) (Z : WX) (n : Cn X Z D c) (k : Bool) (op : BoolOp) (p : Pos), es.okE c X.env.scope = true → PE X (.BoolOp op es.un p) (tE X Z k (es.bo D op))
  | .nil, X, Z, n, k, op, p, ok => PE.never fun σ H Q ⟨e0, F, ι, sl, h, j, q⟩ => q
  | .cons e .nil, X, Z, n, k, op, p, ok => by
    obtain ⟨o1, o2⟩ := and_ok (show (e.okE c X.env.scope && Es.okE c X.env.scope .nil) = true from ok)
    refine PE.imp (pe_one (E.pe e X Z n false o1)) ?_
    rintro σ H Q ⟨e0, F, ι, sl, h, j, q⟩
    exact ⟨e0, F, ι, sl, h, j, q.bind fun x h1 F1 ι1 H1 v l1 j1 r1 q1 => q1.ret j1 (RKd.of r1)⟩
  | .cons e (.cons e2 es), X, Z, n, k, op, p, ok => by
    obtain ⟨o1, o2⟩ := and_ok (show (e.okE c X.env.scope && Es.okE c X.env.scope (.cons e2 es)) = true from ok)
    have h1 := E.pe e X Z n false o1
    have h2 := Es.pbo (.cons e2 es) X Z n k op p o2
    cases op with
    | And =>
      refine PE.imp (pe_and h1 h2) ?_
      rintro σ H Q ⟨e0, F, ι, sl, h, j, q⟩
      refine ⟨e0, F, ι, sl, h, j, q.bind fun x h1 F1 ι1 H1 v l1 j1 r1 q1 => ?_⟩
      cases r1 with
      | bl b =>
        refine ⟨b, rfl, ?_⟩
        cases b with
        | true => exact ⟨e0, F1, ι1, sl, h1, j1, q1⟩
        | false => exact Po.ret (show Po (bx X Z e0) F1 ι1 sl σ (RKd X.K sl σ k) (.ok (.bl false) h1) Q from q1) j1 (RKd.of (.bl false))
      | _ => exact False.elim q1
    | Or =>
      refine PE.imp (pe_or h1 h2) ?_
      rintro σ H Q ⟨e0, F, ι, sl, h, j, q⟩
      refine ⟨e0, F, ι, sl, h, j, q.bind fun x h1 F1 ι1 H1 v l1 j1 r1 q1 => ?_⟩
      cases r1 with
      | bl b =>
        refine ⟨b, rfl, ?_⟩
        cases b with
        | false => exact ⟨e0, F1, ι1, sl, h1, j1, q1⟩
        | true => exact Po.ret (show Po (bx X Z e0) F1 ι1 sl σ (RKd X.K sl σ k) (.ok (.bl true) h1) Q from q1) j1 (RKd.of (.bl true))
      | _ => exact False.elim q1
theorem Es.pw {D : Dn} {c : Oc} : ∀ (es : Es) (X : Cx) (Z : WX) (n : Cn X Z D c) (op : BoolOp) (p : Pos), es.okE c X.env.scope = true → PW X (.BoolOp op es.un p) (tT X Z (es.bt D op))
  | .nil, X, Z, n, op, p, ok => ⟨fun wh pins s σ H Q I ⟨e0, F, ι, sl, h, j, q⟩ => False.elim q⟩
  | .cons e .nil, X, Z, n, op, p, ok => by
    obtain ⟨o1, o2⟩ := and_ok (show (e.okE c X.env.scope && Es.okE c X.env.scope .nil) = true from ok)
    have h1 := E.pt e X Z n o1
    have go : ∀ σ H Q, tT X Z (Es.bt D op (.cons e .nil)) σ H Q → tT X Z (fun σ h => e.tst D σ h) σ H Q := by
      rintro σ H Q ⟨e0, F, ι, sl, h, j, q⟩
      refine ⟨e0, F, ι, sl, h, j, q.bind fun x h1 F1 ι1 H1 v l1 j1 r1 q1 => ?_⟩
      subst r1
      exact q1.ret j1 rfl
    cases op with
    | And => exact PW.imp (pw_and1 h1) go
    | Or => exact PW.imp (pw_or1 h1) go
  | .cons e (.cons e2 es), X, Z, n, op, p, ok => by
    obtain ⟨o1, o2⟩ := and_ok (show (e.okE c X.env.scope && Es.okE c X.env.scope (.cons e2 es)) = true from ok)
    have h1 := E.pt e X Z n o1
    have h2 := Es.pw (.cons e2 es) X Z n op p o2
    cases op with
    | And =>
      refine PW.imp (pw_and h1 h2) ?_
      rintro σ H Q ⟨e0, F, ι, sl, h, j, q⟩
      refine ⟨e0, F, ι, sl, h, j, q.bind fun x h1 F1 ι1 H1 v l1 j1 r1 q1 => ?_⟩
      subst r1
      cases x with
      | true => exact ⟨e0, F1, ι1, sl, h1, j1, q1⟩
      | false => exact Po.ret (show Po (bx X Z e0) F1 ι1 sl σ (fun _ _ a v => a = v) (.ok false h1) Q from q1) j1 rfl
    | Or =>
      refine PW.imp (pw_or h1 h2) ?_
      rintro σ H Q ⟨e0, F, ι, sl, h, j, q⟩
      refine ⟨e0, F, ι, sl, h, j, q.bind fun x h1 F1 ι1 H1 v l1 j1 r1 q1 => ?_⟩
      subst r1
      cases x with
      | false => exact ⟨e0, F1, ι1, sl, h1, j1, q1⟩
      | true => exact Po.ret (show Po (bx X Z e0) F1 ι1 sl σ (fun _ _ a v => a = v) (.ok true h1) Q from q1) j1 rfl
theorem E.pt {D : Dn} {c : Oc} : ∀ (e : E) (X : Cx) (Z : WX) (n : Cn X Z D c), e.okE c X.env.scope = true → PT X e.un (tT X Z (e.tst D))
  | .tr e, X, Z, n, ok => by
    obtain ⟨o1, o2⟩ := and_ok (show (e.plainT && e.okE c X.env.scope) = true from ok)
    refine PT.imp (pt_truth (E.pe e X Z n true o2) (isTrue_un e o1)) ?_
    rintro σ H Q ⟨e0, F, ι, sl, h, j, q⟩
    refine ⟨e0, F, ι, sl, h, j, q.bind fun x h1 F1 ι1 H1 v l1 j1 r1 q1 => ?_⟩
    obtain ⟨d, e, q2⟩ := q1.opt
    exact ⟨d, tru_of j1.hr.sub (j1.now r1.op) e, q2.ret j1 rfl⟩
  | .not a p, X, Z, n, ok => by
    refine PT.imp (pt_not (E.pt a X Z n ok)) ?_
    rintro σ H Q ⟨e0, F, ι, sl, h, j, q⟩
    refine ⟨e0, F, ι, sl, h, j, q.bind fun x h1 F1 ι1 H1 v l1 j1 r1 q1 => ?_⟩
    subst r1
    exact q1.ret j1 rfl
  | .bop op es p, X, Z, n, ok => (Es.pw es X Z n op p ok).pt
  | .cmp op a b p, X, Z, n, ok => by
    obtain ⟨o1, o2⟩ := and_ok (show (a.okE c X.env.scope && b.okE c X.env.scope) = true from ok)
    have hu := n.un
    refine PT.imp (pt_cmpR (cmp_ok op (by omega)) (E.pe a X Z n true o1) (E.pe b X Z n true o2) (marks_un _ b)) ?_
    rintro σ H Q ⟨e0, F, ι, sl, h, j, q⟩
    refine ⟨e0, F, ι, sl, h, j, q.bind fun x h1 F1 ι1 H1 v l1 j1 r1 q1 => ⟨e0, F1, ι1, sl, h1, j1, q1.bind fun y h2 F2 ι2 H2 u l2 j2 r2 q2 => ?_⟩⟩
    obtain ⟨d, e, q3⟩ := q2.opt
    exact ⟨F2, ι2, h2, _, _, d, j2.hr, j2.now (r1.mono l2).op, j2.now r2.op, e, d, rfl, q3.ret j2 rfl⟩
  | .chain op op' a b d p, X, Z, n, ok => by
    obtain ⟨o1, o2⟩ := and_ok (show (a.okE c X.env.scope && (b.okE c X.env.scope && d.okE c X.env.scope)) = true from ok)
    obtain ⟨o2, o3⟩ := and_ok o2
    have hu := n.un
    refine PT.imp (pt_chain (cmp_ok op (by omega)) (cmp_ok op' (by omega)) (E.pe a X Z n false o1) (E.pe b X Z n false o2) (E.pe d X Z n false o3) (marks_un _ d)) ?_
    rintro σ H Q ⟨e0, F, ι, sl, h, j, q⟩
    refine ⟨e0, F, ι, sl, h, j, q.bind fun x h1 F1 ι1 H1 v l1 j1 r1 q1 => ⟨e0, F1, ι1, sl, h1, j1, q1.bind fun y h2 F2 ι2 H2 u l2 j2 r2 q2 => ?_⟩⟩
    cases ht : cmpW op x y with
    | none => simp only [ht] at q2; exact False.elim q2
    | some g =>
      refine ⟨F2, ι2, h2, x, y, g, j2.hr, .inl (r1.mono l2), .inl r2, ht, g, rfl, ?_⟩
      cases g with
      | false =>
        simp only [ht] at q2
        simp only [Bool.false_eq_true, if_false]
        exact ⟨false, rfl, q2.ret j2 rfl⟩
      | true =>
        simp only [ht] at q2
        simp only [if_true]
        refine ⟨e0, F2, ι2, sl, h2, j2, q2.bind fun z h3 F3 ι3 H3 t l3 j3 r3 q3 => ?_⟩
        obtain ⟨g2, e, q4⟩ := q3.opt
        exact ⟨F3, ι3, h3, y, z, g2, j3.hr, .inl (r2.mono l3), .inl r3, e, g2, rfl, q4.ret j3 rfl⟩
  | .din ng a x xp p, X, Z, n, ok => by
    obtain ⟨h1, h2⟩ := and_ok (show (glB X.env.scope x && (nmB x && a.okE c X.env.scope)) = true from ok)
    obtain ⟨h2, h3⟩ := and_ok h2
    have ha := E.pe a X Z n false h3
    rcases dic_or (D.cst x) with ⟨kvs, hx⟩ | hx
    · obtain ⟨d, es, m, hm, KD, look⟩ := n.dic x kvs hx
      have pn : PE X (.Name x xp) (tC (.ref d)) := pe_glob (v := .ref d) (glB_ok h1) hm rfl (nmB_ok h2).1
      cases ng with
      | false =>
        refine PT.imp (pt_cmpR (op_in_kd KD) ha pn rfl) ?_
        rintro σ H Q ⟨e0, F, ι, sl, h, j, q⟩
        simp only [E.tst, hx] at q
        refine ⟨e0, F, ι, sl, h, j, q.bind fun y h1 F1 ι1 H1 v l1 j1 r1 q1 => ?_⟩
        cases r1 with
        | str s =>
          obtain ⟨r, hr, er⟩ := in_kd (look s)
          exact ⟨s, r, rfl, rfl, hr, _, rfl, by rw [er]; exact Po.ret q1 j1 (by rw [Bool.bne_false])⟩
        | _ => exact False.elim q1
      | true =>
        refine PT.imp (pt_cmpR (op_notIn_kd KD) ha pn rfl) ?_
        rintro σ H Q ⟨e0, F, ι, sl, h, j, q⟩
        simp only [E.tst, hx] at q
        refine ⟨e0, F, ι, sl, h, j, q.bind fun y h1 F1 ι1 H1 v l1 j1 r1 q1 => ?_⟩
        cases r1 with
        | str s =>
          obtain ⟨r, hr, er⟩ := in_kd (look s)
          exact ⟨s, r, rfl, rfl, hr, _, rfl, by rw [er]; exact Po.ret q1 j1 (by rw [Bool.bne_true])⟩
        | _ => exact False.elim q1
    · refine PT.never fun σ H Q ⟨e0, F, ι, sl, h, j, q⟩ => ?_
      simp only [E.tst] at q
      exact q
  | .dget .., X, Z, n, ok | .dicH .., X, Z, n, ok | .name .., X, Z, n, ok | .peek .., X, Z, n, ok | .cst .., X, Z, n, ok | .int .., X, Z, n, ok | .str .., X, Z, n, ok | .bl .., X, Z, n, ok | .non .., X, Z, n, ok | .tup .., X, Z, n, ok | .lst .., X, Z, n, ok | .lstH .., X, Z, n, ok | .emp .., X, Z, n, ok | .bin .., X, Z, n, ok | .neg .., X, Z, n, ok | .notV .., X, Z, n, ok | .ife .., X, Z, n, ok | .call .., X, Z, n, ok | .callK .., X, Z, n, ok | .blt .., X, Z, n, ok | .isi .., X, Z, n, ok | .isiT .., X, Z, n, ok | .sub .., X, Z, n, ok | .slc .., X, Z, n, ok | .lc .., X, Z, n, ok => PT.never fun σ H Q ⟨e0, F, ι, sl, h, j, q⟩ => q
theorem It.pi {D : Dn} {c : Oc} : ∀ (it : It) (X : Cx) (Z : WX) (n : Cn X Z D c) (tg : Tg), tgIt tg it = true → it.okE c X.env.scope = true → PI X tg.un it.un (tWk X Z (it.den D))
  | .seq e, X, Z, n, tg, tk, ok => by
    refine PI.imp (pi_seq (E.pe e X Z n false ok)) ?_
    rintro σ H Q ⟨e0, F, ι, sl, h, j, q⟩
    refine ⟨e0, F, ι, sl, h, j, q.bind fun x h1 F1 ι1 H1 v l1 j1 r1 q1 => ?_⟩
    obtain ⟨ws, e, q2⟩ := q1.opt
    cases r1 with
    | lst e1 rv =>
      cases e
      exact ⟨_, rfl, .inl ⟨⟨_, .inl (.inl (j1.hr.sub _ _ e1))⟩, q2.ret j1 (wk_list (.inl (.inl e1)) rv)⟩⟩
    | tup sq rv =>
      cases e
      exact ⟨_, rfl, .inr ⟨⟨_, sqT_mono j1.hr.sub sq⟩, q2.ret j1 (wk_tup sq rv)⟩⟩
    | scr sq =>
      cases e
      exact ⟨_, rfl, .inl ⟨⟨_, sqL_mono j1.hr.sub sq⟩, q2.ret j1 (wk_list sq (RVs.ints _))⟩⟩
    | _ => cases e
  | .rng xp es p, X, Z, n, tg, tk, ok => by
    obtain ⟨o1, o2⟩ := and_ok (show (glB X.env.scope "range" && es.okE c X.env.scope) = true from ok)
    have in_ok : ∀ {i : Int}, in62 i = true → -(2 ^ 62) ≤ i ∧ i < 2 ^ 62 := fun {i} hi => by
      obtain ⟨b1, b2⟩ := and_ok (show (decide (-(2 ^ 62) ≤ i) && decide (i < 2 ^ 62)) = true from hi)
      exact ⟨of_decide_eq_true b1, of_decide_eq_true b2⟩
    match es, o2 with
    | .nil, _ => exact ⟨fun pins s σ H Q I ⟨e0, F, ι, sl, h, j, q⟩ => False.elim q⟩
    | .cons e .nil, o2 =>
      obtain ⟨o2, _⟩ := and_ok (show (e.okE c X.env.scope && Es.okE c X.env.scope .nil) = true from o2)
      refine PI.imp (pi_range1 (glB_ok o1) n.rng (pa_cons (E.pe e X Z n false o2) pa_nil (star_un e _)) (star_un e _)) ?_
      rintro σ H Q ⟨e0, F, ι, sl, h, j, q⟩
      refine ⟨e0, F, ι, sl, h, j, q.bind fun x h1 F1 ι1 H1 v l1 j1 r1 q1 => ?_⟩
      cases r1 with
      | int i =>
        cases hi : in62 i with
        | false => simp only [rng1, hi] at q1; exact False.elim q1
        | true =>
          simp only [rng1, hi] at q1
          exact ⟨i, rfl, (in_ok hi).1, (in_ok hi).2, q1.ret j1 (wk_rng 0 _)⟩
      | _ => exact False.elim q1
    | .cons e (.cons e2 .nil), o2 =>
      obtain ⟨o2, o3⟩ := and_ok (show (e.okE c X.env.scope && Es.okE c X.env.scope (.cons e2 .nil)) = true from o2)
      obtain ⟨o3, _⟩ := and_ok (show (e2.okE c X.env.scope && Es.okE c X.env.scope .nil) = true from o3)
      refine PI.imp (pi_range2 (glB_ok o1) n.rng (pa_cons (E.pe e X Z n false o2) (pa_cons (E.pe e2 X Z n false o3) pa_nil (star_un e2 _)) (star_un e _)) (by rw [star_un, star_un]; rfl) (star_un e2 _)) ?_
      rintro σ H Q ⟨e0, F, ι, sl, h, j, q⟩
      refine ⟨e0, F, ι, sl, h, j, q.bind fun x h1 F1 ι1 H1 v l1 j1 r1 q1 => ⟨e0, F1, ι1, sl, h1, j1, q1.bind fun y h2 F2 ι2 H2 u l2 j2 r2 q2 => ?_⟩⟩
      cases r1 with
      | int i =>
        cases r2 with
        | int i2 =>
          cases hi : (in62 i && in62 i2) with
          | false => simp only [rng2, hi] at q2; exact False.elim q2
          | true =>
            obtain ⟨g1, g2⟩ := and_ok hi
            simp only [rng2, hi] at q2
            exact ⟨i, i2, rfl, ⟨(in_ok g1).1, (in_ok g1).2, (in_ok g2).1, (in_ok g2).2⟩, q2.ret j2 (wk_rng i _)⟩
        | _ => exact False.elim q2
      | _ => cases r2 <;> exact False.elim q2
    | .cons e (.cons e2 (.cons e3 es)), _ => exact ⟨fun pins s σ H Q I ⟨e0, F, ι, sl, h, j, q⟩ => False.elim q⟩
  | .enum xp e p, X, Z, n, tg, tk, ok => by
    obtain ⟨o1, o2⟩ := and_ok (show (glB X.env.scope "enumerate" && e.okE c X.env.scope) = true from ok)
    cases tg with
    | tup ts m tp =>
      refine PI.imp (pi_enum (glB_ok o1) n.enum (pa_cons (E.pe e X Z n false o2) pa_nil (star_un e _)) (star_un e _)) ?_
      rintro σ H Q ⟨e0, F, ι, sl, h, j, q⟩
      refine ⟨e0, F, ι, sl, h, j, q.bind fun x h1 F1 ι1 H1 v l1 j1 r1 q1 => ?_⟩
      cases r1 with
      | lst e1 rv => exact ⟨_, _, rfl, .inl (.inl (j1.hr.sub _ _ e1)), q1.ret j1 (wk_enum (.inl (.inl e1)) rv)⟩
      | _ => exact False.elim q1
    | _ => cases tk
  | .zip xp a b p, X, Z, n, tg, tk, ok => by
    obtain ⟨o1, o2⟩ := and_ok (show (glB X.env.scope "zip" && (a.okE c X.env.scope && b.okE c X.env.scope)) = true from ok)
    obtain ⟨o2, o3⟩ := and_ok o2
    cases tg with
    | tup ts m tp =>
      refine PI.imp (pi_zip (glB_ok o1) n.zip (pa_cons (E.pe a X Z n false o2) (pa_cons (E.pe b X Z n false o3) pa_nil (star_un b _)) (star_un a _)) (star_un a _) (by rw [star_un b]; rfl)) ?_
      rintro σ H Q ⟨e0, F, ι, sl, h, j, q⟩
      refine ⟨e0, F, ι, sl, h, j, q.bind fun x h1 F1 ι1 H1 v l1 j1 r1 q1 => ⟨e0, F1, ι1, sl, h1, j1, q1.bind fun y h2 F2 ι2 H2 u l2 j2 r2 q2 => ?_⟩⟩
      cases r1 with
      | lst e1 rv =>
        cases r2 with
        | lst e2 rv2 => exact ⟨_, _, _, _, rfl, .inl (.inl (j2.hr.sub _ _ (l2.f _ _ e1))), .inl (.inl (j2.hr.sub _ _ e2)), q2.ret j2 (wk_zip (.inl (.inl (l2.f _ _ e1))) (rv.mono l2) (.inl (.inl e2)) rv2)⟩
        | _ => exact False.elim q2
      | _ => cases r2 <;> exact False.elim q2
    | _ => cases tk
end
end Ev

set_option maxHeartbeats 1000000
namespace Ev
open PySem PySem.Spec PyProof.Rows L2

/-! ## what a statement is asked -/
def PoS (X : Cx) (Z : WX) (e0 : Ent) (F : Hp) (ι : List Addr) (r : Out) (G : Ends) : Prop := match r with
  | .nx s' h' => ∀ F' ι' σ' H', Le F ι F' ι' → J X.K e0 F' ι' s' h' σ' H' → G.nx σ' H'
  | .bk s' h' => ∀ F' ι' σ' H', Le F ι F' ι' → J X.K e0 F' ι' s' h' σ' H' → G.bk σ' H'
  | .ct s' h' => ∀ F' ι' σ' H', Le F ι F' ι' → J X.K e0 F' ι' s' h' σ' H' → G.ct σ' H'
  | .rt w h' => ∀ F' ι' s' σ' H' v, Le F ι F' ι' → J X.K e0 F' ι' s' h' σ' H' → RV X.K F' ι' w v → G.rt v H'
  | .exc x s' h' => ∀ F' ι' σ' H' cls d, Le F ι F' ι' → J X.K e0 F' ι' s' h' σ' H' → RX X.K X.mg F' ι' x cls d → Z cls d σ' H'
  | .bad => False
def tS (X : Cx) (Z : WX) (m : Sls → Obs → Out) : TS := fun G σ H => ∃ e0 F ι sl h, J X.K e0 F ι sl h σ H ∧ PoS X Z e0 F ι (m sl h) G
section
variable {X : Cx} {Z : WX} {e0 : Ent} {F F1 : Hp} {ι ι1 : List Addr} {sl : Sls} {σ : VS} {G : Ends} {β : Type}
theorem PoS.le {r : Out} (p : PoS X Z e0 F ι r G) (l : Le F ι F1 ι1) : PoS X Z e0 F1 ι1 r G := by
  cases r with
  | nx s' h' => exact fun F' ι' σ' H' l2 j => p F' ι' σ' H' (l.trans l2) j
  | bk s' h' => exact fun F' ι' σ' H' l2 j => p F' ι' σ' H' (l.trans l2) j
  | ct s' h' => exact fun F' ι' σ' H' l2 j => p F' ι' σ' H' (l.trans l2) j
  | rt w h' => exact fun F' ι' s' σ' H' v l2 j r => p F' ι' s' σ' H' v (l.trans l2) j r
  | exc x s' h' => exact fun F' ι' σ' H' cls d l2 j r => p F' ι' σ' H' cls d (l.trans l2) j r
  | bad => exact p
/-- a value, then the rest -/
theorem PoS.out {rel : Hp → List Addr → W → β → Prop} {r : R W} {f : W → Obs → Out} {Q1 : β → Hp → Prop} (p : PoS X Z e0 F ι (r.out sl f) G)
    (k : ∀ a h1 F1 ι1 H1 v, Le F ι F1 ι1 → J X.K e0 F1 ι1 sl h1 σ H1 → rel F1 ι1 a v → PoS X Z e0 F1 ι1 (f a h1) G → Q1 v H1) : Po (bx X Z e0) F ι sl σ rel r Q1 := by
  cases r with
  | ok a h => exact fun F1 ι1 H1 v l j q => k a h F1 ι1 H1 v l j q (PoS.le (show PoS X Z e0 F ι (f a h) G from p) l)
  | exc x h => exact fun F1 ι1 H1 cls d l j q => p F1 ι1 σ H1 cls d l j q
  | bad => exact p
/-- a test -/
theorem PoS.tst {r : R Bool} {f g : Obs → Out} {Q1 : Bool → Hp → Prop} (p : PoS X Z e0 F ι (match r with | .ok true h => f h | .ok false h => g h | .exc x h => .exc x sl h | .bad => .bad) G)
    (k : ∀ a h1 F1 ι1 H1, Le F ι F1 ι1 → J X.K e0 F1 ι1 sl h1 σ H1 → PoS X Z e0 F1 ι1 (match a with | true => f h1 | false => g h1) G → Q1 a H1) : Po (bx X Z e0) F ι sl σ (fun _ _ a v => a = v) r Q1 := by
  cases r with
  | ok a h =>
    intro F1 ι1 H1 v l j q
    subst q
    cases a with
    | true => exact k true h F1 ι1 H1 l j (PoS.le (show PoS X Z e0 F ι (f h) G from p) l)
    | false => exact k false h F1 ι1 H1 l j (PoS.le (show PoS X Z e0 F ι (g h) G from p) l)
  | exc x h => exact fun F1 ι1 H1 cls d l j q => p F1 ι1 σ H1 cls d l j q
  | bad => exact p
end
section
variable {X : Cx} {st : Stmt} {sts : List Stmt}
theorem PS.imp {t t' : TS} (h : PS X st t) (i : ∀ G σ H, t' G σ H → t G σ H) : PS X st t' := ⟨fun pins s σ H G I q => h.run pins s σ H G I (i G σ H q)⟩
theorem PS.never {t : TS} (n : ∀ G σ H, ¬ t G σ H) : PS X st t := ⟨fun pins s σ H G I q => absurd q (n G σ H)⟩
theorem PSs.imp {t t' : TS} (h : PSs X sts t) (i : ∀ G σ H, t' G σ H → t G σ H) : PSs X sts t' := ⟨fun pins s σ H G I q => h.run pins s σ H G I (i G σ H q)⟩
end

/-! ## what the syntax asks of a scope -/
def E.isLc : E → Bool
  | .tr e => e.isLc
  | .lc .. => true
  | _ => false
def E.isTup : E → Bool
  | .tr e => e.isTup
  | .tup .. => true
  | _ => false
def Tg.isName : Tg → Bool
  | .name .. => true
  | _ => false
def Tg.isTupT : Tg → Bool
  | .tup .. => true
  | _ => false
/-- one of the targets is no name -/
def Tgs.odd : Tgs → Bool
  | .nil => false
  | .cons t ts => !t.isName || ts.odd
def Tg.oddT : Tg → Bool
  | .tup ts _ _ => ts.odd
  | _ => false
def slotL (N : List Str) (sc : Scope) (x : Str) (i : Nat) : Bool := decide (N[i]? = some x) && locB sc x
mutual
def Tg.okT (c : Oc) (sc : Scope) : Tg → Bool
  | .name x i _ => slotL c.N sc x i
  | .tup ts _ _ => ts.okT c sc
  | .sub a i _ => a.okE c sc && i.okE c sc
def Tgs.okT (c : Oc) (sc : Scope) : Tgs → Bool
  | .nil => true
  | .cons t ts => t.okT c sc && ts.okT c sc
end
mutual
def S.okS (c : Oc) (sc : Scope) : S → Bool
  | .asg x i _ e _ => slotL c.N sc x i && e.okE c sc
  | .asgO x i _ e _ => slotL c.N sc x i && e.okE c sc
  | .par _ _ x i xp y j yp _ _ a b _ _ _ => slotL c.N sc x i && (slotL c.N sc y j && (decide (i ≠ j) && (decide (yp.line = xp.line) && ((!([a.un, b.un].all (foldedForSure 8)) && !([a.un, b.un].all (constantsAlone 8))) && (a.okE c sc && b.okE c sc)))))
  | .asgT t e _ => (!(t.isName && e.isLc) && (!(t.isTupT && e.isTup) || t.oddT)) && (t.okT c sc && e.okE c sc)
  | .pop t x i _ ap cp _ => (ap.endLine == cp.line) && (slotB c.N sc x i && t.okT c sc)
  | .app x i _ ap e cp _ => (ap.endLine == cp.line) && (slotB c.N sc x i && e.okE c sc)
  | .ext x i _ ap e cp _ => (ap.endLine == cp.line) && (slotB c.N sc x i && e.okE c sc)
  | .expr e _ => !e.isLc && e.okE c sc
  | .ret e _ => e.okE c sc
  | .retN _ => true
  | .ite t a b _ => t.okE c sc && (a.okS c sc && b.okS c sc)
  | .whl t b _ => t.okE c sc && b.okS c sc
  | .for t it b _ => tgIt t it && (t.okT c sc && (it.okE c sc && b.okS c sc))
  | .frz _ s => s.okS c sc
  | .pass _ => true | .brk _ => true | .cnt _ => true
def Ss.okS (c : Oc) (sc : Scope) : Ss → Bool
  | .nil => true
  | .cons s ss => s.okS c sc && ss.okS c sc
end
theorem slotL_ok {N : List Str} {sc : Scope} {x : Str} {i : Nat} (h : slotL N sc x i = true) : N[i]? = some x ∧ sc.names.lookup x = some .local := by
  obtain ⟨h1, h2⟩ := and_ok h
  exact ⟨of_decide_eq_true h1, locB_ok h2⟩
section
variable {env : Env}
theorem sw_un (t : Option Expr) (l : Nat) : ∀ (e : E), e.isLc = false → swapsWith e.un t l env = pure false
  | .tr e, h => sw_un t l e h
  | .lc .., h => by cases h
  | .name .., _ | .peek .., _ | .cst .., _ | .int .., _ | .str .., _ | .bl .., _ | .non .., _ | .tup .., _ | .lst .., _ | .lstH .., _ | .emp .., _ | .bin .., _ | .neg .., _ | .not .., _ | .notV .., _ | .bop .., _ | .cmp .., _ | .chain .., _ | .ife .., _ | .call .., _ | .callK .., _ | .blt .., _ | .isi .., _ | .isiT .., _ | .sub .., _ | .slc .., _ | .dget .., _ | .din .., _ | .dicH .., _ => rfl
theorem sw_tg (l : Nat) : ∀ (t : Tg) (e : E), (!(t.isName && e.isLc)) = true → swapsWithSole [t.un] e.un l env = pure false
  | .name x i p, e, h => show swapsWith e.un (some (.Name x p)) l env = pure false from sw_un (some (.Name x p)) l e (by
    cases q : e.isLc with
    | false => rfl
    | true =>
      have h : (!(true && e.isLc)) = true := h
      rw [q] at h
      cases h)
  | .tup ts k p, e, _ => show swapsWith e.un (some (Tg.un (.tup ts k p))) l env = pure false from sw_other l (Tg.un (.tup ts k p)) (fun _ _ z => by cases z) e
  | .sub a i p, e, _ => show swapsWith e.un (some (Tg.un (.sub a i p))) l env = pure false from sw_other l (Tg.un (.sub a i p)) (fun _ _ z => by cases z) e
where sw_other (l : Nat) (t : Expr) (ht : ∀ x p, t ≠ .Name x p) : ∀ e : E, swapsWith e.un (some t) l env = pure false
  | .tr e => sw_other l t ht e
  | .lc .. => by
    cases t <;> first | rfl | exact absurd rfl (ht _ _)
  | .name .. | .peek .. | .cst .. | .int .. | .str .. | .bl .. | .non .. | .tup .. | .lst .. | .lstH .. | .emp .. | .bin .. | .neg .. | .not .. | .notV .. | .bop .. | .cmp .. | .chain .. | .ife .. | .call .. | .callK .. | .blt .. | .isi .. | .isiT .. | .sub .. | .slc .. | .dget .. | .din .. | .dicH .. => rfl
theorem odd_len (f : Expr → Option Str) (hf : ∀ t : Tg, t.isName = false → f t.un = none) : ∀ ts : Tgs, (ts.un.filterMap f).length ≤ ts.un.length ∧ (ts.odd = true → (ts.un.filterMap f).length < ts.un.length)
  | .nil => ⟨Nat.le_refl _, fun h => by cases h⟩
  | .cons t ts => by
    obtain ⟨h1, h2⟩ := odd_len f hf ts
    have z : Tgs.un (.cons t ts) = t.un :: ts.un := rfl
    rw [z, List.filterMap_cons]
    cases q : t.isName with
    | false =>
      rw [hf t q]
      exact ⟨Nat.le_succ_of_le h1, fun _ => Nat.lt_succ_of_le h1⟩
    | true =>
      cases f t.un with
      | none => exact ⟨Nat.le_succ_of_le h1, fun _ => Nat.lt_succ_of_le h1⟩
      | some x =>
        refine ⟨Nat.succ_le_succ h1, fun h => Nat.succ_lt_succ (h2 ?_)⟩
        have h : (!t.isName || ts.odd) = true := h
        rw [q] at h
        simpa using h
theorem stores_odd (ts : Tgs) (k : Nat) (p : Pos) (h : ts.odd = true) : ∀ v : Expr, swappedStores [.Tuple ts.un k p] v env = pure none := by
  intro v
  cases v with
  | Tuple vs k2 p2 =>
    unfold swappedStores
    simp only
    split
    · rfl
    · split
      · rfl
      · split
        · rfl
        · rename_i hn
          exfalso
          have z := (odd_len (fun x => match x with | .Name id pos => if (env.kindOf id == some .local && pos.line == (Option.map (fun x => x.pos.line) ts.un.head?).getD 0) = true then some id else none | _ => none) (fun t q => by cases t <;> first | rfl | cases q) ts).2 h
          apply hn
          simp only [Bool.or_eq_true, bne_iff_ne, ne_eq]
          left
          exact Nat.ne_of_lt z
  | _ => rfl
theorem stores_un : ∀ (t : Tg) (e : E), (!(t.isTupT && e.isTup)) = true → swappedStores [t.un] e.un env = pure none
  | .name .., e, _ => rfl
  | .sub .., e, _ => rfl
  | .tup ts k p, e, h => no_tup ts.un k p e (by
    have h : (!(true && e.isTup)) = true := h
    cases q : e.isTup with
    | false => rfl
    | true => rw [q] at h; cases h)
where no_tup (ts : List Expr) (k : Nat) (p : Pos) : ∀ e : E, e.isTup = false → swappedStores [.Tuple ts k p] e.un env = pure none
  | .tr e, h => no_tup ts k p e h
  | .tup .., h => by cases h
  | .name .., _ | .peek .., _ | .cst .., _ | .int .., _ | .str .., _ | .bl .., _ | .non .., _ | .lst .., _ | .lstH .., _ | .emp .., _ | .bin .., _ | .neg .., _ | .not .., _ | .notV .., _ | .bop .., _ | .cmp .., _ | .chain .., _ | .ife .., _ | .call .., _ | .callK .., _ | .blt .., _ | .isi .., _ | .isiT .., _ | .sub .., _ | .slc .., _ | .lc .., _ | .dget .., _ | .din .., _ | .dicH .., _ => rfl
end

/-! ## new lists -/
section
variable {X : Cx} {Z : WX} {D : Dn} {c : Oc}
theorem E.plc (n : Cn X Z D c) {e : E} {tg : Tg} {it : It} {t : Eo} {vs : List (Str × Nat)} {sc : Scope} {p : Pos} (ok : E.okE c X.env.scope (.lc e tg it t vs sc p) = true) :
    PE X (E.un (.lc e tg it t vs sc p)) (tF X Z (fun σ h => match noOwn σ (ixs vs) with
      | true => (it.den D σ h).bind fun xs h => lcGo (fun x => tg.put x (wipeS σ (ixs vs))) (fun σ h => t.tst D σ h) (fun σ h => e.den D false σ h) xs [] h
      | false => .bad)) := by
  obtain ⟨o1, o2⟩ := and_ok (show (blkC c.N X.env.scope sc vs && (tgIt tg it && (it.okE c X.env.scope && (tg.okC c (relS sc X.env.scope) (ixs vs) && (e.okE c (relS sc X.env.scope) && t.okE c (relS sc X.env.scope)))))) = true from ok)
  obtain ⟨o2, o3⟩ := and_ok o2
  obtain ⟨o3, o4⟩ := and_ok o3
  obtain ⟨o4, o5⟩ := and_ok o4
  obtain ⟨o5, o6⟩ := and_ok o5
  exact lc_of (e := e) (sc := sc) (p := p) n o1 o4 (It.pi it X Z n tg o2 o3) (fun s H C cl fp => Eo.pt t (X.blk s H sc (compEnvC sc cl C X.env) fp) nox (n.blk ..) o6)
      (fun s H C cl fp => E.pe e (X.blk s H sc (compEnvC sc cl C X.env) fp) nox (n.blk ..) false o5)
/-- a list by a sum: new -/
theorem cat_new {e0 : Ent} {F : Hp} {ι : List Addr} {sl : Sls} {h : Obs} {σ : VS} {H : Hp} {x y : W} {v u : V} {ws : List W} (j : J X.K e0 F ι sl h σ H) (r1 : RN X.K F ι H x v) (r2 : RN X.K F ι H y u) (e : binW .add x y = some (.lst ws)) {Q : VK}
    (k : ∀ p vs, H p = none → RVs X.K F ι ws vs → Q (.ref p) (upd H p (.lst vs))) : rCat v u H Q := by
  have e : addW x y = some (.lst ws) := e
  cases x with
  | lst a =>
    cases y with
    | lst b =>
      have e : (match lineN (a.length + b.length) with | true => some (W.lst (a ++ b)) | false => none) = some (.lst ws) := e
      obtain ⟨p, xs, rfl, hp, rx⟩ := r1.lst j.hr.sub
      obtain ⟨q, ys, rfl, hq, ry⟩ := r2.lst j.hr.sub
      split at e
      · rename_i hl
        cases e
        refine ⟨p, q, xs, ys, rfl, rfl, hp, hq, by rw [← rx.length, ← ry.length]; exact lineN_ok hl, fun l hl => k l _ hl (rx.append ry)⟩
      · cases e
    | _ => cases e
  | int i => cases y <;> cases e
  | str s =>
    cases y with
    | str t =>
      have e : (match lineN (s.length + t.length) with | true => some (W.str (s ++ t)) | false => none) = some (.lst ws) := e
      split at e <;> cases e
    | _ => cases e
  | _ => cases e
theorem E.pf (n : Cn X Z D c) : ∀ (e : E), e.okE c X.env.scope = true → PE X e.un (tF X Z (e.fresh D))
  | .lst es p, ok => by
    refine PE.imp (pe_lst (Es.pa es X Z n false ok)) ?_
    rintro σ H Q ⟨e0, F, ι, sl, h, j, q⟩
    refine ⟨e0, F, ι, sl, h, j, PoF.bind q fun ws h1 F1 ι1 H1 vs l1 j1 r1 q1 => ?_⟩
    cases hl : lineN ws.length with
    | false => simp only [hl] at q1; exact False.elim q1
    | true =>
      simp only [hl] at q1
      refine ⟨by rw [← r1.rvs.length]; exact lineN_ok hl, fun a ha => ?_⟩
      exact q1 F1 ι1 _ a vs .refl (j1.loose ha) (j1.nw ha) r1.rvs
  | .bin .add a b p, ok => by
    obtain ⟨o1, o2⟩ := and_ok (show (a.okE c X.env.scope && b.okE c X.env.scope) = true from ok)
    refine PE.imp (pe_op op_cat (E.pe a X Z n true o1) (E.pe b X Z n true o2)) ?_
    rintro σ H Q ⟨e0, F, ι, sl, h, j, q⟩
    refine ⟨e0, F, ι, sl, h, j, PoF.bind q fun x h1 F1 ι1 H1 v l1 j1 r1 q1 => ⟨e0, F1, ι1, sl, h1, j1, PoF.bind q1 fun y h2 F2 ι2 H2 u l2 j2 r2 q2 => ?_⟩⟩
    cases hb : binW .add (x.now h2) (y.now h2) with
    | none => simp only [hb] at q2; exact False.elim q2
    | some w =>
      cases w with
      | lst ws =>
        simp only [hb] at q2
        exact cat_new j2 (j2.now (r1.mono l2).op) (j2.now r2.op) hb fun p vs hp rv => q2 F2 ι2 _ p vs .refl (j2.loose hp) (j2.nw hp) rv
      | _ => simp only [hb] at q2; exact False.elim q2
  | .blt .list xp es p, ok => by
    obtain ⟨o1, o2⟩ := and_ok (show (glB X.env.scope "list" && (!es.isNil && es.okE c X.env.scope)) = true from ok)
    obtain ⟨o2, o3⟩ := and_ok o2
    have ha := Es.pa es X Z n true o3
    cases es with
    | nil => cases o2
    | cons e es =>
      refine PE.imp (pe_callTy call_list_of (glB_ok o1) (n.bt .list) (bt_boot .list) ha (bt_name .list).1 (bt_name .list).2 (star_un e es.un) (plain_un p es)) ?_
      rintro σ H Q ⟨e0, F, ι, sl, h, j, q⟩
      refine ⟨e0, F, ι, sl, h, j, PoF.bind q fun ws h1 F1 ι1 H1 vs l1 j1 r1 q1 => ?_⟩
      have rn := r1.rns j1
      cases hb : bltW .list (ws.map (W.now h1)) with
      | none => simp only [hb] at q1; exact False.elim q1
      | some w =>
        obtain ⟨a, ea, eb⟩ := on1_ok (f := listW) hb
        rw [ea] at rn
        obtain ⟨v, rfl, rv⟩ := rn.one
        have fin : ∀ {us : List W}, a.items = some us → w = .lst us → ∃ p vs, v = .ref p ∧ (SqL X.K H1 p vs ∨ SqT X.K H1 p vs) ∧ ∀ l, H1 l = none → Q (.ref l) (upd H1 l (.lst vs)) := fun {us} hi ew => by
          subst ew
          simp only [hb] at q1
          obtain ⟨p, vs, rfl, sq, rvs⟩ := rv.items j1.hr.sub hi
          exact ⟨p, vs, rfl, sq, fun l hl => q1 F1 ι1 _ l vs .refl (j1.loose hl) (j1.nw hl) rvs⟩
        unfold listW at eb
        split at eb
        · cases eb
          obtain ⟨p, vs, rfl, sq, k⟩ := fin rfl rfl
          exact ⟨p, vs, rfl, sq, k⟩
        · cases eb
          obtain ⟨p, vs, rfl, sq, k⟩ := fin rfl rfl
          exact ⟨p, vs, rfl, sq, k⟩
        · cases eb
  | .slc a lo hi sp p, ok => by
    obtain ⟨o1, o2⟩ := and_ok (show (a.okE c X.env.scope && (lo.okE c X.env.scope && hi.okE c X.env.scope)) = true from ok)
    obtain ⟨o2, o3⟩ := and_ok o2
    refine PE.imp (pe_slice sl_list (E.pe a X Z n true o1) (Eo.po lo X Z n o2) (Eo.po hi X Z n o3)) ?_
    rintro σ H Q ⟨e0, F, ι, sl, h, j, q⟩
    have q : PoF (bx X Z e0) F ι sl σ ((a.den D true sl h).bind fun x h => (lo.den D sl h).bind fun l h => (hi.den D sl h).bind fun u h => (R.opt (slcW (x.now h) l u) h).bind fun w h => match w with | .lst ws => .ok ws h | _ => .bad) Q := by
      have z : ∀ {α β γ : Type} (r : R α) (f : α → Obs → R β) (g : β → Obs → R γ), (r.bind f).bind g = r.bind fun a h => (f a h).bind g := fun r f g => by cases r <;> rfl
      have q : PoF (bx X Z e0) F ι sl σ (((a.den D true sl h).bind fun x h => (lo.den D sl h).bind fun l h => (hi.den D sl h).bind fun u h => R.opt (slcW (x.now h) l u) h).bind fun w h => match w with | .lst ws => .ok ws h | _ => .bad) Q := q
      simp only [z] at q
      exact q
    refine ⟨e0, F, ι, sl, h, j, PoF.bind q fun x h1 F1 ι1 H1 v l1 j1 r1 q1 => ⟨e0, F1, ι1, sl, h1, j1, PoF.bind q1 fun y h2 F2 ι2 H2 u l2 j2 r2 q2 => ⟨e0, F2, ι2, sl, h2, j2, PoF.bind q2 fun z h3 F3 ι3 H3 t l3 j3 r3 q3 => ?_⟩⟩⟩
    subst r2
    subst r3
    have rn := j3.now ((r1.mono l2).mono l3).op
    cases hx : x.now h3 with
    | lst ws =>
      rw [hx] at rn
      simp only [hx] at q3
      obtain ⟨a, vs, rfl, ha, rv⟩ := rn.lst j3.hr.sub
      exact ⟨a, vs, rfl, .inl (.inl ha), fun p hp => q3 F3 ι3 _ p _ .refl (j3.loose hp) (j3.nw hp) (rv.cutR y z)⟩
    | tup ws =>
      simp only [hx, slcW] at q3
      cases hd : (decide (HT.sIx ws.length 0 y = 0) && decide (HT.sIx ws.length ws.length z = ws.length)) <;> (simp only [hd] at q3; exact False.elim q3)
    | _ => simp only [hx] at q3; exact False.elim q3
  | .lc e tg it t vs sc p, ok => PE.imp (E.plc n ok) fun σ H Q q => q
  | .bin .sub .., ok | .bin .mul .., ok | .bin .fdiv .., ok | .bin .mod .., ok | .bin .pow .., ok => PE.never fun σ H Q ⟨e0, F, ι, sl, h, j, q⟩ => q
  | .blt .len .., ok | .blt .abs .., ok | .blt .max .., ok | .blt .min .., ok | .blt .int .., ok | .blt .divmod .., ok | .blt .repr .., ok | .blt .all .., ok | .blt .tuple .., ok => PE.never fun σ H Q ⟨e0, F, ι, sl, h, j, q⟩ => q
  | .tr .., ok | .name .., ok | .peek .., ok | .cst .., ok | .int .., ok | .str .., ok | .bl .., ok | .non .., ok | .tup .., ok | .lstH .., ok | .emp .., ok | .neg .., ok | .not .., ok | .notV .., ok | .bop .., ok | .cmp .., ok | .chain .., ok | .ife .., ok | .call .., ok | .callK .., ok | .isi .., ok | .isiT .., ok | .sub .., ok | .dget .., ok | .din .., ok | .dicH .., ok => PE.never fun σ H Q ⟨e0, F, ι, sl, h, j, q⟩ => q
end
/-! ## targets -/
def tTg (X : Cx) (m : W → Sls → Obs → R Sls) : TG := fun v σ H Q => ∃ e0 F ι sl h w, J X.K e0 F ι sl h σ H ∧ RV X.K F ι w v ∧ match m w sl h with
  | .ok s1 h1 => ∀ F1 ι1 σ1 H1, Le F ι F1 ι1 → J X.K e0 F1 ι1 s1 h1 σ1 H1 → Q σ1 H1
  | _ => False
def tTgs (X : Cx) (m : List W → Sls → Obs → R Sls) : TGs := fun vs σ H Q => ∃ e0 F ι sl h ws, J X.K e0 F ι sl h σ H ∧ RVs X.K F ι ws vs ∧ match m ws sl h with
  | .ok s1 h1 => ∀ F1 ι1 σ1 H1, Le F ι F1 ι1 → J X.K e0 F1 ι1 s1 h1 σ1 H1 → Q σ1 H1
  | _ => False
theorem asub_un {env : Env} (o : Expr) (p : Pos) (v : Value) : ∀ (i : E), assign (.Subscript o i.un p) env v = (do
      let a ← holding [v] (eval o env)
      let b ← holding [v, a] (eval i.un env)
      standAt p
      holding [v, a, b] (setItem a b v)
      release [v, a, b] [])
  | .tr e => asub_un o p v e
  | .name .. | .peek .. | .cst .. | .int .. | .str .. | .bl .. | .non .. | .tup .. | .lst .. | .lstH .. | .emp .. | .bin .. | .neg .. | .not .. | .notV .. | .bop .. | .cmp .. | .chain .. | .ife .. | .call .. | .callK .. | .blt .. | .isi .. | .isiT .. | .sub .. | .slc .. | .lc .. | .dget .. | .din .. | .dicH .. => rfl
/-- o[i] = v, a list or a dict -/
def rSet : V → V → V → Hp → (Hp → Prop) → Prop := fun o i v H Q => rSetL o i v H Q ∨ ∃ a H', o = .ref a ∧ DPut H a i v H' ∧ Q H'
theorem set_any {X : Cx} (hu : X.A.units + 1 < cLine) : PSet X rSet := by
  intro pins s σ H o i v ov iv u Q I ro ri rv h
  rcases h with h | ⟨a, H', rfl, g, q⟩
  · exact set_list pins s σ H o i v ov iv u Q I ro ri rv h
  · cases ro
    exact d_setItem hu I g ri rv fun s' I' => ⟨H', I', q⟩
theorem tgs_len {D : Dn} : ∀ {ts : Tgs} {ws : List W} {sl s1 : Sls} {h h1 : Obs}, ts.den D ws sl h = .ok s1 h1 → ws.length = ts.len
  | .nil, [], _, _, _, _, _ => rfl
  | .nil, _ :: _, _, _, _, _, z => by cases z
  | .cons t ts, [], _, _, _, _, z => by cases z
  | .cons t ts, w :: ws, sl, s1, h, h1, z => by
    have z : (match t.den D w sl h with | .ok s h => ts.den D ws s h | _ => .bad) = R.ok s1 h1 := z
    cases q : t.den D w sl h with
    | ok s h2 =>
      rw [q] at z
      exact congrArg (· + 1) (tgs_len z)
    | exc x h2 => rw [q] at z; cases z
    | bad => rw [q] at z; cases z
section
variable {X : Cx} {Z : WX} {D : Dn} {c : Oc}
mutual
theorem Tg.pg (n : Cn X Z D c) : ∀ (t : Tg), t.okT c X.env.scope = true → PG X t.un (tTg X (t.den D))
  | .name x i p, ok => by
    obtain ⟨h1, h2⟩ := slotL_ok ok
    refine PG.imp (pg_name n.nd (i := i) (by rw [n.N]; exact h1) (.inl h2) (.inr h2)) ?_
    rintro v σ H Q ⟨e0, F, ι, sl, h, w, j, r, k⟩
    exact k F ι _ H .refl (j.setV r)
  | .tup ts m p, ok => by
    refine PG.imp (pg_tup n.calm (Tgs.pg n ts ok) (each_len ts) (each_star ts)) ?_
    rintro v σ H Q ⟨e0, F, ι, sl, h, w, j, r, k⟩
    cases r with
    | @tup ws a vs sq rv =>
      refine ⟨_, _, rfl, sqT_mono j.hr.sub sq, ?_, e0, F, ι, sl, h, ws, j, rv, k⟩
      have k : (match ts.den D ws sl h with | .ok s1 h1 => ∀ F1 ι1 σ1 H1, Le F ι F1 ι1 → J X.K e0 F1 ι1 s1 h1 σ1 H1 → Q σ1 H1 | _ => False) := k
      rw [← rv.length]
      cases q : ts.den D ws sl h with
      | ok s1 h1 => exact tgs_len q
      | exc x h1 => rw [q] at k; exact False.elim k
      | bad => rw [q] at k; exact False.elim k
    | _ => exact False.elim k
  | .sub a i p, ok => by
    obtain ⟨o1, o2⟩ := and_ok (show (a.okE c X.env.scope && i.okE c X.env.scope) = true from ok)
    have hu := n.un
    refine PG.imp (pg_sub (E.pe a X Z n false o1) (E.pe i X Z n false o2) (set_any (by omega)) (fun v => asub_un a.un p v i)) ?_
    rintro v σ H Q ⟨e0, F, ι, sl, h, w, j, r, k⟩
    have fin : Tg.den D (.sub a i p) w sl h = .bad → False := fun e => by rw [e] at k; exact k
    refine ⟨e0, F, ι, sl, h, j, ?_⟩
    cases q1 : a.den D false sl h with
    | exc x h1 => exact (fin (by simp only [Tg.den, q1])).elim
    | bad => exact (fin (by simp only [Tg.den, q1])).elim
    | ok x h1 =>
      intro F1 ι1 H1 v1 l1 j1 r1
      cases r1 with
      | @ref nn ad e1 =>
        refine ⟨e0, F1, ι1, sl, h1, j1, ?_⟩
        cases q2 : i.den D false sl h1 with
        | exc x h2 => exact (fin (by simp only [Tg.den, q1, q2])).elim
        | bad => exact (fin (by simp only [Tg.den, q1, q2])).elim
        | ok y h2 =>
          intro F2 ι2 H2 v2 l2 j2 r2
          cases q3 : h2[nn]? with
          | none => exact (fin (by simp only [Tg.den, q1, q2, q3])).elim
          | some o =>
            have e2 := l2.at e1
            obtain ⟨fn, ob⟩ := j2.hr.ob nn ad _ e2 q3
            cases o with
            | lst ws =>
              cases r2 with
              | int m =>
                obtain ⟨xs, hx, rx⟩ := ob
                cases q4 : ixN ws.length m with
                | none => exact (fin (by simp only [Tg.den, q1, q2, q3, q4])).elim
                | some jj =>
                  simp only [Tg.den, q1, q2, q3, q4] at k
                  refine .inl ⟨ad, xs, m, jj, rfl, rfl, hx, by rw [← rx.length]; exact q4, ?_⟩
                  exact k F2 ι2 σ _ (l1.trans l2) (j2.mutH e2 fn (by rw [hx]; simp) (rx.set (r.mono (l1.trans l2)) jj))
              | _ => exact (fin (by simp only [Tg.den, q1, q2, q3])).elim
            | dic kvs =>
              cases r2 with
              | str s =>
                obtain ⟨ks, hx, rx⟩ := ob
                cases q4 : decide (kvs.length < sizeLine) with
                | false => exact (fin (by simp only [Tg.den, q1, q2, q3, q4])).elim
                | true =>
                  simp only [Tg.den, q1, q2, q3, q4] at k
                  refine .inr ⟨ad, _, rfl, .inl ⟨ks, .inr s, hx, rfl, by rw [← rx.length]; exact of_decide_eq_true q4, rfl⟩, ?_⟩
                  exact k F2 ι2 σ _ (l1.trans l2) (j2.mutB (b := .dic (dicPut kvs s w)) e2 fn (by rw [hx]; simp) ⟨_, rfl, rx.put (r.mono (l1.trans l2))⟩)
              | _ => exact (fin (by simp only [Tg.den, q1, q2, q3])).elim
      | _ => exact (fin (by simp only [Tg.den, q1])).elim
theorem Tgs.pg (n : Cn X Z D c) : ∀ (ts : Tgs), ts.okT c X.env.scope = true → PGs X ts.un (tTgs X (ts.den D))
  | .nil, ok => by
    refine PGs.imp pgs_nil ?_
    rintro vs σ H Q ⟨e0, F, ι, sl, h, ws, j, r, k⟩
    cases r with
    | nil => exact ⟨rfl, k F ι σ H .refl j⟩
    | cons _ _ => exact False.elim k
  | .cons t ts, ok => by
    obtain ⟨o1, o2⟩ := and_ok (show (t.okT c X.env.scope && ts.okT c X.env.scope) = true from ok)
    refine PGs.imp (pgs_cons (Tg.pg n t o1) (Tgs.pg n ts o2) (by rw [assignEach_un]; rfl)) ?_
    rintro vs σ H Q ⟨e0, F, ι, sl, h, ws, j, r, k⟩
    cases r with
    | nil => exact False.elim k
    | @cons w v ws us r1 rr =>
      refine ⟨_, _, rfl, e0, F, ι, sl, h, w, j, r1, ?_⟩
      have k : (match (match t.den D w sl h with | .ok s h => ts.den D ws s h | _ => .bad) with | .ok s1 h1 => ∀ F1 ι1 σ1 H1, Le F ι F1 ι1 → J X.K e0 F1 ι1 s1 h1 σ1 H1 → Q σ1 H1 | _ => False) := k
      cases q : t.den D w sl h with
      | ok s1 h1 =>
        rw [q] at k
        intro F1 ι1 σ1 H1 l1 j1
        refine ⟨e0, F1, ι1, s1, h1, ws, j1, rr.mono l1, ?_⟩
        have k : (match ts.den D ws s1 h1 with | .ok s1 h1 => ∀ F1 ι1 σ1 H1, Le F ι F1 ι1 → J X.K e0 F1 ι1 s1 h1 σ1 H1 → Q σ1 H1 | _ => False) := k
        cases q2 : ts.den D ws s1 h1 with
        | ok s2 h2 =>
          rw [q2] at k
          exact fun F2 ι2 σ2 H2 l2 j2 => k F2 ι2 σ2 H2 (l1.trans l2) j2
        | exc x h2 => rw [q2] at k; exact k
        | bad => rw [q2] at k; exact k
      | exc x h1 => rw [q] at k; exact k
      | bad => rw [q] at k; exact k
end
end
end Ev

set_option maxHeartbeats 1000000
namespace Ev
open PySem PySem.Spec PyProof.Rows L2

/-! ## what a name is given -/
def PoV (X : Cx) (Z : WX) (e0 : Ent) (F : Hp) (ι : List Addr) (sl : Sls) (σ : VS) (r : R Sl) (Q : V → Hp → Prop) : Prop := match r with
  | .ok (.val w) h' => ∀ F' ι' H' v, Le F ι F' ι' → J X.K e0 F' ι' sl h' σ H' → RV X.K F' ι' w v → Q v H'
  | .ok (.own ws) h' => ∀ F' ι' H' p us, Le F ι F' ι' → J X.K e0 F' ι' sl h' σ H' → Nw e0 F' ι' sl σ H' p us → RVs X.K F' ι' ws us → Q (.ref p) H'
  | .exc x h' => ∀ F' ι' H' cls d, Le F ι F' ι' → J X.K e0 F' ι' sl h' σ H' → RX X.K X.mg F' ι' x cls d → Z cls d σ H'
  | _ => False
def tV (X : Cx) (Z : WX) (m : Sls → Obs → R Sl) : TE := fun σ H Q => ∃ e0 F ι sl h, J X.K e0 F ι sl h σ H ∧ PoV X Z e0 F ι sl σ (m sl h) Q
section
variable {X : Cx} {Z : WX} {D : Dn} {c : Oc}
theorem E.pv (n : Cn X Z D c) (o : Bool) (e : E) (ok : e.okE c X.env.scope = true) : PE X e.un (tV X Z (e.give D o)) := by
  cases o with
  | true =>
    refine PE.imp (E.pf n e ok) ?_
    rintro σ H Q ⟨e0, F, ι, sl, h, j, q⟩
    refine ⟨e0, F, ι, sl, h, j, ?_⟩
    have q : PoV X Z e0 F ι sl σ ((e.fresh D sl h).bind fun ws h => .ok (.own ws) h) Q := q
    cases hr : e.fresh D sl h with
    | ok ws h1 => rw [hr] at q; exact q
    | exc x h1 => rw [hr] at q; exact q
    | bad => rw [hr] at q; exact q
  | false =>
    refine PE.imp (E.pe e X Z n false ok) ?_
    rintro σ H Q ⟨e0, F, ι, sl, h, j, q⟩
    refine ⟨e0, F, ι, sl, h, j, ?_⟩
    have q : PoV X Z e0 F ι sl σ ((e.den D false sl h).bind fun w h => .ok (.val w) h) Q := q
    cases hr : e.den D false sl h with
    | ok ws h1 => rw [hr] at q; exact q
    | exc x h1 => rw [hr] at q; exact q
    | bad => rw [hr] at q; exact q
/-- the slot's new state -/
theorem PoV.of {e0 : Ent} {F : Hp} {ι : List Addr} {sl : Sls} {σ : VS} {r : R Sl} {Q : V → Hp → Prop} {i : Nat} (k : ∀ s h' F' ι' H' v, r = .ok s h' → Le F ι F' ι' → J X.K e0 F' ι' (sl.set i s) h' (σ.set i (some v)) H' → Q v H')
    (x : ∀ y h' F' ι' H' cls d, r = .exc y h' → Le F ι F' ι' → J X.K e0 F' ι' sl h' σ H' → RX X.K X.mg F' ι' y cls d → Z cls d σ H') (nb : r ≠ .bad) (nn : ∀ h', r ≠ .ok .non h') : PoV X Z e0 F ι sl σ r Q := by
  cases r with
  | ok s h' =>
    cases s with
    | non => exact absurd rfl (nn h')
    | val w => exact fun F' ι' H' v l j q => k _ h' F' ι' H' v rfl l (j.setV q)
    | own ws => exact fun F' ι' H' p us l j n q => k _ h' F' ι' H' (.ref p) rfl l (j.setO n q)
  | exc y h' => exact fun F' ι' H' cls d l j q => x y h' F' ι' H' cls d rfl l j q
  | bad => exact absurd rfl nb
theorem give_non {o : Bool} {e : E} {sl : Sls} {h h' : Obs} : e.give D o sl h ≠ .ok .non h' := by
  intro z
  cases o with
  | true =>
    have z : ((e.fresh D sl h).bind fun ws h => R.ok (Sl.own ws) h) = .ok .non h' := z
    cases q : e.fresh D sl h <;> (rw [q] at z; cases z)
  | false =>
    have z : ((e.den D false sl h).bind fun w h => R.ok (Sl.val w) h) = .ok .non h' := z
    cases q : e.den D false sl h <;> (rw [q] at z; cases z)

/-! ## name = value -/
theorem asg_ps (n : Cn X Z D c) (o : Bool) {x : Str} {i : Nat} {xp p : Pos} {e : E} (ok : (slotL c.N X.env.scope x i && e.okE c X.env.scope) = true) :
    PS X (.Assign [.Name x xp] e.un p) (fun G σ H => tV X Z (e.give D o) σ H fun v H1 => G.nx (σ.set i (some v)) H1) := by
  obtain ⟨o1, o2⟩ := and_ok ok
  obtain ⟨h1, h2⟩ := slotL_ok o1
  have plain : swapsWith e.un (some (.Name x xp)) p.line X.env = pure false → PS X (.Assign [.Name x xp] e.un p) (fun G σ H => tV X Z (e.give D o) σ H fun v H1 => G.nx (σ.set i (some v)) H1) := fun hs =>
    PS.imp (ps_set n.nd (i := i) (by rw [n.N]; exact h1) (.inl h2) (E.pv n o e o2) hs (.inr h2)) fun G σ H q => q
  have go : ∀ e' : E, e'.un = e.un → e'.isLc = false → swapsWith e.un (some (.Name x xp)) p.line X.env = pure false := fun e' h1 h2 => by rw [← h1]; exact sw_un _ _ e' h2
  have lc : ∀ e' : E, e'.okE c X.env.scope = true → (∀ (σ : VS) (H : Hp) (Q : VK), tV X Z (e.give D o) σ H Q → tV X Z (e'.give D o) σ H Q) → e'.un = e.un → PS X (.Assign [.Name x xp] e.un p) (fun G σ H => tV X Z (e.give D o) σ H fun v H1 => G.nx (σ.set i (some v)) H1) := fun e' ok' im hu => by
    cases e' with
    | lc e1 tg it t vs sc q =>
      rw [← hu]
      refine ⟨fun pins s σ H G I hq => ?_⟩
      have kd := I.ok.kind
      have bk : X.env.blockKind = .function := by unfold Env.blockKind; rw [kd]; rfl
      have hs : swapsWith (E.un (.lc e1 tg it t vs sc q)) (some (.Name x xp)) p.line X.env = pure (xp.line == q.line && !sc.names.any fun (n, k) => n == x && (k == .local || k == .cell)) := by
        show pure (X.env.blockKind == .function && X.env.kindOf x == some .local && xp.line == q.line && !sc.names.any fun (n, k) => n == x && (k == .local || k == .cell)) = _
        have hk : X.env.kindOf x = some .local := h2
        rw [bk, hk]
        rfl
      cases hb : (xp.line == q.line && !sc.names.any fun (n, k) => n == x && (k == .local || k == .cell)) with
      | false =>
        rw [hb] at hs
        exact (PS.imp (ps_set n.nd (i := i) (by rw [n.N]; exact h1) (.inl h2) (E.pv n o _ ok') hs (.inr h2)) fun G σ H q => im σ H _ q).run pins s σ H G I hq
      | true =>
        rw [hb] at hs
        obtain ⟨o1, o2⟩ := and_ok (show (blkC c.N X.env.scope sc vs && (tgIt tg it && (it.okE c X.env.scope && (tg.okC c (relS sc X.env.scope) (ixs vs) && (e1.okE c (relS sc X.env.scope) && t.okE c (relS sc X.env.scope)))))) = true from ok')
        obtain ⟨o2, o3⟩ := and_ok o2
        obtain ⟨o3, o4⟩ := and_ok o3
        obtain ⟨o4, o5⟩ := and_ok o4
        obtain ⟨o5, o6⟩ := and_ok o5
        refine (PS.imp (t' := fun G σ H => tV X Z (e.give D o) σ H fun v H1 => G.nx (σ.set i (some v)) H1) (ps_setLc (i := i) (wi := tWk X Z (fun σ h => it.den D σ h)) (g := tPut X (ixs vs) tg.put) (tt := tT X nox (fun σ h => t.tst D σ h)) (te := tE X nox false (fun σ h => e1.den D false σ h)) n.calm n.nd (by rw [n.N]; exact h1) h2 hs (It.pi it X Z n tg o2 o3) (blkOk_by (by rw [n.N]; exact o1))
          (fun s H C cl fp => Tg.pput (X := X.blk s H sc (compEnvC sc cl C X.env) fp) n.calm n.N n.nd tg o4) (fun s H C cl fp => Eo.pt t (X.blk s H sc (compEnvC sc cl C X.env) fp) nox (n.blk ..) o6)
          (fun s H C cl fp => E.pe e1 (X.blk s H sc (compEnvC sc cl C X.env) fp) nox (n.blk ..) false o5) (foldedI_un it)) ?_).run pins s σ H G I hq
        intro G σ H hq
        obtain ⟨e0, F, ι, sl, h, j, hq⟩ := im σ H _ hq
        refine lc_rd ⟨e0, F, ι, sl, h, j, ?_⟩
        have up : PoF (bx X Z e0) F ι sl σ (E.fresh D (.lc e1 tg it t vs sc q) sl h) (fun v H1 => G.nx (σ.set i (some v)) H1) := by
          cases o with
          | true =>
            have hq : PoV X Z e0 F ι sl σ ((E.fresh D (.lc e1 tg it t vs sc q) sl h).bind fun ws h => .ok (.own ws) h) (fun v H1 => G.nx (σ.set i (some v)) H1) := hq
            cases hr : E.fresh D (.lc e1 tg it t vs sc q) sl h with
            | ok ws h1 => rw [hr] at hq; exact hq
            | exc x h1 => rw [hr] at hq; exact hq
            | bad => rw [hr] at hq; exact hq
          | false =>
            refine PoF.of (k := false) ?_
            have hq : PoV X Z e0 F ι sl σ (((E.fresh D (.lc e1 tg it t vs sc q) sl h).bind fun ws h => .ok (.lst ws) h).bind fun w h => .ok (.val w) h) (fun v H1 => G.nx (σ.set i (some v)) H1) := hq
            cases hr : E.fresh D (.lc e1 tg it t vs sc q) sl h with
            | ok ws h1 => rw [hr] at hq; exact hq
            | exc x h1 => rw [hr] at hq; exact hq
            | bad => rw [hr] at hq; exact hq
        exact up
    | tr e2 => exact PS.never (fun G σ H q => by
        obtain ⟨e0, F, ι, sl, h, j, q⟩ := im σ H _ q
        cases o <;> exact q)
    | _ => exact plain (go _ hu rfl)
  exact lc e o2 (fun _ _ _ q => q) rfl

/-! ## two names, two values -/
theorem not_ok {b : Bool} (h : (!b) = true) : b = false := by
  cases b with
  | false => rfl
  | true => cases h
theorem swap_two {env : Env} {x y : Str} {xp yp tp ep : Pos} {k1 k2 : Nat} {a b : Expr} (hk : env.scope.kind = .function) (hx : env.scope.names.lookup x = some .local) (hy : env.scope.names.lookup y = some .local) (hne : x ≠ y) (hl : yp.line = xp.line)
    (hf : [a, b].all (foldedForSure 8) = false) (hc : [a, b].all (constantsAlone 8) = false) (hs : ([a, b].any fun | .Starred .. => true | _ => false) = false) :
    swappedStores [.Tuple [.Name x xp, .Name y yp] k1 tp] (.Tuple [a, b] k2 ep) env = pure (some [x, y]) := by
  have bk : env.blockKind = .function := by unfold Env.blockKind; rw [hk]; rfl
  have kx : env.kindOf x = some .local := hx
  have ky : env.kindOf y = some .local := hy
  have e1 : (x == y) = false := beq_false_of_ne hne
  have e2 : (y == x) = false := beq_false_of_ne (Ne.symm hne)
  unfold swappedStores
  simp only [bk, hs]
  simp only [List.filterMap_cons, List.filterMap_nil, List.head?_cons, Option.map_some, Option.getD_some, kx, ky, Expr.pos, hl, beq_self_eq_true, Bool.and_self, if_true]
  simp [hf, hc, e1, e2, List.eraseDups_cons, bk]
  intro z
  simp only [List.any_cons, List.any_nil, Bool.or_false, Bool.or_eq_false_iff] at hs
  rcases z with z | z
  · exact Bool.noConfusion (hs.1.symm.trans z)
  · exact Bool.noConfusion (hs.2.symm.trans z)
theorem no_star : ∀ (e : E), (match e.un with | .Starred .. => true | _ => false) = false
  | .tr e => no_star e
  | .name .. | .peek .. | .cst .. | .int .. | .str .. | .bl .. | .non .. | .tup .. | .lst .. | .lstH .. | .emp .. | .bin .. | .neg .. | .not .. | .notV .. | .bop .. | .cmp .. | .chain .. | .ife .. | .call .. | .callK .. | .blt .. | .isi .. | .isiT .. | .sub .. | .slc .. | .lc .. | .dget .. | .din .. | .dicH .. => rfl

/-! ## statements -/
structure Cs (X : Cx) (Z : WX) (D : Dn) (c : Oc) : Prop extends Cn X Z D c where
  po : PassesOwn (model X.prog X.w) X.A X.env X.xe
section
variable {X : Cx} {Z : WX} {D : Dn} {c : Oc}
/-- x, y = a, b -/
theorem par_ps (n : Cn X Z D c) {o1 o2 : Bool} {x y : Str} {i k : Nat} {xp yp tp ep p : Pos} {k1 k2 : Nat} {a b : E} (ok : S.okS c X.env.scope (.par o1 o2 x i xp y k yp k1 tp a b k2 ep p) = true) :
    PS X (S.un (.par o1 o2 x i xp y k yp k1 tp a b k2 ep p)) (tS X Z (S.den D (.par o1 o2 x i xp y k yp k1 tp a b k2 ep p))) := by
  obtain ⟨g1, ok⟩ := and_ok (show (slotL c.N X.env.scope x i && (slotL c.N X.env.scope y k && (decide (i ≠ k) && (decide (yp.line = xp.line) && ((!([a.un, b.un].all (foldedForSure 8)) && !([a.un, b.un].all (constantsAlone 8))) && (a.okE c X.env.scope && b.okE c X.env.scope)))))) = true from ok)
  obtain ⟨g2, ok⟩ := and_ok ok
  obtain ⟨g3, ok⟩ := and_ok ok
  obtain ⟨g4, ok⟩ := and_ok ok
  obtain ⟨g5, ok⟩ := and_ok ok
  obtain ⟨g5, g6⟩ := and_ok g5
  obtain ⟨g7, g8⟩ := and_ok ok
  obtain ⟨x1, x2⟩ := slotL_ok g1
  obtain ⟨y1, y2⟩ := slotL_ok g2
  have hik : i ≠ k := of_decide_eq_true g3
  have hxy : x ≠ y := fun z => hik (nodup_ix n.nd (by rw [n.N]; exact x1) (by rw [n.N, z]; exact y1))
  refine ⟨fun pins s σ H G I hq => ?_⟩
  have hs : ([a.un, b.un].any fun | .Starred .. => true | _ => false) = false := by
    have z1 := no_star a
    have z2 := no_star b
    simp only [List.any_cons, List.any_nil, Bool.or_false, Bool.or_eq_false_iff]
    exact ⟨z1, z2⟩
  have hw := swap_two (xp := xp) (yp := yp) (tp := tp) (ep := ep) (k1 := k1) (k2 := k2) (a := a.un) (b := b.un) I.ok.kind x2 y2 hxy (of_decide_eq_true g4) (not_ok g5) (not_ok g6) hs
  refine (PS.imp (t' := tS X Z (S.den D (.par o1 o2 x i xp y k yp k1 tp a b k2 ep p))) (ps_par (i := i) (j := k) n.calm n.nd (by rw [n.N]; exact x1) (by rw [n.N]; exact y1) hik x2 y2 (pa_cons (E.pv n o1 a g7) (pa_cons (E.pv n o2 b g8) pa_nil (star_un b _)) (star_un a _)) hw) ?_).run pins s σ H G I hq
  rintro G σ H ⟨e0, F, ι, sl, h, j, q⟩
  have q : PoS X Z e0 F ι (match a.give D o1 sl h with
    | .ok s1 h => (match b.give D o2 sl h with
      | .ok s2 h => .nx ((sl.set i s1).set k s2) h
      | .exc x h => .exc x sl h
      | .bad => .bad)
    | .exc x h => .exc x sl h
    | .bad => .bad) G := q
  refine ⟨e0, F, ι, sl, h, j, ?_⟩
  cases ha : a.give D o1 sl h with
  | bad => rw [ha] at q; exact False.elim q
  | exc y h1 =>
    rw [ha] at q
    exact fun F1 ι1 H1 cls d l1 j1 r1 => q F1 ι1 σ H1 cls d l1 j1 r1
  | ok s1 h1 =>
    rw [ha] at q
    have q : PoS X Z e0 F ι (match b.give D o2 sl h1 with
      | .ok s2 h => .nx ((sl.set i s1).set k s2) h
      | .exc x h => .exc x sl h
      | .bad => .bad) G := q
    cases s1 with
    | non => exact absurd ha give_non
    | val w =>
      intro F1 ι1 H1 v l1 j1 r1
      refine ⟨e0, F1, ι1, sl, h1, j1, ?_⟩
      cases hb : b.give D o2 sl h1 with
      | bad => rw [hb] at q; exact False.elim q
      | exc y h2 =>
        rw [hb] at q
        exact fun F2 ι2 H2 cls d l2 j2 r2 => q F2 ι2 σ H2 cls d (l1.trans l2) j2 r2
      | ok s2 h2 =>
        rw [hb] at q
        cases s2 with
        | non => exact absurd hb give_non
        | val w2 => exact fun F2 ι2 H2 v2 l2 j2 r2 => ⟨v, v2, rfl, q F2 ι2 _ H2 (l1.trans l2) ((j2.setV (r1.mono l2)).setV r2)⟩
        | own us => exact fun F2 ι2 H2 p2 vs l2 j2 n2 r2 => ⟨v, .ref p2, rfl, q F2 ι2 _ H2 (l1.trans l2) ((j2.setV (r1.mono l2)).setO n2.setV r2)⟩
    | own us1 =>
      intro F1 ι1 H1 p1 vs1 l1 j1 n1 r1
      have j1' := j1.holdN n1
      have back : ∀ {F2 : Hp} {ι2 : List Addr} {h2 : Obs} {H2 : Hp}, J X.K { e0 with hold := upd e0.hold p1 (.lst vs1) } F2 ι2 sl h2 σ H2 → J X.K e0 F2 ι2 sl h2 σ H2 ∧ Nw e0 F2 ι2 sl σ H2 p1 vs1 := fun {F2 ι2 h2 H2} j2 => J.unhold n1.o n1.hd j2
      refine ⟨_, F1, ι1, sl, h1, j1', ?_⟩
      cases hb : b.give D o2 sl h1 with
      | bad => rw [hb] at q; exact False.elim q
      | exc y h2 =>
        rw [hb] at q
        exact fun F2 ι2 H2 cls d l2 j2 r2 => q F2 ι2 σ H2 cls d (l1.trans l2) (back j2).1 r2
      | ok s2 h2 =>
        rw [hb] at q
        cases s2 with
        | non => exact absurd hb give_non
        | val w2 => exact fun F2 ι2 H2 v2 l2 j2 r2 => ⟨.ref p1, v2, rfl, q F2 ι2 _ H2 (l1.trans l2) (((back j2).1.setO (back j2).2 (r1.mono l2)).setV r2)⟩
        | own us =>
            intro F2 ι2 H2 p2 vs l2 j2 n2 r2
            have hne : p1 ≠ p2 := fun z => by
              have z2 : upd e0.hold p1 (.lst vs1) p2 = none := n2.hd
              rw [← z, upd_same] at z2
              cases z2
            have hd2 : e0.hold p2 = none := by
              have z2 : upd e0.hold p1 (.lst vs1) p2 = none := n2.hd
              rw [upd_ne (Ne.symm hne)] at z2
              exact z2
            have n2' : Nw e0 F2 ι2 sl σ H2 p2 vs := ⟨n2.at_, n2.f, n2.i, n2.o, hd2, n2.sl⟩
            exact ⟨.ref p1, .ref p2, rfl, q F2 ι2 _ H2 (l1.trans l2) (((back j2).1.setO (back j2).2 (r1.mono l2)).setO (n2'.setO hne) r2)⟩
/-- a loop -/
theorem whl_rd {G : Ends} {σ : VS} {H : Hp} {tst : Sls → Obs → R Bool} {body : Sls → Obs → Out} {m0 : Nat} {e0 : Ent} {F : Hp} {ι : List Addr} {sl : Sls} {h : Obs} (j : J X.K e0 F ι sl h σ H) (q : PoS X Z e0 F ι (whlGo tst body m0 sl h) G) :
    tWhile (tT X Z tst) (tS X Z body) G σ H := by
  refine ⟨fun m σ H => ∃ F1 ι1 sl h, J X.K e0 F1 ι1 sl h σ H ∧ PoS X Z e0 F1 ι1 (whlGo tst body m sl h) G, ⟨m0, F, ι, sl, h, j, q⟩, ?_⟩
  rintro m σ H ⟨F, ι, sl, h, j, q⟩
  cases m with
  | zero => exact False.elim q
  | succ m =>
    refine ⟨e0, F, ι, sl, h, j, PoS.tst (f := fun h => match body sl h with
      | .nx σ h => whlGo tst body m σ h
      | .ct σ h => whlGo tst body m σ h
      | .bk σ h => .nx σ h
      | .rt w h => .rt w h
      | .exc x σ h => .exc x σ h
      | .bad => .bad) (g := fun h => .nx sl h) (G := G) ?_ fun a h1 F1 ι1 H1 l1 j1 q1 => ?_⟩
    · have q : PoS X Z e0 F ι (match tst sl h with
        | .ok true h => (match body sl h with
          | .nx σ h => whlGo tst body m σ h
          | .ct σ h => whlGo tst body m σ h
          | .bk σ h => .nx σ h
          | .rt w h => .rt w h
          | .exc x σ h => .exc x σ h
          | .bad => .bad)
        | .ok false h => .nx sl h
        | .exc x h => .exc x sl h
        | .bad => .bad) G := q
      cases ht : tst sl h with
      | ok b h1 =>
        rw [ht] at q
        cases b <;> exact q
      | exc x h1 => rw [ht] at q; exact q
      | bad => rw [ht] at q; exact q
    · cases a with
      | false =>
        simp only [Bool.false_eq_true, if_false]
        exact q1 F1 ι1 σ H1 .refl j1
      | true =>
        simp only [if_true]
        refine ⟨fun σ' H' => ∃ F1 ι1 sl h, J X.K e0 F1 ι1 sl h σ' H' ∧ PoS X Z e0 F1 ι1 (whlGo tst body m sl h) G, fun σ' H' w => ⟨m, Nat.lt_succ_self m, w⟩, e0, F1, ι1, sl, h1, j1, ?_⟩
        simp only at q1
        cases hb : body sl h1 with
        | nx s2 h2 => rw [hb] at q1; exact fun F2 ι2 σ2 H2 l2 j2 => ⟨F2, ι2, s2, h2, j2, q1.le l2⟩
        | ct s2 h2 => rw [hb] at q1; exact fun F2 ι2 σ2 H2 l2 j2 => ⟨F2, ι2, s2, h2, j2, q1.le l2⟩
        | bk s2 h2 => rw [hb] at q1; exact q1
        | rt w h2 => rw [hb] at q1; exact q1
        | exc x s2 h2 => rw [hb] at q1; exact q1
        | bad => rw [hb] at q1; exact q1
theorem for_rd {G : Ends} {σ : VS} {H : Hp} {mi : Sls → Obs → R (List W)} {put : W → Sls → Obs → R Sls} {body : Sls → Obs → Out} {e0 : Ent} {F : Hp} {ι : List Addr} {sl : Sls} {h : Obs} (j : J X.K e0 F ι sl h σ H)
    (q : PoS X Z e0 F ι (match mi sl h with | .ok xs h => forGo put body xs sl h | .exc x h => .exc x sl h | .bad => .bad) G) : tFor (tWk X Z mi) (tTg X put) (tS X Z body) G σ H := by
  refine ⟨e0, F, ι, sl, h, j, ?_⟩
  cases hm : mi sl h with
  | bad => rw [hm] at q; exact False.elim q
  | exc x h1 =>
    rw [hm] at q
    exact fun F1 ι1 H1 cls d l1 j1 r1 => q F1 ι1 σ H1 cls d l1 j1 r1
  | ok xs h1 =>
    rw [hm] at q
    have q : PoS X Z e0 F ι (forGo put body xs sl h1) G := q
    intro F1 ι1 H1 t l1 j1 wk
    refine ⟨fun i m σ H => m = xs.length - i ∧ i ≤ xs.length ∧ ∃ F2 ι2 sl h, Le F1 ι1 F2 ι2 ∧ J X.K e0 F2 ι2 sl h σ H ∧ PoS X Z e0 F2 ι2 (forGo put body (xs.drop i) sl h) G, ⟨xs.length, by simp, Nat.zero_le _, F1, ι1, sl, h1, .refl, j1, q.le l1⟩, ?_⟩
    rintro i m σ2 H2 ⟨rfl, hi, F2, ι2, s2, h2, l2, j2, q2⟩
    have w2 := wk i e0 F2 ι2 s2 h2 σ2 H2 l2 j2
    by_cases hlt : i < xs.length
    · right
      have ei : xs[i]? = some xs[i] := List.getElem?_eq_getElem hlt
      obtain ⟨go, yl⟩ := w2.2 _ ei
      refine ⟨go, fun σ' H' => xs.length - (i + 1) = xs.length - (i + 1) ∧ i + 1 ≤ xs.length ∧ ∃ F2 ι2 sl h, Le F1 ι1 F2 ι2 ∧ J X.K e0 F2 ι2 sl h σ' H' ∧ PoS X Z e0 F2 ι2 (forGo put body (xs.drop (i + 1)) sl h) G, fun σ' H' w => ⟨_, by omega, w⟩, fun x H' y => ?_⟩
      obtain ⟨F3, ι3, l3, j3, rx⟩ := yl x H' y
      rw [List.drop_eq_getElem_cons hlt] at q2
      refine ⟨e0, F3, ι3, s2, h2, xs[i], j3, rx, ?_⟩
      have q2 : PoS X Z e0 F2 ι2 (match put xs[i] s2 h2 with
        | .ok σ h => (match body σ h with
          | .nx σ h => forGo put body (xs.drop (i + 1)) σ h
          | .ct σ h => forGo put body (xs.drop (i + 1)) σ h
          | .bk σ h => .nx σ h
          | .rt w h => .rt w h
          | .exc x σ h => .exc x σ h
          | .bad => .bad)
        | _ => .bad) G := q2
      cases hp : put xs[i] s2 h2 with
      | exc z h3 => rw [hp] at q2; exact False.elim q2
      | bad => rw [hp] at q2; exact False.elim q2
      | ok s3 h3 =>
        rw [hp] at q2
        intro F4 ι4 σ4 H4 l4 j4
        refine ⟨e0, F4, ι4, s3, h3, j4, ?_⟩
        have l24 := l3.trans l4
        have q2 : PoS X Z e0 F2 ι2 (match body s3 h3 with
          | .nx σ h => forGo put body (xs.drop (i + 1)) σ h
          | .ct σ h => forGo put body (xs.drop (i + 1)) σ h
          | .bk σ h => .nx σ h
          | .rt w h => .rt w h
          | .exc x σ h => .exc x σ h
          | .bad => .bad) G := q2
        replace q2 := q2.le l24
        cases hb : body s3 h3 with
        | nx s5 h5 => rw [hb] at q2; exact fun F5 ι5 σ5 H5 l5 j5 => ⟨rfl, hlt, F5, ι5, s5, h5, l2.trans (l24.trans l5), j5, q2.le l5⟩
        | ct s5 h5 => rw [hb] at q2; exact fun F5 ι5 σ5 H5 l5 j5 => ⟨rfl, hlt, F5, ι5, s5, h5, l2.trans (l24.trans l5), j5, q2.le l5⟩
        | bk s5 h5 => rw [hb] at q2; exact q2
        | rt w h5 => rw [hb] at q2; exact q2
        | exc z s5 h5 => rw [hb] at q2; exact q2
        | bad => rw [hb] at q2; exact q2
    · left
      rw [List.drop_eq_nil_of_le (by omega)] at q2
      exact ⟨w2.1 (by omega), q2 F2 ι2 σ2 H2 .refl j2⟩
/-- a list of one's own, looked up for a method -/
theorem own_at {e0 : Ent} {F : Hp} {ι : List Addr} {sl : Sls} {h : Obs} {σ : VS} {H : Hp} {i : Nat} {ws : List W} (j : J X.K e0 F ι sl h σ H) (e : sl[i]? = some (.own ws)) :
    ∃ p vs, σ[i]? = some (some (.ref p)) ∧ H p = some (.lst vs) ∧ RVs X.K F ι ws vs ∧ tyV X.K "list" (.ref p) H := by
  obtain ⟨p, vs, q1, q2, rv, _⟩ := j.at_ i _ e
  exact ⟨p, vs, q1, q2, rv, .inl ⟨rfl, _, .inl (.inl q2)⟩⟩
theorem few_one {env : Env} (cp : Pos) (e : E) : ((backTo cp (starEach [e.un] env)).all (fun x => !x.1) && (backToKw cp (keywordEach [] env)).all (fun x => x.1.isSome)
      && decide ([e.un].length + ([] : List Keyword).length + (if ([] : List Keyword).isEmpty then 0 else 1) < 30)) = true := by
  rw [star_un e []]
  rfl
mutual
theorem S.ps : ∀ (s : S) (n : Cs X Z D c), s.okS c X.env.scope = true → PS X s.un (tS X Z (s.den D))
  | .asg x i xp e p, n, ok => by
    refine PS.imp (asg_ps n.toCn false ok) ?_
    rintro G σ H ⟨e0, F, ι, sl, h, j, q⟩
    refine ⟨e0, F, ι, sl, h, j, ?_⟩
    have q : PoS X Z e0 F ι ((e.den D false sl h).out sl fun w h => .nx (sl.set i (.val w)) h) G := q
    show PoV X Z e0 F ι sl σ ((e.den D false sl h).bind fun w h => .ok (.val w) h) _
    cases hr : e.den D false sl h with
    | ok w h1 => rw [hr] at q; exact fun F1 ι1 H1 v l1 j1 r1 => q F1 ι1 _ H1 l1 (j1.setV r1)
    | exc y h1 => rw [hr] at q; exact fun F1 ι1 H1 cls d l1 j1 r1 => q F1 ι1 _ H1 cls d l1 j1 r1
    | bad => rw [hr] at q; exact q
  | .asgO x i xp e p, n, ok => by
    refine PS.imp (asg_ps n.toCn true ok) ?_
    rintro G σ H ⟨e0, F, ι, sl, h, j, q⟩
    refine ⟨e0, F, ι, sl, h, j, ?_⟩
    have q : PoS X Z e0 F ι (match e.fresh D sl h with | .ok ws h => .nx (sl.set i (.own ws)) h | .exc x h => .exc x sl h | .bad => .bad) G := q
    show PoV X Z e0 F ι sl σ ((e.fresh D sl h).bind fun ws h => .ok (.own ws) h) _
    cases hr : e.fresh D sl h with
    | ok w h1 => rw [hr] at q; exact fun F1 ι1 H1 p us l1 j1 n1 r1 => q F1 ι1 _ H1 l1 (j1.setO n1 r1)
    | exc y h1 => rw [hr] at q; exact fun F1 ι1 H1 cls d l1 j1 r1 => q F1 ι1 _ H1 cls d l1 j1 r1
    | bad => rw [hr] at q; exact q
  | .par .., n, ok => par_ps n.toCn ok
  | .asgT t e p, n, ok => by
    obtain ⟨o1, o2⟩ := and_ok (show ((!(t.isName && e.isLc) && (!(t.isTupT && e.isTup) || t.oddT)) && (t.okT c X.env.scope && e.okE c X.env.scope)) = true from ok)
    obtain ⟨a1, a2⟩ := and_ok o1
    obtain ⟨o2, o3⟩ := and_ok o2
    have a3 : swappedStores [t.un] e.un X.env = pure none := by
      rcases Bool.or_eq_true_iff.mp a2 with z | z
      · exact stores_un t e z
      · cases t with
        | tup ts k p => exact stores_odd ts k p z _
        | _ => cases z
    refine PS.imp (ps_asg (E.pe e X Z n.toCn false o3) (Tg.pg n.toCn t o2) (sw_tg _ t e a1) a3 (by rw [assignEach_un]; rfl)) ?_
    rintro G σ H ⟨e0, F, ι, sl, h, j, q⟩
    refine ⟨e0, F, ι, sl, h, j, PoS.out q fun w h1 F1 ι1 H1 v l1 j1 r1 q1 => ⟨e0, F1, ι1, sl, h1, w, j1, r1, ?_⟩⟩
    cases hr : t.den D w sl h1 with
    | ok s2 h2 => rw [hr] at q1; exact q1
    | exc y h1 => rw [hr] at q1; exact q1
    | bad => rw [hr] at q1; exact q1
  | .pop t x i xp ap cp p, n, ok => by
    obtain ⟨o1, o2⟩ := and_ok (show ((ap.endLine == cp.line) && (slotB c.N X.env.scope x i && t.okT c X.env.scope)) = true from ok)
    obtain ⟨o2, o3⟩ := and_ok o2
    obtain ⟨h1, h2⟩ := and_ok (show (decide (c.N[i]? = some x) && (visB X.env.scope x && nmB x)) = true from o2)
    obtain ⟨h2, h3⟩ := and_ok h2
    have ho : PE X (.Name x xp) (tVar i) := pe_var (by rw [n.N]; exact of_decide_eq_true h1) (visB_ok h2) (nmB_ok h3).1 (nmB_ok h3).2
    have he := pe_bm0 (apos := ap) (cpos := cp) PySem.F.plainAttrs_list PySem.F.slot_list_pop PySem.F.type_list_pop mt_pop ho rfl o1
    refine PS.imp (ps_asg he (Tg.pg n.toCn t o3) (by cases t <;> rfl) (by cases t <;> rfl) (by rw [assignEach_un]; rfl)) ?_
    rintro G σ H ⟨e0, F, ι, sl, h, j, q⟩
    have q : PoS X Z e0 F ι (match sl[i]? with
      | some (.own ws) => (match ws[ws.length - 1]? with
        | some w => tgo (t.den D w (sl.set i (.own ws.dropLast)) h)
        | none => .bad)
      | _ => .bad) G := q
    split at q
    · rename_i ws e
      obtain ⟨a, vs, q1, q2, rv, ty⟩ := own_at j e
      refine ⟨.ref a, q1, ty, a, vs, ?_⟩
      split at q
      · rename_i w ew
        obtain ⟨v, e2, rw_⟩ := rv.get ew
        refine ⟨v, rfl, rfl, q2, by rw [← rv.length]; exact e2, e0, F, ι, _, h, w, j.mutO e q1 rv.dropLast, rw_, ?_⟩
        cases hr : t.den D w (sl.set i (.own ws.dropLast)) h with
        | ok s2 h2 => rw [hr] at q; exact q
        | exc y h1 => rw [hr] at q; exact q
        | bad => rw [hr] at q; exact q
      · exact False.elim q
    · exact False.elim q
  | .app x i xp ap e cp p, n, ok => by
    obtain ⟨o1, o2⟩ := and_ok (show ((ap.endLine == cp.line) && (slotB c.N X.env.scope x i && e.okE c X.env.scope)) = true from ok)
    obtain ⟨o2, o3⟩ := and_ok o2
    obtain ⟨h1, h2⟩ := and_ok (show (decide (c.N[i]? = some x) && (visB X.env.scope x && nmB x)) = true from o2)
    obtain ⟨h2, h3⟩ := and_ok h2
    have ho : PE X (.Name x xp) (tVar i) := pe_var (by rw [n.N]; exact of_decide_eq_true h1) (visB_ok h2) (nmB_ok h3).1 (nmB_ok h3).2
    have he := pe_bm (apos := ap) (cpos := cp) PySem.F.plainAttrs_list PySem.F.slot_list_append PySem.F.type_list_append mt_append ho (pa_cons (E.pe e X Z n.toCn false o3) pa_nil (star_un e _)) rfl (few_one cp e) o1 (star_un e _) rfl
    refine PS.imp (ps_expr he) ?_
    rintro G σ H ⟨e0, F, ι, sl, h, j, q⟩
    have q : PoS X Z e0 F ι (match sl[i]? with
      | some (.own ws) => (e.den D false sl h).out sl fun w h => (match decide (ws.length < sizeLine) with
        | true => .nx (sl.set i (.own (ws ++ [w]))) h
        | false => .bad)
      | _ => .bad) G := q
    split at q
    · rename_i ws e1
      obtain ⟨a, vs, q1, q2, rv, ty⟩ := own_at j e1
      refine ⟨.ref a, q1, ty, e0, F, ι, sl, h, j, PoS.out q fun w h1 F1 ι1 H1 v l1 j1 r1 q3 => ?_⟩
      obtain ⟨a', vs', z1, z2, rv', _⟩ := own_at j1 e1
      rw [q1] at z1
      cases z1
      cases hd : decide (ws.length < sizeLine) with
      | false => simp only [hd] at q3; exact False.elim q3
      | true =>
        simp only [hd] at q3
        exact ⟨a, vs', v, rfl, rfl, z2, by rw [← rv'.length]; exact of_decide_eq_true hd, q3 F1 ι1 σ _ .refl (j1.mutO e1 q1 (rv'.append (.cons r1 .nil)))⟩
    · exact False.elim q
  | .ext x i xp ap e cp p, n, ok => by
    obtain ⟨o1, o2⟩ := and_ok (show ((ap.endLine == cp.line) && (slotB c.N X.env.scope x i && e.okE c X.env.scope)) = true from ok)
    obtain ⟨o2, o3⟩ := and_ok o2
    obtain ⟨h1, h2⟩ := and_ok (show (decide (c.N[i]? = some x) && (visB X.env.scope x && nmB x)) = true from o2)
    obtain ⟨h2, h3⟩ := and_ok h2
    have ho : PE X (.Name x xp) (tVar i) := pe_var (by rw [n.N]; exact of_decide_eq_true h1) (visB_ok h2) (nmB_ok h3).1 (nmB_ok h3).2
    have he := pe_bm (apos := ap) (cpos := cp) PySem.F.plainAttrs_list PySem.F.slot_list_extend PySem.F.type_list_extend mt_extend ho (pa_cons (E.pe e X Z n.toCn false o3) pa_nil (star_un e _)) rfl (few_one cp e) o1 (star_un e _) rfl
    refine PS.imp (ps_expr he) ?_
    rintro G σ H ⟨e0, F, ι, sl, h, j, q⟩
    have q : PoS X Z e0 F ι (match sl[i]? with
      | some (.own ws) => (e.den D false sl h).out sl fun w h => (match w with
        | .lst us => (match lineN (ws.length + us.length) with
          | true => .nx (sl.set i (.own (ws ++ us))) h
          | false => .bad)
        | _ => .bad)
      | _ => .bad) G := q
    split at q
    · rename_i ws e1
      obtain ⟨a, vs, q1, q2, rv, ty⟩ := own_at j e1
      refine ⟨.ref a, q1, ty, e0, F, ι, sl, h, j, PoS.out q fun w h1 F1 ι1 H1 v l1 j1 r1 q3 => ?_⟩
      obtain ⟨a', vs', z1, z2, rv', _⟩ := own_at j1 e1
      rw [q1] at z1
      cases z1
      cases r1 with
      | @lst us b ys eb ry =>
        cases hd : lineN (ws.length + us.length) with
        | false => simp only [hd] at q3; exact False.elim q3
        | true =>
          simp only [hd] at q3
          exact ⟨a, b, vs', ys, rfl, rfl, z2, j1.hr.sub _ _ eb, by rw [← rv'.length, ← ry.length]; exact lineN_ok hd, q3 F1 ι1 σ _ .refl (j1.mutO e1 q1 (rv'.append ry))⟩
      | _ => exact False.elim q3
    · exact False.elim q
  | .expr e p, n, ok => by
    obtain ⟨o1, o2⟩ := and_ok (show (!e.isLc && e.okE c X.env.scope) = true from ok)
    refine PS.imp (ps_expr (E.pe e X Z n.toCn false o2) (sw_un none _ e (by simpa using o1))) ?_
    rintro G σ H ⟨e0, F, ι, sl, h, j, q⟩
    exact ⟨e0, F, ι, sl, h, j, PoS.out q fun w h1 F1 ι1 H1 v l1 j1 r1 q1 => q1 F1 ι1 σ H1 .refl j1⟩
  | .ret e p, n, ok => by
    refine PS.imp (ps_ret (E.pe e X Z n.toCn false ok)) ?_
    rintro G σ H ⟨e0, F, ι, sl, h, j, q⟩
    exact ⟨e0, F, ι, sl, h, j, PoS.out q fun w h1 F1 ι1 H1 v l1 j1 r1 q1 => q1 F1 ι1 sl σ H1 v .refl j1 r1⟩
  | .retN p, n, ok => PS.imp ps_retN fun G σ H ⟨e0, F, ι, sl, h, j, q⟩ => q F ι sl σ H .non .refl j .non
  | .ite t a b p, n, ok => by
    obtain ⟨o1, o2⟩ := and_ok (show (t.okE c X.env.scope && (a.okS c X.env.scope && b.okS c X.env.scope)) = true from ok)
    obtain ⟨o2, o3⟩ := and_ok o2
    refine PS.imp (ps_if (E.pt t X Z n.toCn o1) (Ss.pss a n o2) (Ss.pss b n o3)) ?_
    rintro G σ H ⟨e0, F, ι, sl, h, j, q⟩
    refine ⟨e0, F, ι, sl, h, j, PoS.tst (f := fun h => a.den D sl h) (g := fun h => b.den D sl h) (G := G) q fun k h1 F1 ι1 H1 l1 j1 q1 => ?_⟩
    cases k with
    | true => exact ⟨e0, F1, ι1, sl, h1, j1, q1⟩
    | false => exact ⟨e0, F1, ι1, sl, h1, j1, q1⟩
  | .whl t b p, n, ok => by
    obtain ⟨o1, o2⟩ := and_ok (show (t.okE c X.env.scope && b.okS c X.env.scope) = true from ok)
    refine PS.imp (ps_while n.po (E.pt t X Z n.toCn o1) (Ss.pss b n o2)) ?_
    rintro G σ H ⟨e0, F, ι, sl, h, j, q⟩
    exact whl_rd j q
  | .for t it b p, n, ok => by
    obtain ⟨o1, o2⟩ := and_ok (show (tgIt t it && (t.okT c X.env.scope && (it.okE c X.env.scope && b.okS c X.env.scope))) = true from ok)
    obtain ⟨o2, o3⟩ := and_ok o2
    obtain ⟨o3, o4⟩ := and_ok o3
    refine PS.imp (ps_for n.po n.calm (It.pi it X Z n.toCn t o1 o3) (Tg.pg n.toCn t o2) (Ss.pss b n o4) (foldedI_un it)) ?_
    rintro G σ H ⟨e0, F, ι, sl, h, j, q⟩
    exact for_rd j q
  | .frz is s, n, ok => by
    refine PS.imp (S.ps s n ok) ?_
    rintro G σ H ⟨e0, F, ι, sl, h, j, q⟩
    obtain ⟨F1, l1, j1⟩ := j.frzS is
    exact ⟨e0, F1, ι, _, h, j1, PoS.le (show PoS X Z e0 F ι (s.den D (frzS is sl) h) G from q) l1⟩
  | .pass p, n, ok => PS.imp ps_pass fun G σ H ⟨e0, F, ι, sl, h, j, q⟩ => q F ι σ H .refl j
  | .brk p, n, ok => PS.imp ps_break fun G σ H ⟨e0, F, ι, sl, h, j, q⟩ => q F ι σ H .refl j
  | .cnt p, n, ok => PS.imp ps_continue fun G σ H ⟨e0, F, ι, sl, h, j, q⟩ => q F ι σ H .refl j
theorem Ss.pss : ∀ (ss : Ss) (n : Cs X Z D c), ss.okS c X.env.scope = true → PSs X ss.un (tS X Z (ss.den D))
  | .nil, n, ok => PSs.imp pss_nil fun G σ H ⟨e0, F, ι, sl, h, j, q⟩ => q F ι σ H .refl j
  | .cons s ss, n, ok => by
    obtain ⟨o1, o2⟩ := and_ok (show (s.okS c X.env.scope && ss.okS c X.env.scope) = true from ok)
    refine PSs.imp (pss_cons (S.ps s n o1) (Ss.pss ss n o2)) ?_
    rintro G σ H ⟨e0, F, ι, sl, h, j, q⟩
    refine ⟨e0, F, ι, sl, h, j, ?_⟩
    have q : PoS X Z e0 F ι (match s.den D sl h with | .nx σ h => ss.den D σ h | o => o) G := q
    cases hr : s.den D sl h with
    | nx s1 h1 => rw [hr] at q; exact fun F1 ι1 σ1 H1 l1 j1 => ⟨e0, F1, ι1, s1, h1, j1, PoS.le (show PoS X Z e0 F ι (ss.den D s1 h1) G from q) l1⟩
    | bk s1 h1 => rw [hr] at q; exact q
    | ct s1 h1 => rw [hr] at q; exact q
    | rt w h1 => rw [hr] at q; exact q
    | exc x s1 h1 => rw [hr] at q; exact q
    | bad => rw [hr] at q; exact q
end
end
end
end Ev

set_option maxHeartbeats 1000000
namespace Ev
open PySem PySem.Spec PyProof.Rows L2

/-! ## a def by its body -/
section
variable {P : Program} {w : World} {K : PySem.W.Frag} {mg : Str → Option Value} {base : Heap}
theorem fk_of {k : Nat} {f : Addr} {nm qn : Str} {pars : Arguments} {body : List Stmt} {sc : Scope} {dV kV doc pm cdv ct oc : Value} {an od : Option Addr} {osl : Array (Option Value)} {N ps : List Str} {sp : Sp}
    (look : K.lookup f = some ⟨oc, od, .func (PySem.W.fnOf nm qn pars body sc dV kV doc pm an cdv ct), osl⟩) (code : PySem.W.codeIn K cdv qn = true) (S : FnScope N ps sc) (many : ∀ vs H Q Z, sp vs H Q Z → vs.length = ps.length)
    (bd : ∀ (A : Around) (up : List Env) (s : Shared) (H : Hp) (vs : List V) (Q : VK) (Z : XK), Room k (A.deeper (envOfC qn sc s.heap.objs.size f cdv)) → (A.deeper (envOfC qn sc s.heap.objs.size f cdv)).guards = some [] → sp vs H Q Z →
      ∃ t, PSs (cxOf (CX P w) P w K mg base N qn sc f cdv A up s H Z) body t ∧ t { nx := fun _ H' => Q .non H', rt := Q } (L2.start N vs) H) :
    Fk P w K mg base (k + 1) f (PySem.W.fnOf nm qn pars body sc dV kV doc pm an cdv ct) ps sp := ⟨by
  intro A up s H a us vs Q Z room grd ent bnd rel asked
  have many' := many _ _ _ _ asked
  have kept : ∀ b o, base.get? b = some o → s.heap.get? b = some o := fun b o e => (ent.bs b o e).1
  have inK : K.In s.heap := ent.mod.kin.keeps kept
  have kinds : ∀ y ∈ ps.zip us, sc.names.lookup y.1 = some .local ∨ (sc.names.lookup y.1 = some .cell ∧ ((cellsFrom (s.heap.objs.size + 1) sc.names []).lookup y.1).isSome = true) := fun y hy => by
    obtain ⟨y1, y2⟩ := y
    exact (S.par y1 (List.of_mem_zip hy).1).imp id fun q => ⟨q, PySem.W.cellsFrom_some _ _ _ (.inl q)⟩
  refine codeAny_call_function room.depth (inK _ _ look) rfl S.co S.gen rfl (PySem.W.codeRec_of inK code) (bnd _ _ _ _ (wpAny_newFunctionEnv_cells S.kind kinds fun env he s1 x => ?_))
  subst he
  obtain ⟨t, ht, hq⟩ := bd A up s H vs Q Z (room.deeper _) grd asked
  have I : Inv (cxOf (CX P w) P w K mg base N qn sc f cdv A up s H Z) [] (L2.start N vs) H s1 := inv_start S room.hd ent many' rel x
  refine ⟨(ent.mod.nolimit.keeps kept).keeps x.toInCall.keep, codeAny_func (wpAny_mono (ht.run [] s1 (L2.start N vs) H _ I hq) (fun fl s' out => ?_) fun _ _ out => out)⟩
  cases fl with
  | ret u =>
    obtain ⟨v, σ', H', I', rv, q⟩ := out
    exact ⟨v, H', I'.os, I'.bare, I'.base, I'.hok, rv, q⟩
  | next =>
    obtain ⟨σ', H', I', q⟩ := out
    exact ⟨.non, H', I'.os, I'.bare, I'.base, I'.hok, rfl, q⟩
  | brk =>
    obtain ⟨_, _, _, q⟩ := out
    exact False.elim q
  | cont =>
    obtain ⟨_, _, _, q⟩ := out
    exact False.elim q⟩

/-! ## all defs of a program -/
/-- a def as it stands in the module -/
structure DefOk (K : PySem.W.Frag) (mg : Str → Option Value) (fs : Nat → Option Str) (kws : List (Nat × Nat × List Str)) (i : Nat) (d : Df) : Prop where
  ex : ∃ (g : Addr) (pars : Arguments) (sc : Scope) (fd : FuncData), mg d.nm = some (.ref g) ∧ FunD K d.nm d.nm pars d.body.un sc [] [] g fd ∧ Binds K fd (d.N.take d.np) [] ∧ FnScope d.N (d.N.take d.np) sc ∧ d.body.okS ⟨d.N, fs, kws⟩ sc = true ∧ KwOk kws i fd (d.N.take d.np)
  np : d.np ≤ d.N.length
structure Sys (K : PySem.W.Frag) (w : World) (mg : Str → Option Value) (pg : Pg) (kws : List (Nat × Nat × List Str)) : Prop where
  bt : ∀ b : Bt, mg b.nm = none
  ty : ∀ t : Ty, mg t.nm = none
  isi : mg "isinstance" = none
  rng : mg "range" = none
  enum : mg "enumerate" = none
  zip : mg "zip" = none
  cst : ∀ x a, cstV (pg.cst x) = some a → ∃ v u, mg x = some u ∧ RelV v u ∧ ∀ F ι, RV K F ι a v
  dic : ∀ x kvs, pg.cst x = some (.dic kvs) → DicOk K w mg x kvs
  df : ∀ (i : Nat) (d : Df), pg.defs[i]? = some d → DefOk K mg (fun (i : Nat) => (pg.defs[i]?).map Df.nm) kws i d
theorem startS_start {ws : List W} {vs : List V} {F : Hp} {ι : List Addr} {N : List Str} {h : Obs} {H : Hp} (hr : HR K F ι h H) (rv : RVs K F ι ws vs) (hl : ws.length ≤ N.length) : J K ⟨F, ι, H, fun _ => none⟩ F ι (startS N.length ws) h (L2.start N vs) H where
  hr := hr
  xt := .refl
  len := by
    unfold startS L2.start
    rw [List.length_append, List.length_append, List.length_map, List.length_map, List.length_replicate, List.length_replicate, rv.length]
  at_ := fun i s e => by
    unfold startS at e
    unfold L2.start
    by_cases hi : i < ws.length
    · rw [List.getElem?_append_left (by simpa using hi), List.getElem?_map] at e
      cases q : ws[i]? with
      | none => rw [q] at e; cases e
      | some w =>
        rw [q] at e
        cases e
        obtain ⟨v, e1, r⟩ := rv.get q
        exact ⟨v, by rw [List.getElem?_append_left (by rw [List.length_map, ← rv.length]; exact hi), List.getElem?_map, e1]; rfl, r⟩
    · rw [List.getElem?_append_right (by simpa using hi), List.getElem?_replicate] at e
      split at e
      · cases e; trivial
      · cases e
  ap := fun i j us us' p e1 _ _ _ => by
    unfold startS at e1
    by_cases hi : i < ws.length
    · rw [List.getElem?_append_left (by simpa using hi), List.getElem?_map] at e1
      cases q : ws[i]? with
      | none => rw [q] at e1; cases e1
      | some w => rw [q] at e1; cases e1
    · rw [List.getElem?_append_right (by simpa using hi), List.getElem?_replicate] at e1
      split at e1 <;> cases e1
  hd := fun a o e => by cases e
theorem T_len (pg : Pg) (k i : Nat) (ws : List W) (h : Obs) : pg.T k i ws h = .bad ∨ (∀ d, pg.defs[i]? = some d → d.np ≤ d.N.length) → pg.T k i ws h = .bad ∨ ws.length = (pg.par i).length := by
  rintro (z | z)
  · exact .inl z
  · cases k with
    | zero => exact .inl rfl
    | succ k =>
      cases q : pg.defs[i]? with
      | none => left; show (match pg.defs[i]? with | some d => d.run ⟨pg.T k, pg.cst, pg.par⟩ ws h | none => .bad) = _; rw [q]
      | some d =>
        cases hd : decide (ws.length = d.np) with
        | false =>
          left
          show (match pg.defs[i]? with | some d => d.run ⟨pg.T k, pg.cst, pg.par⟩ ws h | none => .bad) = _
          rw [q]
          show d.run ⟨pg.T k, pg.cst, pg.par⟩ ws h = _
          unfold Df.run
          rw [hd]
        | true =>
          right
          show ws.length = (match pg.defs[i]? with | some d => d.N.take d.np | none => []).length
          rw [q]
          show ws.length = (d.N.take d.np).length
          rw [List.length_take, of_decide_eq_true hd]
          have := z d q
          omega
/-- THE RULE: every def of the text does what the reading says, as deep as there is room -/
theorem Sys.fk {pg : Pg} {kws : List (Nat × Nat × List Str)} (S : Sys K w mg pg kws) : ∀ (k i : Nat) (d : Df), pg.defs[i]? = some d → ∀ g fd, mg d.nm = some (.ref g) → (∃ pars sc, FunD K d.nm d.nm pars d.body.un sc [] [] g fd ∧ FnScope d.N (d.N.take d.np) sc ∧ d.body.okS ⟨d.N, fun i => (pg.defs[i]?).map Df.nm, kws⟩ sc = true) →
    Fk P w K mg base k g fd (d.N.take d.np) (spW K mg (d.N.take d.np).length (pg.T k i))
  | 0, i, d, hd, g, fd, hg, _ => ⟨fun A up s H a us vs Q Z _ _ _ _ _ ⟨F, ι, h, ws, _, _, _, q⟩ => False.elim q⟩
  | k + 1, i, d, hd, g, fd, hg, ⟨pars, sc, F, SC, ok⟩ => by
    obtain ⟨oc, od, dV, kV, doc, pm, an, cdv, ct, osl, rfl, look, code, _, _⟩ := F.ex
    refine fk_of look code SC (fun vs H Q Z ⟨_, _, _, _, e, _⟩ => e) fun A up s H vs Q Z room grd asked => ?_
    obtain ⟨F0, ι0, h0, ws, hl, hr, rv, q⟩ := asked
    have np := (S.df i d hd).np
    have n : Cs (cxOf (CX P w) P w K mg base d.N d.nm sc g cdv A up s H Z) (fun cls dd _ H => Z cls dd H) ⟨pg.T k, pg.cst, pg.par⟩ ⟨d.N, fun i => (pg.defs[i]?).map Df.nm, kws⟩ :=
      { calm := rfl
        tk := takes_of rfl rfl rfl rfl
        N := rfl
        nd := SC.nd
        gd := grd
        un := by have := room.un; show (A.deeper (envOfC d.nm sc s.heap.objs.size g cdv)).units + 70 < cLine; omega
        bt := S.bt
        ty := S.ty
        isi := S.isi
        rng := S.rng
        enum := S.enum
        zip := S.zip
        cst := S.cst
        dic := S.dic
        fn := fun i x hx => by
          cases q : pg.defs[i]? with
          | none =>
            have hx : (pg.defs[i]?).map Df.nm = some x := hx
            rw [q] at hx; cases hx
          | some e =>
            have hx : (pg.defs[i]?).map Df.nm = some x := hx
            rw [q] at hx
            cases hx
            obtain ⟨g', pars', sc', fd', m1, m2, m3, m4, m5, m6⟩ := (S.df i e q).ex
            refine ⟨g', fd', e.N.take e.np, k, m1, m2.kp, m3, ?_, room, Sys.fk S k i e q g' fd' m1 ⟨pars', sc', m2, m4, m5⟩, m6⟩
            show (match pg.defs[i]? with | some d => d.N.take d.np | none => []) = _
            rw [q]
        ar := fun i ws h => T_len pg k i ws h (.inr fun d q => (S.df i d q).np)
        po := passes_of rfl }
    refine ⟨_, Ss.pss d.body n ok, ⟨F0, ι0, H, fun _ => none⟩, F0, ι0, startS d.N.length ws, h0, ?_, ?_⟩
    · refine startS_start hr rv ?_
      rw [rv.length, hl, List.length_take]
      omega
    · have q : (match (match pg.defs[i]? with | some d => d.run ⟨pg.T k, pg.cst, pg.par⟩ ws h0 | none => .bad) with
        | .ok w h' => ∀ F' ι' H' v, Xt F0 ι0 H F' ι' H' → HR K F' ι' h' H' → RV K F' ι' w v → Q v H'
        | .exc x h' => ∀ F' ι' H' cls dd, Xt F0 ι0 H F' ι' H' → HR K F' ι' h' H' → RX K mg F' ι' x cls dd → Z cls dd H'
        | .bad => False) := q
      rw [hd] at q
      have q : (match d.run ⟨pg.T k, pg.cst, pg.par⟩ ws h0 with
        | .ok w h' => ∀ F' ι' H' v, Xt F0 ι0 H F' ι' H' → HR K F' ι' h' H' → RV K F' ι' w v → Q v H'
        | .exc x h' => ∀ F' ι' H' cls dd, Xt F0 ι0 H F' ι' H' → HR K F' ι' h' H' → RX K mg F' ι' x cls dd → Z cls dd H'
        | .bad => False) := q
      unfold Df.run at q
      cases hn : decide (ws.length = d.np) with
      | false => rw [hn] at q; exact False.elim q
      | true =>
        rw [hn] at q
        simp only at q
        cases hb : d.body.den ⟨pg.T k, pg.cst, pg.par⟩ (startS d.N.length ws) h0 with
        | nx s1 h1 => simp only [hb] at q; exact fun F1 ι1 σ1 H1 l1 j1 => q F1 ι1 H1 .non j1.xt j1.hr .non
        | rt u h1 => simp only [hb] at q; exact fun F1 ι1 s1 σ1 H1 v l1 j1 r1 => q F1 ι1 H1 v j1.xt j1.hr r1
        | exc x s1 h1 => simp only [hb] at q; exact fun F1 ι1 σ1 H1 cls dd l1 j1 r1 => q F1 ι1 H1 cls dd j1.xt j1.hr r1
        | bk s1 h1 => simp only [hb] at q
        | ct s1 h1 => simp only [hb] at q
        | bad => simp only [hb] at q
end

/-! ## a law's end -/
theorem law_end {P : Program} {w : World} {K : PySem.W.Frag} {mg mb : Str → Option Value} {k : Nat} {fa a : Addr} {fd : FuncData} {x : Str} {sp : Sp} {s : Shared} {vs : List Value} {ns : List Int}
    (inK : K.In s.heap) (glo : s.heap.Ns mainGlobals mg) (blt : s.heap.Ns builtinsNs mb) (boot : ∀ x : Str, x ≠ "__name__" → mb x = bootBuiltins x) (lim : s.heap.NoLimit) (gens : s.gens = #[])
    (at_ : s.heap.get? a = some { cls := .type "list", data := .seq vs.toArray }) (ia : IntsAre vs ns) (short : ns.length ≤ sizeLine) (room : Room k callerA)
    (fk : ∀ base : Heap, Fk P w K mg base k fa fd [x] sp) (bnd : ∀ (s : Shared) (u : Value), BindsTo s fd ⟨[u], []⟩ [(x, u)])
    (asked : ∀ H : Hp, Only H → SqL K H a (ns.map V.int) → sp [.ref a] H (fun v _ => v = .bl true) fun _ _ _ => False) :
    codeAny (model P w) callerA (.call (.ref fa) ⟨[.ref a], []⟩) (fun r s' => r = .ok (.ret (.bool true)) ∧ OldK s.heap s'.heap ∧ s'.os = s.os ∧ AllBare s'.gens) s := by
  have rel := vals_ints ia
  have go : ∀ H : Hp, Only H → SqL K H a (ns.map V.int) → HOk P w H s.heap → (∀ b u, H b = some u → b = a ∧ K.lookup a = none) →
      codeAny (model P w) callerA (.call (.ref fa) ⟨[.ref a], []⟩) (fun r s' => r = .ok (.ret (.bool true)) ∧ OldK s.heap s'.heap ∧ s'.os = s.os ∧ AllBare s'.gens) s := by
    intro H only sq hok one
    have nodict : ∀ {b : Addr} {o : Obj} {es : Array DictEntry} {ep : Nat}, s.heap.get? b = some o → o.data = .dict es ep → H b = none := fun {b o es ep} e d => by
      cases q : H b with
      | none => rfl
      | some u =>
        rw [(one b u q).1, at_] at e
        cases e
        cases d
    have ns_ : ∀ {b : Addr} {m : Str → Option Value}, s.heap.Ns b m → (hidT s.heap H).Ns b m := fun {b m} z => by
      obtain ⟨o, es, ep, e, d, r⟩ := z
      exact ⟨o, es, ep, hidT_get e (nodict e d), d, r⟩
    have inB : K.In (hidT s.heap H) := fun b o e => hidT_get (inK b o e) (by
      cases q : H b with
      | none => rfl
      | some u =>
        obtain ⟨z1, z2⟩ := one b u q
        rw [z1, z2] at e; cases e)
    have ent : Env0 P w K mg (hidT s.heap H) callerA [] s H := ⟨rfl, ⟨inB, ns_ glo, ⟨mb, ns_ blt, boot⟩, by
        obtain ⟨mc, h1, h2⟩ := lim
        exact ⟨mc, ns_ h1, h2⟩⟩, fun b o e => of_hidT e, Nat.le_of_eq (hidT_size _ _), trivial, fun b hb => (by simp [frs] at hb), hok, .of_eq gens⟩
    refine codeAny_mono ((fk (hidT s.heap H)).run callerA [] s H ⟨[.ref a], []⟩ [.ref a] [.ref a] _ _ room rfl ent (bnd s (.ref a)) (.cons rfl .nil) (asked H only sq)) fun r s' out => ?_
    match r, out with
    | .error e, out =>
      obtain ⟨_, _, _, _, _, _, _, _, _, _, _, _, z⟩ := out
      exact False.elim z
    | .ok .next, out => exact False.elim out
    | .ok .brk, out => exact False.elim out
    | .ok .cont, out => exact False.elim out
    | .ok (.ret u), out =>
      obtain ⟨v, H', os, bare, un, hok', rv, rfl⟩ := out
      cases rv
      refine ⟨rfl, OldK.of_keep fun b o e => ?_, os, bare⟩
      rcases only b with z | ⟨ob, xs, z⟩
      · exact un.keep b o e z (by simp [frs]) (by simp)
      · have e1 := (hok b _ z).1
        have e2 := (hok' b _ (un.frzs b ob _ z)).1
        rw [e] at e1
        rw [e2, ← e1]
  cases look : K.lookup a with
  | some o =>
    have e := inK a o look
    rw [at_] at e
    cases e
    exact go (fun _ => none) (fun _ => .inl rfl) (.inr ⟨_, vs.toArray, _, look, rfl, rfl, rfl, by rw [List.size_toArray, ia.length]; exact short, by simpa using rel⟩) (fun b u z => by cases z) fun b u z => by cases z
  | none =>
    have one : ∀ b u, (upd (fun _ => none) a (HO.frz { cls := .type "list", data := .seq vs.toArray } (.lst (ns.map V.int)))) b = some u → b = a := fun b u z => by
      by_cases hb : b = a
      · exact hb
      · rw [upd_ne hb] at z; cases z
    refine go (upd (fun _ => none) a (.frz { cls := .type "list", data := .seq vs.toArray } (.lst (ns.map V.int)))) (fun b => ?_) (.inl (.inr ⟨_, upd_same⟩)) (fun b u z => ?_) fun b u z => ⟨one b u z, look⟩
    · by_cases hb : b = a
      · exact .inr ⟨_, _, by rw [hb]; exact upd_same⟩
      · exact .inl (upd_ne hb)
    · have e := one b u z
      subst e
      rw [upd_same] at z
      cases z
      exact ⟨at_, by rw [List.length_map]; exact short, vs, _, rel, at_⟩
/-- the goal that the head leaves, from the reading of the law's def -/
theorem walk_end {l : PySem.W.OpenLaw} {n k i : Nat} {q : Program} {loose : List Str} {XP : (Str → Option Value) → Heap → Prop} {YP : World → Heap → Prop} {d : DefRec} {pg : Pg} {kws : List (Nat × Nat × List Str)} {df : Df} {x : Str}
    (hn : l.most = some n) (hn2 : n ≤ sizeLine) (hdf : d.params.defaults = []) (room : Room k callerA) (hd : pg.defs[i]? = some df) (hN : df.N.take df.np = [x]) (hnm : df.nm = d.name)
    (F : ∀ (w : World) (mg : Str → Option Value) (h : Heap), YP w h → h.Ns mainGlobals mg → ∃ K : PySem.W.Frag, K.In h ∧ Sys K w mg pg kws ∧
      ∀ g pars sc fd, mg df.nm = some (.ref g) → FunD K df.nm df.nm pars df.body.un sc [] [] g fd → ∀ (s : Shared) (u : Value), BindsTo s fd ⟨[u], []⟩ [(x, u)])
    (law : ∀ ns : List Int, ns.length ≤ n → ∃ h, pg.T k i [.scr ns] [] = .ok (.bl true) h) :
    PySem.W.WalkO q loose XP YP l.row.toRowW d [] (fun f vs => PySem.call f vs) := by
  refine Att.attach_call hn hdf fun w s₀ s₁ mg mb fa o pm cd doc a vs ns G Y ho hd' hcd hmg hobj hints hlen hg => ?_
  obtain ⟨K, KX, S, bnd⟩ := F w mg _ Y G.T.g
  obtain ⟨g, pars, sc, fd, m1, m2, m3, m4, m5, _⟩ := (S.df i df hd).ex
  have e : g = fa := by
    rw [hnm, hmg] at m1
    cases m1
    rfl
  subst e
  have fk := fun base => S.fk (P := l.row.prog) (w := w) (base := base) k i df hd g fd m1 ⟨pars, sc, m2, m4, m5⟩
  rw [hN] at fk
  refine law_end KX G.T.g G.T.b G.T.builtins G.T.nolimit hg hobj hints (Nat.le_trans hlen hn2) room fk (bnd g pars sc fd m1 m2) fun H only sq => ?_
  obtain ⟨h1, e1⟩ := law ns hlen
  have sub : ∀ b o, H b = some o → H b = some o := fun _ _ e => e
  refine ⟨H, [], [], [.scr ns], rfl, ⟨sub, rfl, .nil, fun n a o e _ => by simp at e⟩, .cons (.scr sq) .nil, ?_⟩
  rw [e1]
  intro F' ι' H' v _ _ r
  cases r
  rfl
end Ev

set_option maxHeartbeats 1000000
namespace Ev
open PySem PySem.Spec PyProof.Rows L2

/-! ## from the head's facts -/
/-- names that no module here binds -/
def frees : List Str := ["len", "abs", "max", "min", "int", "divmod", "repr", "all", "list", "tuple", "NoneType", "bool", "str", "dict", "isinstance", "range", "enumerate", "zip"]
/-- a value of the module's text -/
def cstB (K : PySem.W.Frag) : Nat → Value → W → Bool
  | 0, _, _ => false
  | n + 1, u, w => match w, u with
    | .non, .none => true
    | .bl b, .bool c => decide (b = c)
    | .int i, .int j _ => decide (i = j)
    | .str x, .str y _ => decide (x = y)
    | .tup ws, .ref a => match K.lookup a with
      | some ⟨.type c, _, .seq its _, _⟩ => decide (c = "tuple") && (decide (its.size ≤ sizeLine) && all2 (cstB K n) its.toList ws)
      | _ => false
    | _, _ => false
where all2 (f : Value → W → Bool) : List Value → List W → Bool
  | [], [] => true
  | u :: us, w :: ws => f u w && all2 f us ws
  | _, _ => false
def entB (K : PySem.W.Frag) : List DictEntry → List (Str × W) → Bool
  | [], [] => true
  | e :: es, (k, w) :: r => (match e.key with
    | .str x _ => decide (x = k)
    | _ => false) && (cstB K 6 e.val w && entB K es r)
  | _, _ => false
def dicB (K : PySem.W.Frag) (a : Addr) (kvs : List (Str × W)) : Bool := match K.lookup a with
  | some ⟨_, _, .dict es _, _⟩ => entB K es.toList kvs
  | _ => false
def cstAt (K : PySem.W.Frag) (p : Str × W) : Bool := match PySem.W.nsIn K mainGlobals p.1 with
  | some (some u) => match p.2 with
    | .dic kvs => match u with
      | .ref a => decide (a = He.ga K p.1) && dicB K a kvs
      | _ => false
    | w => cstB K 6 u w
  | _ => false
def cstsB (cs : List (Str × W)) (K : PySem.W.Frag) : Bool := cs.all (cstAt K)
/-- the dicts' keys -/
def tabsOf (cs : List (Str × W)) : List He.Tab := cs.filterMap fun p => match p.2 with
  | .dic kvs => some (fun K => He.ga K p.1, kvs.map fun q => q.1)
  | _ => none
theorem cstB_ok {K : PySem.W.Frag} : ∀ (n : Nat) {u : Value} {w : W}, cstB K n u w = true → ∃ v, RelV v u ∧ ∀ F ι, RV K F ι w v
  | 0, u, w, h => by cases h
  | n + 1, u, w, h => by
    have many : ∀ (us : List Value) (ws : List W), cstB.all2 (cstB K n) us ws = true → ∃ vs, Vals vs us ∧ ∀ F ι, RVs K F ι ws vs := fun us => by
      induction us with
      | nil =>
        intro ws h
        cases ws with
        | nil => exact ⟨[], .nil, fun _ _ => .nil⟩
        | cons _ _ => cases h
      | cons u us ih =>
        intro ws h
        cases ws with
        | nil => cases h
        | cons w ws =>
          obtain ⟨h1, h2⟩ := and_ok (show (cstB K n u w && cstB.all2 (cstB K n) us ws) = true from h)
          obtain ⟨v, r, q⟩ := cstB_ok n h1
          obtain ⟨vs, rr, qq⟩ := ih ws h2
          exact ⟨v :: vs, .cons r rr, fun F ι => .cons (q F ι) (qq F ι)⟩
    unfold cstB at h
    split at h
    · exact ⟨.non, rfl, fun _ _ => .non⟩
    · cases of_decide_eq_true h
      exact ⟨.bl _, rfl, fun _ _ => .bl _⟩
    · cases of_decide_eq_true h
      exact ⟨.int _, ⟨_, rfl⟩, fun _ _ => .int _⟩
    · cases of_decide_eq_true h
      exact ⟨.str _, ⟨_, rfl⟩, fun _ _ => .str _⟩
    · rename_i ws a
      split at h
      · rename_i c od its m sl lk
        obtain ⟨h1, h2⟩ := and_ok h
        obtain ⟨h2, h3⟩ := and_ok h2
        have hc : c = "tuple" := of_decide_eq_true h1
        subst hc
        obtain ⟨vs, r, q⟩ := many _ _ h3
        exact ⟨.ref a, rfl, fun F ι => .tup (.inr ⟨_, its, m, lk, rfl, rfl, of_decide_eq_true h2, r⟩) (q F ι)⟩
      · cases h
    · cases h
theorem entB_ok {K : PySem.W.Frag} {s : Str} : ∀ {es : List DictEntry} {kvs : List (Str × W)}, entB K es kvs = true → (es.any (·.refKey)) = false ∧
    (∀ a, dicGet kvs s = some a → ∃ e u v, es.find? (·.key.isStr s) = some e ∧ e.val = u ∧ RelV v u ∧ ∀ F ι, RV K F ι a v) ∧ (dicGet kvs s = none → es.find? (·.key.isStr s) = none)
  | [], [], _ => ⟨rfl, fun a z => (by cases z), fun _ => rfl⟩
  | [], _ :: _, h => by cases h
  | _ :: _, [], h => by cases h
  | e :: es, (k, w) :: r, h => by
    obtain ⟨h1, h2⟩ := and_ok (show ((match e.key with | .str x _ => decide (x = k) | _ => false) && (cstB K 6 e.val w && entB K es r)) = true from h)
    obtain ⟨h2, h3⟩ := and_ok h2
    obtain ⟨i1, i2, i3⟩ := entB_ok (s := s) h3
    obtain ⟨v, rv, q⟩ := cstB_ok 6 h2
    have hk : ∃ t, e.key = .str k t := by
      split at h1
      · rename_i x t z
        have hx : x = k := of_decide_eq_true h1
        exact ⟨t, hx ▸ z⟩
      · cases h1
    obtain ⟨t, hk⟩ := hk
    have rk : e.refKey = false := by
      unfold DictEntry.refKey
      rw [hk]
    refine ⟨by rw [List.any_cons, rk, i1]; rfl, ?_⟩
    have is : e.key.isStr s = (k == s) := by rw [hk]; rfl
    by_cases e1 : k = s
    · subst e1
      have g : dicGet ((k, w) :: r) k = some w := by simp [dicGet]
      have f : (e :: es).find? (·.key.isStr k) = some e := by rw [List.find?_cons, is]; simp
      rw [g, f]
      exact ⟨fun a z => (by cases z; exact ⟨e, _, v, rfl, rfl, rv, q⟩), fun z => (by cases z)⟩
    · have g : dicGet ((k, w) :: r) s = dicGet r s := by simp [dicGet, e1]
      have f : (e :: es).find? (·.key.isStr s) = es.find? (·.key.isStr s) := by rw [List.find?_cons, is, beq_false_of_ne e1]
      rw [g, f]
      exact ⟨i2, i3⟩
def dtD (d : Df) (st : Stmt) : He.DefD := ⟨(d.nm, none), d.nm, d.nm, defArgs st, defBody st, defScope st, [], []⟩
/-- all that the head is asked about -/
def faOf (ds : List Df) : List He.Fa := ds.map (fun d => He.Fa.glo d.nm) ++ frees.map He.Fa.free
def fnOf2 (l : List (Df × Stmt)) : List He.DefD := l.map fun p => dtD p.1 p.2
section
variable {K : PySem.W.Frag} {mg : Str → Option Value} {h : Heap} {fa : List He.Fa} {fn : List He.DefD}
theorem def_of {d : Df} {st : Stmt} {g : Addr} {fd : FuncData} {fs : Nat → Option Str} {kws : List (Nat × Nat × List Str)} {i : Nat} (F : FunD K d.nm d.nm (defArgs st) (defBody st) (defScope st) [] [] g fd) (hg : mg d.nm = some (.ref g)) (hb : defBody st = d.body.un)
    (hs : FnScope d.N (d.N.take d.np) (defScope st)) (ok : d.body.okS ⟨d.N, fs, kws⟩ (defScope st) = true) (np : d.np ≤ d.N.length)
    (bnd : ∀ (kV doc pm : Value) (an : Option Addr) (cdv ct : Value) (us : List Value), us.length = (d.N.take d.np).length → bindArgs (PySem.W.fnOf d.nm d.nm (defArgs st) (defBody st) (defScope st) .none kV doc pm an cdv ct) ⟨us, []⟩ = pure ((d.N.take d.np).zip us))
    (kw : ∀ (kV doc pm : Value) (an : Option Addr) (cdv ct : Value), KwOk kws i (PySem.W.fnOf d.nm d.nm (defArgs st) (defBody st) (defScope st) .none kV doc pm an cdv ct) (d.N.take d.np)) : DefOk K mg fs kws i d := by
  refine ⟨⟨g, defArgs st, defScope st, fd, hg, hb ▸ F, F.bindsN bnd, hs, ok, ?_⟩, np⟩
  obtain ⟨oc, od, dV, kV, doc, pm, an, cdv, ct, osl, rfl, lk, hcd, hD, hK⟩ := F.ex
  rcases hD with ⟨_, rfl⟩ | ⟨e, _⟩
  · exact kw kV doc pm an cdv ct
  · exact absurd rfl e
theorem sys_of {w : World} {cs : List (Str × W)} (X : K.In h) (G : h.Ns mainGlobals mg) {pg : Pg} {kws : List (Nat × Nat × List Str)} (c : He.SaysX (faOf pg.defs) fn (tabsOf cs) [] (cstsB cs) w h K) (hc : pg.cst = fun x => cs.lookup x)
    (hd : ∀ (i : Nat) (d : Df), pg.defs[i]? = some d → DefOk K mg (fun (i : Nat) => (pg.defs[i]?).map Df.nm) kws i d) : Sys K w mg pg kws := by
  have free : ∀ x ∈ frees, mg x = none := fun x hx => He.free_ok X G (c.t.d.facts (List.mem_append_right _ (List.mem_map.mpr ⟨x, hx, rfl⟩)))
  have at_ : ∀ {x : Str} {a : W}, cs.lookup x = some a → cstAt K (x, a) = true := fun e => List.all_eq_true.mp c.more _ (PySem.mem_of_lookup e)
  refine ⟨fun b => free _ (by cases b <;> decide +kernel), fun t => free _ (by cases t <;> decide +kernel), free _ (by decide +kernel), free _ (by decide +kernel), free _ (by decide +kernel), free _ (by decide +kernel), fun x a e => ?_, fun x kvs e => ?_, hd⟩
  · rw [hc] at e
    have e1 : cs.lookup x = some a ∧ ∀ kvs, a ≠ .dic kvs := by
      unfold cstV at e
      split at e
      · cases e
      · rename_i o nd
        exact ⟨e, fun kvs z => nd kvs (by rw [e, z])⟩
    have q := at_ e1.1
    unfold cstAt at q
    split at q
    · rename_i u hu
      have q2 : cstB K 6 u a = true := by
        cases a with
        | dic kvs => exact absurd rfl (e1.2 kvs)
        | _ => exact q
      obtain ⟨v, r, rv⟩ := cstB_ok 6 q2
      exact ⟨v, u, PySem.W.mg_of X G hu, r, rv⟩
    · cases q
  · rw [hc] at e
    have q := at_ e
    unfold cstAt at q
    split at q
    · rename_i u hu
      simp only at q
      split at q
      · rename_i a
        obtain ⟨q1, q2⟩ := and_ok q
        have ha : a = He.ga K x := of_decide_eq_true q1
        subst ha
        have hm : ((fun K => He.ga K x, kvs.map fun q => q.1) : He.Tab) ∈ tabsOf cs := List.mem_filterMap.mpr ⟨(x, .dic kvs), PySem.mem_of_lookup e, rfl⟩
        obtain ⟨i, hi, ei⟩ := List.mem_iff_getElem.mp hm
        obtain ⟨es, n, KD⟩ := c.t.tab i (t := (fun K => He.ga K x, kvs.map fun q => q.1)) (by rw [List.getElem?_eq_getElem hi, ei])
        refine ⟨_, es, n, PySem.W.mg_of X G hu, KD, fun s => ?_⟩
        have lk := KD.at_
        unfold dicB at q2
        rw [lk] at q2
        obtain ⟨i1, i2, i3⟩ := entB_ok (s := s) q2
        refine ⟨fun a z => ?_, fun z => ?_⟩
        · obtain ⟨en, u, v, f, rfl, r, rv⟩ := i2 a z
          refine ⟨_, v, ?_, r, rv⟩
          unfold PySem.W.nsIn
          rw [lk]
          simp only
          rw [f]
        · unfold PySem.W.nsIn
          rw [lk]
          simp only
          rw [i3 z]
          simp only
          rw [i1]
          rfl
      · cases q
    · cases q
end
end Ev

set_option maxHeartbeats 4000000
namespace Mx
open PySem Ev
variable {k : Nat} {h : Obs} {w : W}
theorem lineN_small {n : Nat} (h : n ≤ 1000) : lineN n = true := by
  unfold lineN
  rw [sizeLine_eq]
  exact decide_eq_true (by omega)
/-- values without parts that change -/
inductive PV : W → Prop
  | non : PV .non
  | bl (b : Bool) : PV (.bl b)
  | int (i : Int) : PV (.int i)
  | str (s : Str) : PV (.str s)
  | emp : PV .emp
  | tup (ws : List W) : (∀ w ∈ ws, PV w) → PV (.tup ws)
  | lst (ws : List W) : (∀ w ∈ ws, PV w) → PV (.lst ws)
def isIn : W → Bool
  | .int _ => true
  | _ => false
def isCn : W → Bool
  | .int i => decide (0 ≤ i)
  | _ => false
def isLs : W → Bool
  | .lst _ => true
  | .tup _ => true
  | _ => false
/-- words -/
def isWd (s : Str) : Bool := decide (s = "pair") || (decide (s = "sum") || decide (s = "fun"))
def isBr : W → Bool
  | .tup [.str s, _, _] => isWd s
  | _ => false
def isLf : W → Bool
  | .tup [.str s] => decide (s = "count")
  | .tup [.str s, .int i] => decide (s = "letter") && (decide (0 ≤ i) && decide (i ≤ 5))
  | _ => false
theorem eqS {s t : Str} : eqW (.str s) (.str t) = some (decide (s = t)) := by
  by_cases e : s = t
  · subst e
    simp [eqW, W.dat, PyData.depth, PyData.eqv]
  · simp [eqW, W.dat, PyData.depth, PyData.eqv, e]
theorem eqN (i j : Int) : eqW (.int i) (.int j) = some (decide (i = j)) := by
  by_cases e : i = j
  · subst e
    simp [eqW, W.dat, PyData.depth, PyData.eqv]
  · simp [eqW, W.dat, PyData.depth, PyData.eqv, e]
theorem eqB (i j : Bool) : eqW (.bl i) (.bl j) = some (decide (i = j)) := by
  cases i <;> cases j <;> rfl
theorem eqvS (s t : Str) : PyData.eqv (.str s) (.str t) = decide (t = s) := by
  by_cases e : s = t
  · subst e
    simp [PyData.eqv]
  · have e2 : ¬ t = s := fun z => e z.symm
    simp [PyData.eqv, e, e2]
theorem eqvN (i j : Int) : PyData.eqv (.int i) (.int j) = decide (j = i) := by
  by_cases e : i = j
  · subst e
    simp [PyData.eqv]
  · have e2 : ¬ j = i := fun z => e z.symm
    simp [PyData.eqv, e, e2]
/-! ## kinds, as told -/
def K : Nat → W → Option Nat
  | 0, _ => none
  | n + 1, w => match isLf w with
    | true => some 1
    | false => match w with
      | .tup [.str s, a, b] => match isWd s with
        | true => match K n a, K n b with
          | some x, some y => some (1 + x + y)
          | _, _ => none
        | false => none
      | _ => none
theorem K_br {n m : Nat} {w : W} (hl : isLf w = false) (e : K (n + 1) w = some m) : ∃ s a b x y, w = .tup [.str s, a, b] ∧ isWd s = true ∧ K n a = some x ∧ K n b = some y ∧ m = 1 + x + y := by
  unfold K at e
  rw [hl] at e
  simp only at e
  split at e
  · rename_i s a b
    split at e
    · rename_i hw
      split at e
      · rename_i x y q1 q2
        cases e
        exact ⟨s, a, b, x, y, rfl, hw, q1, q2, rfl⟩
      · cases e
    · cases e
  · cases e
def enc (p : W × Nat) : W := .tup [p.1, .int (13 - p.2)]
def tot : List (W × Nat) → Option Nat
  | [] => some 0
  | p :: r => match K p.2 p.1, tot r with
    | some x, some y => some (x + y)
    | _, _ => none
def good (stk : List (W × Nat)) (s : Nat) : Bool := match tot stk with
  | some t => decide (s + t ≤ 60)
  | none => false
theorem K_pos {n x : Nat} {w : W} (e : K n w = some x) : 1 ≤ x := by
  cases n with
  | zero => cases e
  | succ n =>
    cases hl : isLf w with
    | true => unfold K at e; rw [hl] at e; cases e; omega
    | false =>
      obtain ⟨_, _, _, x, y, _, _, _, _, rfl⟩ := K_br hl e
      omega
/-- whether is_kind says so -/
def due (w : W) : Bool := match K 12 w with
  | some t => decide (t ≤ 60)
  | none => false
/-! ## nodes -/
abbrev BI : List (Str × W) := [("name", W.tup []), ("told", .tup []), ("fun", .tup [.int 1]), ("call", .tup [.int 0, .int 0]), ("both", .tup [.int 0, .int 0]), ("first", .tup [.int 0]), ("second", .tup [.int 0]), ("left", .tup [.int 0]), ("right", .tup [.int 0]), ("which", .tup [.int 0, .int 1, .int 1]), ("next", .tup [.int 0]), ("turns", .tup [.int 0, .int 1, .int 0]), ("let", .tup [.int 0, .int 1])]
/-- how many children; none: no word -/
def ary (s : Str) : Option Nat := match dicGet BI s with
  | some (.tup ws) => some ws.length
  | _ => none
def isKw (s : Str) : Bool := decide (s = "fun") || (decide (s = "left") || (decide (s = "right") || decide (s = "turns")))
def upC (m : Int) : W → Bool
  | .int i => decide (0 ≤ i) && decide (i ≤ m)
  | _ => false
def nd : W → Bool
  | .tup (.str s :: r) => match (dicGet BI s).isSome with
    | false => false
    | true => match isKw s with
      | true => (match r with | [x] => due x | _ => false)
      | false => match decide (s = "name") with
        | true => (match r with | [x] => upC 299 x | _ => false)
        | false => match decide (s = "told") with
          | true => (match r with | [x] => upC 1000000 x | _ => false)
          | false => decide (r.length = 0)
  | _ => false
/-- the words without more behind them -/
def isAl (s : Str) : Bool := decide (s = "call") || (decide (s = "both") || (decide (s = "first") || (decide (s = "second") || (decide (s = "which") || (decide (s = "next") || decide (s = "let"))))))
theorem kw_in {s : Str} (e : isKw s = true) : (dicGet BI s).isSome = true := by
  unfold isKw at e
  simp only [Bool.or_eq_true, decide_eq_true_eq] at e
  rcases e with rfl | rfl | rfl | rfl <;> decide +kernel
theorem nm_in : (dicGet BI "name").isSome = true ∧ (dicGet BI "told").isSome = true := by decide +kernel
theorem al_in {s : Str} (e : isKw s = false) (e1 : ¬ s = "name") (e2 : ¬ s = "told") : (dicGet BI s).isSome = isAl s := by
  unfold isKw at e
  simp only [Bool.or_eq_false_iff, decide_eq_false_iff_not] at e
  obtain ⟨e3, e4, e5, e6⟩ := e
  have n1 : ∀ {t : Str}, ¬ s = t → decide (t = s) = false := fun h => decide_eq_false (fun y => h y.symm)
  have c : ∀ {t : Str} (b : W) (r : List (Str × W)), (dicGet ((t, b) :: r) s).isSome = (decide (s = t) || (dicGet r s).isSome) := fun {t} b r => by
    by_cases z : s = t
    · subst z; simp [dicGet]
    · have y := n1 z
      simp [dicGet, y, z]
  simp only [BI, c, decide_eq_false e1, decide_eq_false e2, decide_eq_false e3, decide_eq_false e4, decide_eq_false e5, decide_eq_false e6, Bool.false_or]
  rw [show (dicGet [] s).isSome = false from rfl, Bool.or_false]
  rfl
theorem nd_al {s : Str} {r : List W} (e : isKw s = false) (e1 : ¬ s = "name") (e2 : ¬ s = "told") : nd (.tup (.str s :: r)) = (isAl s && decide (r.length = 0)) := by
  show (match (dicGet BI s).isSome with
    | false => false
    | true => match isKw s with
      | true => (match r with | [x] => due x | _ => false)
      | false => match decide (s = "name") with
        | true => (match r with | [x] => upC 299 x | _ => false)
        | false => match decide (s = "told") with
          | true => (match r with | [x] => upC 1000000 x | _ => false)
          | false => decide (r.length = 0)) = _
  rw [al_in e e1 e2, e, decide_eq_false e1, decide_eq_false e2]
  cases isAl s <;> rfl
/-! ## what a node binds -/
def DD : List (Str × W) := [("name", .lst []), ("told", .lst []), ("fun", .lst [.int 1]), ("call", .lst [.int 0, .int 0]), ("both", .lst [.int 0, .int 0]), ("first", .lst [.int 0]), ("second", .lst [.int 0]), ("left", .lst [.int 0]), ("right", .lst [.int 0]), ("next", .lst [.int 0]), ("let", .lst [.int 0, .int 1]), ("which", .lst [.int 0, .int 1, .int 1]), ("turns", .lst [.int 0, .int 1, .int 0])]
def D0 : List (Str × W) := [("name", .lst []), ("told", .lst []), ("fun", .lst [.int 1]), ("call", .lst [.int 0, .int 0]), ("both", .lst [.int 0, .int 0]), ("first", .lst [.int 0]), ("second", .lst [.int 0])]
theorem dput : dicPut (dicPut (dicPut (dicPut (dicPut (dicPut D0 "left" (.lst [.int 0])) "right" (.lst [.int 0])) "next" (.lst [.int 0])) "let" (.lst [.int 0, .int 1])) "which" (.lst [.int 0, .int 1, .int 1])) "turns" (.lst [.int 0, .int 1, .int 0]) = DD := by rfl
theorem at_end (h : Obs) (x : Ob) : (h ++ [x])[h.length]? = some x := by simp
theorem set_end (h : Obs) (x y : Ob) : (h ++ [x]).set h.length y = h ++ [y] := by simp
theorem sl_small {n : Nat} (h : n ≤ 1000) : n < sizeLine := by
  rw [sizeLine_eq]
  omega
def D1 : List (Str × W) := dicPut (dicPut (dicPut (dicPut D0 "left" (.lst [.int 0])) "right" (.lst [.int 0])) "next" (.lst [.int 0])) "let" (.lst [.int 0, .int 1])
theorem put_ref {D : Dn} {σ : Sls} {p1 p2 p3 : Pos} {h : Obs} {kvs : List (Str × W)} {s : Str} {w : W} (hl : kvs.length ≤ 1000) (e : slotV σ 1 = some (.ref h.length)) :
    (Tg.sub (.name "_law_some" 1 p1) (.str s 0 p2) p3).den D w σ (h ++ [.dic kvs]) = .ok σ (h ++ [.dic (dicPut kvs s w)]) := by
  have z := sl_small hl
  simp [Tg.den, E.den, R.opt, e, at_end, set_end, z]
theorem dd_of {s : Str} {ws : List W} (e : dicGet BI s = some (.tup ws)) : dicGet DD s = some (.lst ws) := by
  have c : ∀ {t : Str} (b : W) (r : List (Str × W)), dicGet ((t, b) :: r) s = if s = t then some b else dicGet r s := fun {t} b r => by
    by_cases z : s = t
    · subst z; simp [dicGet]
    · have y : ¬ t = s := fun y => z y.symm
      simp [dicGet, y, z]
  have n : dicGet [] s = none := rfl
  simp only [BI, c, n] at e
  by_cases z0 : s = "name"
  · subst z0
    rw [if_pos rfl] at e
    cases e
    rfl
  rw [if_neg z0] at e
  by_cases z1 : s = "told"
  · subst z1
    rw [if_pos rfl] at e
    cases e
    rfl
  rw [if_neg z1] at e
  by_cases z2 : s = "fun"
  · subst z2
    rw [if_pos rfl] at e
    cases e
    rfl
  rw [if_neg z2] at e
  by_cases z3 : s = "call"
  · subst z3
    rw [if_pos rfl] at e
    cases e
    rfl
  rw [if_neg z3] at e
  by_cases z4 : s = "both"
  · subst z4
    rw [if_pos rfl] at e
    cases e
    rfl
  rw [if_neg z4] at e
  by_cases z5 : s = "first"
  · subst z5
    rw [if_pos rfl] at e
    cases e
    rfl
  rw [if_neg z5] at e
  by_cases z6 : s = "second"
  · subst z6
    rw [if_pos rfl] at e
    cases e
    rfl
  rw [if_neg z6] at e
  by_cases z7 : s = "left"
  · subst z7
    rw [if_pos rfl] at e
    cases e
    rfl
  rw [if_neg z7] at e
  by_cases z8 : s = "right"
  · subst z8
    rw [if_pos rfl] at e
    cases e
    rfl
  rw [if_neg z8] at e
  by_cases z9 : s = "which"
  · subst z9
    rw [if_pos rfl] at e
    cases e
    rfl
  rw [if_neg z9] at e
  by_cases z10 : s = "next"
  · subst z10
    rw [if_pos rfl] at e
    cases e
    rfl
  rw [if_neg z10] at e
  by_cases z11 : s = "turns"
  · subst z11
    rw [if_pos rfl] at e
    cases e
    rfl
  rw [if_neg z11] at e
  by_cases z12 : s = "let"
  · subst z12
    rw [if_pos rfl] at e
    cases e
    rfl
  rw [if_neg z12] at e
  cases e
/-! ## trees -/
def ar : W → Nat
  | .tup (.str s :: _) => (match dicGet BI s with | some (.tup ws) => ws.length | _ => 0)
  | _ => 0
theorem dic_mem {s : Str} {w : W} : ∀ {kvs : List (Str × W)}, dicGet kvs s = some w → ∃ t, (t, w) ∈ kvs
  | [], e => by cases e
  | (t, x) :: r, e => by
    unfold dicGet at e
    split at e
    · cases e; exact ⟨t, List.mem_cons_self⟩
    · obtain ⟨t, m⟩ := dic_mem e
      exact ⟨t, List.mem_cons_of_mem _ m⟩
theorem bi_tup {s : Str} {w : W} (e : dicGet BI s = some w) : ∃ ws, w = .tup ws ∧ ws.length ≤ 3 := by
  obtain ⟨t, m⟩ := dic_mem e
  simp only [BI, List.mem_cons, Prod.mk.injEq, List.not_mem_nil, or_false] at m
  rcases m with ⟨_, rfl⟩ | ⟨_, rfl⟩ | ⟨_, rfl⟩ | ⟨_, rfl⟩ | ⟨_, rfl⟩ | ⟨_, rfl⟩ | ⟨_, rfl⟩ | ⟨_, rfl⟩ | ⟨_, rfl⟩ | ⟨_, rfl⟩ | ⟨_, rfl⟩ | ⟨_, rfl⟩ | ⟨_, rfl⟩ <;> exact ⟨_, rfl, by decide⟩
theorem nd_get (e : nd w = true) : ∃ s r ws, w = .tup (.str s :: r) ∧ dicGet BI s = some (.tup ws) ∧ ar w = ws.length := by
  unfold nd at e
  split at e
  · rename_i s r
    cases hd : dicGet BI s with
    | none => rw [hd] at e; cases e
    | some x =>
      obtain ⟨ws, rfl, _⟩ := bi_tup hd
      exact ⟨s, r, ws, rfl, hd, by simp [ar, hd]⟩
  · cases e
/-- what lies behind n trees -/
def need : List W → Nat → Option (List W)
  | l, 0 => some l
  | [], _ + 1 => none
  | a :: r, n + 1 => need r (n + ar a)
def full : Option (List W) → Bool
  | some [] => true
  | _ => false
def NDs (l : List W) : Prop := ∀ w ∈ l, nd w = true
theorem need_add : ∀ (l : List W) (u v : Nat), need l (u + v) = (need l u).bind fun r => need r v
  | l, 0, v => by cases l <;> simp [need]
  | [], u + 1, v => by
    have e : u + 1 + v = (u + v) + 1 := by omega
    rw [e]
    rfl
  | a :: r, u + 1, v => by
    have e : u + 1 + v = (u + v) + 1 := by omega
    rw [e]
    show need r (u + v + ar a) = (need r (u + ar a)).bind _
    have e2 : u + v + ar a = (u + ar a) + v := by omega
    rw [e2, need_add r]
theorem need_len : ∀ (l : List W) (u : Nat) (r : List W), need l u = some r → r.length + u ≤ l.length
  | l, 0, r, e => by cases l <;> (cases e; simp)
  | [], u + 1, r, e => by cases e
  | a :: l, u + 1, r, e => by
    have i := need_len l (u + ar a) r e
    simp only [List.length_cons]
    omega
theorem lcGo_map {put : W → Option Sls} {c : Sls → Obs → R Bool} {e : Sls → Obs → R W} {h : Obs} (f : W → W) : ∀ (xs acc : List W), (∀ x ∈ xs, ∃ σ, put x = some σ ∧ c σ h = .ok true h ∧ e σ h = .ok (f x) h) → acc.length + xs.length ≤ 1000 → lcGo put c e xs acc h = .ok (acc ++ xs.map f) h
  | [], acc, _, _ => by simp [lcGo]
  | x :: xs, acc, q, hl => by
    obtain ⟨σ, e1, e2, e3⟩ := q x List.mem_cons_self
    simp only [List.length_cons] at hl
    have z : decide (acc.length < sizeLine) = true := decide_eq_true (sl_small (by omega))
    have i := lcGo_map f xs (acc ++ [f x]) (fun y hy => q y (List.mem_cons_of_mem _ hy)) (by simp only [List.length_append, List.length_cons, List.length_nil]; omega)
    unfold lcGo
    simp only [e1, e2, e3, z]
    rw [i]
    simp
theorem bools_map (g : W → Bool) : ∀ (ns : List W), bools (ns.map fun w => W.bl (g w)) = some (ns.map g)
  | [] => rfl
  | w :: ns => by
    have i := bools_map g ns
    simp [bools, i]
def parts : W → Option (List W)
  | .lst ns => some ns
  | .tup ns => some ns
  | _ => none
def tm (w : W) : Bool := match parts w with
  | some ns => decide (1 ≤ ns.length) && (decide (ns.length ≤ 300) && (ns.all nd && full (need ns 1)))
  | none => false
/-! ## where a tree ends -/
def enc2 (L : Nat) : Option (List W) → W
  | none => .non
  | some r => .int ((L - r.length : Nat) : Int)
theorem need_suf : ∀ (l : List W) (u : Nat) (r : List W), need l u = some r → ∃ p, l = p ++ r
  | l, 0, r, e => by cases l <;> (cases e; exact ⟨[], rfl⟩)
  | [], u + 1, r, e => by cases e
  | a :: l, u + 1, r, e => by
    obtain ⟨p, q⟩ := need_suf l (u + ar a) r e
    exact ⟨a :: p, by rw [q]; rfl⟩
theorem seq {D : Dn} {s : S} {ss : Ss} {σ σ1 : Sls} {h h1 : Obs} (e : s.den D σ h = .nx σ1 h1) : Ss.den D (.cons s ss) σ h = Ss.den D ss σ1 h1 := by
  show (match s.den D σ h with | .nx σ h => ss.den D σ h | o => o) = _
  rw [e]
end Mx

set_option maxHeartbeats 4000000
namespace Mx
open PySem Ev
/-! ## parts of a block -/
def nth : Ss → Nat → S
  | .nil, _ => .pass ⟨0, 0, 0, 0⟩
  | .cons s _, 0 => s
  | .cons _ ss, n + 1 => nth ss n
def dropS : Ss → Nat → Ss
  | ss, 0 => ss
  | .nil, _ => .nil
  | .cons _ ss, n + 1 => dropS ss n
def unfrz : S → S
  | .frz _ s => unfrz s
  | s => s
def forB (s : S) : Ss := match unfrz s with
  | .for _ _ b _ => b
  | _ => .nil
def forT (s : S) : Tg := match unfrz s with
  | .for t _ _ _ => t
  | _ => .tup .nil 0 ⟨0, 0, 0, 0⟩
def forI (s : S) : It := match unfrz s with
  | .for _ i _ _ => i
  | _ => .seq (.non 0 ⟨0, 0, 0, 0⟩)
def whlC (s : S) : E := match unfrz s with
  | .whl c _ _ => c
  | _ => .non 0 ⟨0, 0, 0, 0⟩
def whlB (s : S) : Ss := match unfrz s with
  | .whl _ b _ => b
  | _ => .nil
/-! ## lists of plain values -/
def PVs (ws : List W) : Prop := ∀ w ∈ ws, PV w
theorem PVs.app {a b : List W} (p : PVs a) (q : PVs b) : PVs (a ++ b) := fun w hw => (List.mem_append.mp hw).elim (p w) (q w)
theorem PVs.cons {w : W} {b : List W} (p : PV w) (q : PVs b) : PVs (w :: b) := fun x hx => (List.mem_cons.mp hx).elim (fun e => e ▸ p) (q x)
theorem PVs.nil : PVs [] := fun _ h => by cases h
theorem PVs.take {a : List W} (p : PVs a) (n : Nat) : PVs (a.take n) := fun w hw => p w (List.mem_of_mem_take hw)
theorem PVs.drop {a : List W} (p : PVs a) (n : Nat) : PVs (a.drop n) := fun w hw => p w (List.mem_of_mem_drop hw)
theorem PVs.rep {w : W} (p : PV w) (n : Nat) : PVs (List.replicate n w) := fun x hx => by
  rw [(List.mem_replicate.mp hx).2]; exact p
theorem rep2 (a b : Bool) : ∃ s, reprW (.lst [.bl a, .bl b]) = some s := by
  cases a <;> cases b <;> exact ⟨_, by rfl⟩
theorem rep3 (a b c : Bool) : ∃ s, reprW (.lst [.bl a, .bl b, .bl c]) = some s := by
  cases a <;> cases b <;> cases c <;> exact ⟨_, by rfl⟩
/-- a comprehension with a test -/
theorem lcGo_filt {put : W → Option Sls} {c : Sls → Obs → R Bool} {e : Sls → Obs → R W} {h : Obs} (p : W → Bool) (f : W → W) : ∀ (xs acc : List W), (∀ x ∈ xs, ∃ σ, put x = some σ ∧ c σ h = .ok (p x) h ∧ (p x = true → e σ h = .ok (f x) h)) → acc.length + xs.length ≤ 1000 → lcGo put c e xs acc h = .ok (acc ++ (xs.filter p).map f) h
  | [], acc, _, _ => by simp [lcGo]
  | x :: xs, acc, q, hl => by
    obtain ⟨σ, e1, e2, e3⟩ := q x List.mem_cons_self
    simp only [List.length_cons] at hl
    have z : decide (acc.length < sizeLine) = true := decide_eq_true (sl_small (by omega))
    cases hp : p x with
    | true =>
      have i := lcGo_filt p f xs (acc ++ [f x]) (fun y hy => q y (List.mem_cons_of_mem _ hy)) (by simp only [List.length_append, List.length_cons, List.length_nil]; omega)
      unfold lcGo
      simp only [e1, e2, hp, e3 hp, z]
      rw [i]
      simp [List.filter_cons, hp]
    | false =>
      have i := lcGo_filt p f xs acc (fun y hy => q y (List.mem_cons_of_mem _ hy)) (by omega)
      unfold lcGo
      simp only [e1, e2, hp]
      rw [i]
      simp [List.filter_cons, hp]
/-- [f(x) for x in v] -/
theorem lcCall {D : Dn} {σ : Sls} {h : Obs} {b : Bool} {f i j : Nat} {ws : List W} {g : W → W} (x : Str) (p1 p2 p3 : Pos) (y : Str) (p4 : Pos) (z : Str) (p5 : Pos) (sc : Scope) (p6 : Pos)
    (hv : slotV σ j = some (.lst ws) ∨ slotV σ j = some (.tup ws)) (hc : ∀ w ∈ ws, D.call f [w] h = .ok (g w) h) (no : noOwn σ [i] = true) (hi : i < σ.length) (hl : ws.length ≤ 1000) :
    (E.lc (.call f x p1 (.cons (.name y i p2) .nil) p3) (.name y i p4) (.seq (.name z j p5)) .non [(y, i)] sc p6).den D b σ h = .ok (.lst (ws.map g)) h := by
  have it : (It.seq (.name z j p5)).den D σ h = .ok ws h := by
    rcases hv with hv | hv <;> simp [It.den, E.den, hv, R.opt, R.bind, W.items]
  have lg := lcGo_map (h := h) (put := fun x => (Tg.name y i p4).put x (wipeS σ [i])) (c := fun σ h => Eo.non.tst D σ h) (e := fun σ h => (E.call f x p1 (.cons (.name y i p2) .nil) p3).den D false σ h) g ws [] (fun x hx => ⟨(wipeS σ [i]).set i (.val x), rfl, rfl, by
    have e : slotV ((wipeS σ [i]).set i (.val x)) i = some x := by
      have hl2 : i < (wipeS σ [i]).length := by simp [wipeS, hi]
      simp [slotV, List.getElem?_set_self hl2]
    simp [E.den, Es.den, R.bind, R.opt, e, hc x hx]⟩) (by simpa using hl)
  unfold E.den
  rw [show ixs [(y, i)] = [i] from rfl, no, it]
  simp only [R.bind]
  rw [lg]
  rfl
theorem allW_map (g : W → Bool) (ns : List W) : allW (.lst (ns.map fun w => W.bl (g w))) = some (.bl (ns.all g)) := by
  have hb := bools_map g ns
  show (bools (ns.map fun w => W.bl (g w))).map (fun bs => W.bl (bs.all id)) = _
  rw [hb]
  simp [List.all_map]
/-- [e for x in ..] -/
theorem lcMap {D : Dn} {σ : Sls} {h : Obs} {b : Bool} {i : Nat} {ws : List W} {g : W → W} {e : E} {y : Str} {p4 : Pos} {it : It} {sc : Scope} {p6 : Pos}
    (hit : it.den D σ h = .ok ws h) (he : ∀ w ∈ ws, e.den D false ((wipeS σ [i]).set i (.val w)) h = .ok (g w) h) (no : noOwn σ [i] = true) (hl : ws.length ≤ 1000) :
    (E.lc e (.name y i p4) it .non [(y, i)] sc p6).den D b σ h = .ok (.lst (ws.map g)) h := by
  have lg := lcGo_map (h := h) (put := fun x => (Tg.name y i p4).put x (wipeS σ [i])) (c := fun σ h => Eo.non.tst D σ h) (e := fun σ h => e.den D false σ h) g ws [] (fun x hx => ⟨(wipeS σ [i]).set i (.val x), rfl, rfl, he x hx⟩) (by simpa using hl)
  unfold E.den
  rw [show ixs [(y, i)] = [i] from rfl, no, hit]
  simp only [R.bind]
  rw [lg]
  rfl
/-- [e for x in .. if c] -/
theorem lcFilt {D : Dn} {σ : Sls} {h : Obs} {b : Bool} {i : Nat} {ws : List W} {p : W → Bool} {g : W → W} {e c : E} {y : Str} {p4 : Pos} {it : It} {sc : Scope} {p6 : Pos}
    (hit : it.den D σ h = .ok ws h) (hc : ∀ w ∈ ws, c.tst D ((wipeS σ [i]).set i (.val w)) h = .ok (p w) h) (he : ∀ w ∈ ws, p w = true → e.den D false ((wipeS σ [i]).set i (.val w)) h = .ok (g w) h) (no : noOwn σ [i] = true) (hl : ws.length ≤ 1000) :
    (E.lc e (.name y i p4) it (.some c) [(y, i)] sc p6).den D b σ h = .ok (.lst ((ws.filter p).map g)) h := by
  have lg := lcGo_filt (h := h) (put := fun x => (Tg.name y i p4).put x (wipeS σ [i])) (c := fun σ h => (Eo.some c).tst D σ h) (e := fun σ h => e.den D false σ h) p g ws [] (fun x hx => ⟨(wipeS σ [i]).set i (.val x), rfl, hc x hx, he x hx⟩) (by simpa using hl)
  unfold E.den
  rw [show ixs [(y, i)] = [i] from rfl, no, hit]
  simp only [R.bind]
  rw [lg]
  rfl
/-! ## values that are no numbers of lists -/
theorem nwN (h : Obs) : W.now h .non = .non := rfl
theorem nwB (h : Obs) (b : Bool) : W.now h (.bl b) = .bl b := rfl
theorem nwI (h : Obs) (i : Int) : W.now h (.int i) = .int i := rfl
theorem nwS (h : Obs) (s : Str) : W.now h (.str s) = .str s := rfl
theorem nwT (h : Obs) (ws : List W) : W.now h (.tup ws) = .tup ws := rfl
theorem nwL (h : Obs) (ws : List W) : W.now h (.lst ws) = .lst ws := rfl
theorem nwE (h : Obs) : W.now h .emp = .emp := rfl
theorem nwR (h : Obs) (n : Nat) : W.now h (.ref n) = (match h[n]? with
    | some (.lst ws) => .lst ws
    | some (.dic kvs) => .dic kvs
    | none => .ref n) := rfl
/-! ## kinds -/
inductive Kd where
  | ltr (i : Nat) | cnt | pair (a b : Kd) | sum (a b : Kd) | fn (a b : Kd)
deriving DecidableEq, Inhabited
namespace Kd
def w : Kd → W
  | .ltr i => .tup [.str "letter", .int i]
  | .cnt => .tup [.str "count"]
  | .pair a b => .tup [.str "pair", a.w, b.w]
  | .sum a b => .tup [.str "sum", a.w, b.w]
  | .fn a b => .tup [.str "fun", a.w, b.w]
def d : Kd → PyData
  | .ltr i => .tuple [.str "letter", .int i]
  | .cnt => .tuple [.str "count"]
  | .pair a b => .tuple [.str "pair", a.d, b.d]
  | .sum a b => .tuple [.str "sum", a.d, b.d]
  | .fn a b => .tuple [.str "fun", a.d, b.d]
def signs : Kd → Nat
  | .pair a b | .sum a b | .fn a b => 1 + a.signs + b.signs
  | _ => 1
def deep : Kd → Nat
  | .pair a b | .sum a b | .fn a b => 1 + max a.deep b.deep
  | _ => 1
/-- letters are below n -/
def lw (n : Nat) : Kd → Bool
  | .ltr i => decide (i < n)
  | .cnt => true
  | .pair a b | .sum a b | .fn a b => a.lw n && b.lw n
theorem dat : ∀ a : Kd, a.w.dat = some a.d
  | .ltr i => by simp [w, d, W.dat, W.dats]
  | .cnt => by simp [w, d, W.dat, W.dats]
  | .pair a b => by simp [w, d, W.dat, W.dats, dat a, dat b]
  | .sum a b => by simp [w, d, W.dat, W.dats, dat a, dat b]
  | .fn a b => by simp [w, d, W.dat, W.dats, dat a, dat b]
theorem depth : ∀ a : Kd, a.d.depth = a.deep
  | .ltr i => by simp [d, deep, PyData.depth, PyData.depthAll]
  | .cnt => by simp [d, deep, PyData.depth, PyData.depthAll]
  | .pair a b => by simp [d, deep, PyData.depth, PyData.depthAll, depth a, depth b]; omega
  | .sum a b => by simp [d, deep, PyData.depth, PyData.depthAll, depth a, depth b]; omega
  | .fn a b => by simp [d, deep, PyData.depth, PyData.depthAll, depth a, depth b]; omega
theorem words : ¬ (("letter" : Str) = "count") ∧ ¬ (("letter" : Str) = "pair") ∧ ¬ (("letter" : Str) = "sum") ∧ ¬ (("letter" : Str) = "fun") ∧ ¬ (("count" : Str) = "letter") ∧ ¬ (("count" : Str) = "pair") ∧ ¬ (("count" : Str) = "sum") ∧ ¬ (("count" : Str) = "fun") ∧
    ¬ (("pair" : Str) = "letter") ∧ ¬ (("pair" : Str) = "count") ∧ ¬ (("pair" : Str) = "sum") ∧ ¬ (("pair" : Str) = "fun") ∧ ¬ (("sum" : Str) = "letter") ∧ ¬ (("sum" : Str) = "count") ∧ ¬ (("sum" : Str) = "pair") ∧ ¬ (("sum" : Str) = "fun") ∧
    ¬ (("fun" : Str) = "letter") ∧ ¬ (("fun" : Str) = "count") ∧ ¬ (("fun" : Str) = "pair") ∧ ¬ (("fun" : Str) = "sum") := by decide +kernel
theorem eqT (xs ys : List PyData) : PyData.eqv (.tuple xs) (.tuple ys) = PyData.eqvAll xs ys := by simp only [PyData.eqv]
theorem eqC (x y : PyData) (xs ys : List PyData) : PyData.eqvAll (x :: xs) (y :: ys) = (PyData.eqv x y && PyData.eqvAll xs ys) := by simp only [PyData.eqvAll]
theorem eqE : PyData.eqvAll [] [] = true := by simp only [PyData.eqvAll]
theorem eqE1 (x : PyData) (xs : List PyData) : PyData.eqvAll (x :: xs) [] = false := by simp only [PyData.eqvAll]
theorem eqE2 (x : PyData) (xs : List PyData) : PyData.eqvAll [] (x :: xs) = false := by simp only [PyData.eqvAll]
theorem eqv : ∀ a b : Kd, PyData.eqv a.d b.d = decide (a = b)
  | a, b => by
    have q := words
    have z : ∀ (i j : Nat), decide ((j : Int) = (i : Int)) = decide (i = j) := fun i j => decide_eq_decide.mpr ⟨fun h => by omega, fun h => by omega⟩
    have z2 : ∀ {s t : Str}, ¬ t = s → decide (s = t) = false := fun h => decide_eq_false (fun e => h e.symm)
    cases a <;> cases b <;> simp only [d, eqT, eqC, eqE, eqE1, eqE2, eqvS, eqvN, z, q, z2, reduceCtorEq, decide_true, decide_false, Bool.true_and, Bool.false_and, Bool.and_true, Kd.ltr.injEq, Kd.pair.injEq, Kd.sum.injEq, Kd.fn.injEq, not_false_eq_true]
    all_goals (rename_i a b c e; rw [eqv a c, eqv b e]; by_cases h1 : a = c <;> by_cases h2 : b = e <;> simp [h1, h2])
theorem eq (a b : Kd) (h : a.deep ≤ 64 ∨ b.deep ≤ 64) : eqW a.w b.w = some (decide (a = b)) := by
  unfold eqW
  rw [dat, dat]
  simp only
  rw [depth, depth, decide_eq_true (by omega), eqv]
theorem pv : ∀ a : Kd, PV a.w
  | .ltr i => .tup _ (PVs.cons (.str _) (PVs.cons (.int _) PVs.nil))
  | .cnt => .tup _ (PVs.cons (.str _) PVs.nil)
  | .pair a b => .tup _ (PVs.cons (.str _) (PVs.cons (pv a) (PVs.cons (pv b) PVs.nil)))
  | .sum a b => .tup _ (PVs.cons (.str _) (PVs.cons (pv a) (PVs.cons (pv b) PVs.nil)))
  | .fn a b => .tup _ (PVs.cons (.str _) (PVs.cons (pv a) (PVs.cons (pv b) PVs.nil)))
theorem signs_deep : ∀ (a : Kd) (n : Nat), a.deep ≤ n → a.signs + 1 ≤ 2 ^ n
  | a, 0, h => by cases a <;> simp [deep] at h
  | .ltr i, n + 1, h => by simp [signs]; have := Nat.pow_le_pow_right (n := 2) (by omega) (show 1 ≤ n + 1 by omega); omega
  | .cnt, n + 1, h => by simp [signs]; have := Nat.pow_le_pow_right (n := 2) (by omega) (show 1 ≤ n + 1 by omega); omega
  | .pair a b, n + 1, h => by
    simp only [deep] at h
    have h1 := signs_deep a n (by omega)
    have h2 := signs_deep b n (by omega)
    simp only [signs, Nat.pow_succ]
    omega
  | .sum a b, n + 1, h => by
    simp only [deep] at h
    have h1 := signs_deep a n (by omega)
    have h2 := signs_deep b n (by omega)
    simp only [signs, Nat.pow_succ]
    omega
  | .fn a b, n + 1, h => by
    simp only [deep] at h
    have h1 := signs_deep a n (by omega)
    have h2 := signs_deep b n (by omega)
    simp only [signs, Nat.pow_succ]
    omega
theorem wd : isWd "pair" = true ∧ isWd "sum" = true ∧ isWd "fun" = true := by decide +kernel
/-- what is_kind tells of it -/
theorem kK : ∀ (a : Kd) (n : Nat), a.lw 6 = true → a.deep ≤ n → K n a.w = some a.signs
  | a, 0, _, h => by cases a <;> simp [deep] at h
  | .ltr i, n + 1, hb, h => by
    have hi : i < 6 := of_decide_eq_true hb
    have e : isLf (.tup [.str "letter", .int i]) = true := by
      show (decide (("letter" : Str) = "letter") && (decide (0 ≤ (i : Int)) && decide ((i : Int) ≤ 5))) = true
      rw [decide_eq_true rfl, decide_eq_true (by omega), decide_eq_true (by omega)]
      rfl
    simp [K, w, signs, e]
  | .cnt, n + 1, hb, h => by
    have e : isLf (.tup [.str "count"]) = true := by decide +kernel
    simp [K, w, signs, e]
  | .pair a b, n + 1, hb, h => by
    simp only [deep] at h
    obtain ⟨b1, b2⟩ := Bool.and_eq_true_iff.mp hb
    have e : isLf (.tup [.str "pair", a.w, b.w]) = false := by cases a <;> rfl
    simp [K, w, signs, e, wd, kK a n b1 (by omega), kK b n b2 (by omega)]
  | .sum a b, n + 1, hb, h => by
    simp only [deep] at h
    obtain ⟨b1, b2⟩ := Bool.and_eq_true_iff.mp hb
    have e : isLf (.tup [.str "sum", a.w, b.w]) = false := by cases a <;> rfl
    simp [K, w, signs, e, wd, kK a n b1 (by omega), kK b n b2 (by omega)]
  | .fn a b, n + 1, hb, h => by
    simp only [deep] at h
    obtain ⟨b1, b2⟩ := Bool.and_eq_true_iff.mp hb
    have e : isLf (.tup [.str "fun", a.w, b.w]) = false := by cases a <;> rfl
    simp [K, w, signs, e, wd, kK a n b1 (by omega), kK b n b2 (by omega)]
def word : Kd → Str
  | .ltr _ => "letter" | .cnt => "count" | .pair _ _ => "pair" | .sum _ _ => "sum" | .fn _ _ => "fun"
theorem ix0 (a : Kd) : idxW a.w (.int 0) = some (.str a.word) := by cases a <;> rfl
theorem now (a : Kd) (h : Obs) : W.now h a.w = a.w := by cases a <;> rfl
def isL : Kd → Bool
  | .ltr _ => true
  | _ => false
theorem word_l (a : Kd) : decide (a.word = "letter") = a.isL := by
  have q := words
  cases a <;> simp [word, isL, q]
theorem due_of {a : Kd} (hb : a.lw 6 = true) (hd : a.deep ≤ 12) (hs : a.signs ≤ 60) : due a.w = true := by
  unfold due
  rw [kK a 12 hb hd]
  exact decide_eq_true hs
theorem due_small {a : Kd} (hb : a.lw 6 = true) (hd : a.deep ≤ 5) : due a.w = true := due_of hb (by omega) (by
  have := signs_deep a 5 hd
  omega)
theorem lw_mono {n m : Nat} (h : n ≤ m) : ∀ {a : Kd}, a.lw n = true → a.lw m = true
  | .ltr i, e => decide_eq_true (Nat.lt_of_lt_of_le (of_decide_eq_true e) h)
  | .cnt, _ => rfl
  | .pair a b, e => by
    obtain ⟨b1, b2⟩ := Bool.and_eq_true_iff.mp e
    exact Bool.and_eq_true_iff.mpr ⟨lw_mono h b1, lw_mono h b2⟩
  | .sum a b, e => by
    obtain ⟨b1, b2⟩ := Bool.and_eq_true_iff.mp e
    exact Bool.and_eq_true_iff.mpr ⟨lw_mono h b1, lw_mono h b2⟩
  | .fn a b, e => by
    obtain ⟨b1, b2⟩ := Bool.and_eq_true_iff.mp e
    exact Bool.and_eq_true_iff.mpr ⟨lw_mono h b1, lw_mono h b2⟩
end Kd
/-! ## terms -/
inductive Tm where
  | name (i : Nat) | told (n : Nat) | fn (A : Kd) (b : Tm) | call (f a : Tm) | both (a b : Tm) | first (a : Tm) | second (a : Tm) | left (B : Kd) (a : Tm) | right (A : Kd) (a : Tm)
  | which (s u v : Tm) | next (a : Tm) | turns (A : Kd) (n u s : Tm) | let_ (t u : Tm)
deriving DecidableEq, Inhabited
namespace Tm
def ws : Tm → List W
  | .name i => [.tup [.str "name", .int i]]
  | .told n => [.tup [.str "told", .int n]]
  | .fn A b => .tup [.str "fun", A.w] :: b.ws
  | .call f a => .tup [.str "call"] :: (f.ws ++ a.ws)
  | .both a b => .tup [.str "both"] :: (a.ws ++ b.ws)
  | .first a => .tup [.str "first"] :: a.ws
  | .second a => .tup [.str "second"] :: a.ws
  | .left B a => .tup [.str "left", B.w] :: a.ws
  | .right A a => .tup [.str "right", A.w] :: a.ws
  | .which s u v => .tup [.str "which"] :: (s.ws ++ u.ws ++ v.ws)
  | .next a => .tup [.str "next"] :: a.ws
  | .turns A n u s => .tup [.str "turns", A.w] :: (n.ws ++ u.ws ++ s.ws)
  | .let_ t u => .tup [.str "let"] :: (t.ws ++ u.ws)
def size (t : Tm) : Nat := t.ws.length
def okd (A : Kd) : Option Kd := if A.signs ≤ 60 ∧ A.deep ≤ 12 then some A else none
/-- the kind of a term -/
def kd : List Kd → Tm → Option Kd
  | Γ, .name i => Γ[i]?
  | Γ, .told n => some .cnt
  | Γ, .fn A b => (b.kd (A :: Γ)).bind fun B => okd (.fn A B)
  | Γ, .call f a => (f.kd Γ).bind fun F => (a.kd Γ).bind fun A => match F with
    | .fn A' B => if A' = A then some B else none
    | _ => none
  | Γ, .both a b => (a.kd Γ).bind fun A => (b.kd Γ).bind fun B => okd (.pair A B)
  | Γ, .first a => (a.kd Γ).bind fun P => match P with
    | .pair A _ => some A
    | _ => none
  | Γ, .second a => (a.kd Γ).bind fun P => match P with
    | .pair _ B => some B
    | _ => none
  | Γ, .left B a => (a.kd Γ).bind fun A => okd (.sum A B)
  | Γ, .right A a => (a.kd Γ).bind fun B => okd (.sum A B)
  | Γ, .which s u v => (s.kd Γ).bind fun P => match P with
    | .sum A B => (u.kd (A :: Γ)).bind fun C => (v.kd (B :: Γ)).bind fun C' => if C = C' then some C else none
    | _ => none
  | Γ, .next a => (a.kd Γ).bind fun A => if A = .cnt then some .cnt else none
  | Γ, .turns A n u s => (n.kd Γ).bind fun N => (u.kd (A :: Γ)).bind fun U => (s.kd Γ).bind fun S => if N = .cnt ∧ U = A ∧ S = A then some A else none
  | Γ, .let_ t u => (t.kd Γ).bind fun A => u.kd (A :: Γ)
/-- a bound of what is told: names to m, counts to n, kinds so deep, their letters below l -/
def lim (m n dp l : Nat) : Tm → Bool
  | .name i => decide (i ≤ m)
  | .told k => decide (k ≤ n)
  | .fn A b => decide (A.deep ≤ dp) && (A.lw l && b.lim m n dp l)
  | .call f a => f.lim m n dp l && a.lim m n dp l
  | .both a b => a.lim m n dp l && b.lim m n dp l
  | .first a => a.lim m n dp l
  | .second a => a.lim m n dp l
  | .left A a => decide (A.deep ≤ dp) && (A.lw l && a.lim m n dp l)
  | .right A a => decide (A.deep ≤ dp) && (A.lw l && a.lim m n dp l)
  | .which s u v => s.lim m n dp l && (u.lim m n dp l && v.lim m n dp l)
  | .next a => a.lim m n dp l
  | .turns A t u s => decide (A.deep ≤ dp) && (A.lw l && (t.lim m n dp l && (u.lim m n dp l && s.lim m n dp l)))
  | .let_ t u => t.lim m n dp l && u.lim m n dp l
theorem pvs : ∀ t : Tm, PVs t.ws
  | .name i => .cons (.tup _ (PVs.cons (.str _) (PVs.cons (.int _) PVs.nil))) .nil
  | .told n => .cons (.tup _ (PVs.cons (.str _) (PVs.cons (.int _) PVs.nil))) .nil
  | .fn A b => .cons (.tup _ (PVs.cons (.str _) (PVs.cons A.pv PVs.nil))) (pvs b)
  | .call f a => .cons (.tup _ (PVs.cons (.str _) PVs.nil)) ((pvs f).app (pvs a))
  | .both f a => .cons (.tup _ (PVs.cons (.str _) PVs.nil)) ((pvs f).app (pvs a))
  | .first a => .cons (.tup _ (PVs.cons (.str _) PVs.nil)) (pvs a)
  | .second a => .cons (.tup _ (PVs.cons (.str _) PVs.nil)) (pvs a)
  | .left A b => .cons (.tup _ (PVs.cons (.str _) (PVs.cons A.pv PVs.nil))) (pvs b)
  | .right A b => .cons (.tup _ (PVs.cons (.str _) (PVs.cons A.pv PVs.nil))) (pvs b)
  | .which s u v => .cons (.tup _ (PVs.cons (.str _) PVs.nil)) (((pvs s).app (pvs u)).app (pvs v))
  | .next a => .cons (.tup _ (PVs.cons (.str _) PVs.nil)) (pvs a)
  | .turns A s u v => .cons (.tup _ (PVs.cons (.str _) (PVs.cons A.pv PVs.nil))) (((pvs s).app (pvs u)).app (pvs v))
  | .let_ f a => .cons (.tup _ (PVs.cons (.str _) PVs.nil)) ((pvs f).app (pvs a))
end Tm
/-! ## the pot -/
structure Vd (a b : Int) : Prop where
  u : 0 ≤ a
  v : 0 ≤ b
  w : b < 4294967296
abbrev PT (a b : Int) (t : Obs) : Obs := .lst [.int a, .int b] :: t
/-- how many nodes a drawn term has at most -/
def M : Nat → Nat → Nat
  | 0, 0 => 2
  | 0, q + 1 => 1 + 2 * M 0 q
  | d + 1, q => 2 + M d 1 + 2 * M d q
theorem M_two : ∀ d q, 2 ≤ M d q
  | 0, 0 => by simp [M]
  | 0, q + 1 => by have := M_two 0 q; simp [M]; omega
  | d + 1, q => by have := M_two d q; simp [M]; omega
theorem M_succ : ∀ d q, M d q ≤ M d (q + 1)
  | 0, q => by simp only [M]; omega
  | d + 1, q => by have := M_succ d q; simp only [M]; omega
theorem M_mono (d : Nat) : ∀ {q r : Nat}, q ≤ r → M d q ≤ M d r := fun {q r} h => by
  induction h with
  | refl => exact Nat.le_refl _
  | step _ ih => exact Nat.le_trans ih (M_succ d _)
theorem M_str : ∀ d q, 1 + 2 * M (d - 1) q ≤ M d (q + 1)
  | 0, q => by simp [M]
  | d + 1, q => by have := M_succ d q; simp only [M, Nat.add_sub_cancel]; omega
end Mx

namespace K14
open PySem Ev
/-- is_integer -/
def b0 : Ss :=
 (.cons (.ret (.bop .And (.cons (.isi (.name "value" 0 ⟨3, 22, 3, 27⟩) .int ⟨3, 11, 3, 21⟩ ⟨3, 29, 3, 32⟩ ⟨3, 11, 3, 33⟩) (.cons (.notV (.isi (.name "value" 0 ⟨3, 54, 3, 59⟩) .bl ⟨3, 43, 3, 53⟩ ⟨3, 61, 3, 65⟩ ⟨3, 43, 3, 66⟩) ⟨3, 39, 3, 66⟩) .nil)) ⟨3, 11, 3, 67⟩) ⟨3, 4, 3, 67⟩)
 .nil)
/-- is_count -/
def b1 : Ss :=
 (.cons (.ret (.bop .And (.cons (.call 0 "is_integer" ⟨5, 11, 5, 21⟩ (.cons (.name "value" 0 ⟨5, 22, 5, 27⟩) .nil) ⟨5, 11, 5, 28⟩) (.cons (.cmp .ge (.name "value" 0 ⟨5, 33, 5, 38⟩) (.int 0 0 ⟨5, 42, 5, 43⟩) ⟨5, 33, 5, 43⟩) .nil)) ⟨5, 11, 5, 43⟩) ⟨5, 4, 5, 43⟩)
 .nil)
/-- is_list -/
def b2 : Ss :=
 (.cons (.ret (.isiT (.name "value" 0 ⟨7, 22, 7, 27⟩) .lst ⟨7, 30, 7, 34⟩ .tup ⟨7, 36, 7, 41⟩ 0 ⟨7, 11, 7, 21⟩ ⟨7, 29, 7, 42⟩ ⟨7, 11, 7, 43⟩) ⟨7, 4, 7, 43⟩)
 .nil)
/-- is_leaf -/
def b3 : Ss :=
 (.cons (.ite (.bop .Or (.cons (.not (.tr (.isi (.name "value" 0 ⟨18, 22, 18, 27⟩) .tup ⟨18, 11, 18, 21⟩ ⟨18, 29, 18, 34⟩ ⟨18, 11, 18, 35⟩)) ⟨18, 7, 18, 35⟩) (.cons (.cmp .eq (.blt .len ⟨18, 39, 18, 42⟩ (.cons (.name "value" 0 ⟨18, 43, 18, 48⟩) .nil) ⟨18, 39, 18, 49⟩) (.int 0 0 ⟨18, 53, 18, 54⟩) ⟨18, 39, 18, 54⟩) .nil)) ⟨18, 7, 18, 54⟩) (.cons (.ret (.bl false 0 ⟨19, 15, 19, 20⟩) ⟨19, 8, 19, 20⟩)
 .nil) .nil ⟨18, 4, 19, 20⟩)
 (.cons (.ite (.cmp .eq (.blt .len ⟨20, 7, 20, 10⟩ (.cons (.name "value" 0 ⟨20, 11, 20, 16⟩) .nil) ⟨20, 7, 20, 17⟩) (.int 1 0 ⟨20, 21, 20, 22⟩) ⟨20, 7, 20, 22⟩) (.cons (.ret (.bop .And (.cons (.isi (.sub (.name "value" 0 ⟨21, 26, 21, 31⟩) (.int 0 0 ⟨21, 32, 21, 33⟩) ⟨21, 26, 21, 34⟩) .str ⟨21, 15, 21, 25⟩ ⟨21, 36, 21, 39⟩ ⟨21, 15, 21, 40⟩) (.cons (.cmp .eq (.sub (.name "value" 0 ⟨21, 45, 21, 50⟩) (.int 0 0 ⟨21, 51, 21, 52⟩) ⟨21, 45, 21, 53⟩) (.cst "TELLING" ⟨21, 57, 21, 64⟩) ⟨21, 45, 21, 64⟩) .nil)) ⟨21, 15, 21, 64⟩) ⟨21, 8, 21, 64⟩)
 .nil) .nil ⟨20, 4, 21, 64⟩)
 (.cons (.ret (.bop .And (.cons (.cmp .eq (.blt .len ⟨22, 11, 22, 14⟩ (.cons (.name "value" 0 ⟨22, 15, 22, 20⟩) .nil) ⟨22, 11, 22, 21⟩) (.int 2 0 ⟨22, 25, 22, 26⟩) ⟨22, 11, 22, 26⟩) (.cons (.call 4 "is_letter_word" ⟨22, 31, 22, 45⟩ (.cons (.sub (.name "value" 0 ⟨22, 46, 22, 51⟩) (.int 0 0 ⟨22, 52, 22, 53⟩) ⟨22, 46, 22, 54⟩) .nil) ⟨22, 31, 22, 55⟩) (.cons (.call 5 "is_letter" ⟨22, 60, 22, 69⟩ (.cons (.sub (.name "value" 0 ⟨22, 70, 22, 75⟩) (.int 1 0 ⟨22, 76, 22, 77⟩) ⟨22, 70, 22, 78⟩) .nil) ⟨22, 60, 22, 79⟩) .nil))) ⟨22, 11, 22, 79⟩) ⟨22, 4, 22, 79⟩)
 .nil)))
/-- is_letter_word -/
def b4 : Ss :=
 (.cons (.ret (.bop .And (.cons (.isi (.name "value" 0 ⟨24, 22, 24, 27⟩) .str ⟨24, 11, 24, 21⟩ ⟨24, 29, 24, 32⟩ ⟨24, 11, 24, 33⟩) (.cons (.cmp .eq (.name "value" 0 ⟨24, 38, 24, 43⟩) (.cst "LETTER" ⟨24, 47, 24, 53⟩) ⟨24, 38, 24, 53⟩) .nil)) ⟨24, 11, 24, 53⟩) ⟨24, 4, 24, 53⟩)
 .nil)
/-- is_letter -/
def b5 : Ss :=
 (.cons (.ret (.bop .And (.cons (.call 1 "is_count" ⟨26, 11, 26, 19⟩ (.cons (.name "value" 0 ⟨26, 20, 26, 25⟩) .nil) ⟨26, 11, 26, 26⟩) (.cons (.cmp .le (.name "value" 0 ⟨26, 31, 26, 36⟩) (.cst "MOST_LETTER" ⟨26, 40, 26, 51⟩) ⟨26, 31, 26, 51⟩) .nil)) ⟨26, 11, 26, 51⟩) ⟨26, 4, 26, 51⟩)
 .nil)
/-- is_branch -/
def b6 : Ss :=
 (.cons (.ite (.bop .Or (.cons (.not (.tr (.isi (.name "value" 0 ⟨28, 22, 28, 27⟩) .tup ⟨28, 11, 28, 21⟩ ⟨28, 29, 28, 34⟩ ⟨28, 11, 28, 35⟩)) ⟨28, 7, 28, 35⟩) (.cons (.cmp .ne (.blt .len ⟨28, 39, 28, 42⟩ (.cons (.name "value" 0 ⟨28, 43, 28, 48⟩) .nil) ⟨28, 39, 28, 49⟩) (.int 3 0 ⟨28, 53, 28, 54⟩) ⟨28, 39, 28, 54⟩) .nil)) ⟨28, 7, 28, 54⟩) (.cons (.ret (.bl false 0 ⟨29, 15, 29, 20⟩) ⟨29, 8, 29, 20⟩)
 .nil) .nil ⟨28, 4, 29, 20⟩)
 (.cons (.ret (.bop .And (.cons (.isi (.sub (.name "value" 0 ⟨30, 22, 30, 27⟩) (.int 0 0 ⟨30, 28, 30, 29⟩) ⟨30, 22, 30, 30⟩) .str ⟨30, 11, 30, 21⟩ ⟨30, 32, 30, 35⟩ ⟨30, 11, 30, 36⟩) (.cons (.cmp .isin (.sub (.name "value" 0 ⟨30, 41, 30, 46⟩) (.int 0 0 ⟨30, 47, 30, 48⟩) ⟨30, 41, 30, 49⟩) (.tup (.cons (.cst "PAIR" ⟨30, 54, 30, 58⟩) (.cons (.cst "SUM" ⟨30, 60, 30, 63⟩) (.cons (.cst "FUN" ⟨30, 65, 30, 68⟩) .nil))) 0 ⟨30, 53, 30, 69⟩) ⟨30, 41, 30, 69⟩) .nil)) ⟨30, 11, 30, 69⟩) ⟨30, 4, 30, 69⟩)
 .nil))
/-- is_kind -/
def b7 : Ss :=
 (.cons (.par true false "left" 1 ⟨32, 4, 32, 8⟩ "signs" 2 ⟨32, 10, 32, 15⟩ 0 ⟨32, 4, 32, 15⟩ (.lst (.cons (.tup (.cons (.name "value" 0 ⟨32, 21, 32, 26⟩) (.cons (.int 1 0 ⟨32, 28, 32, 29⟩) .nil)) 0 ⟨32, 20, 32, 30⟩) .nil) ⟨32, 19, 32, 31⟩) (.int 0 0 ⟨32, 33, 32, 34⟩) 0 ⟨32, 18, 32, 35⟩ ⟨32, 4, 32, 35⟩)
 (.cons (.whl (.cmp .gt (.blt .len ⟨33, 10, 33, 13⟩ (.cons (.peek "left" 1 ⟨33, 14, 33, 18⟩) .nil) ⟨33, 10, 33, 19⟩) (.int 0 0 ⟨33, 22, 33, 23⟩) ⟨33, 10, 33, 23⟩) (.cons (.pop (.tup (.cons (.name "one" 3 ⟨34, 8, 34, 11⟩) (.cons (.name "deep" 4 ⟨34, 13, 34, 17⟩) .nil)) 0 ⟨34, 8, 34, 17⟩) "left" 1 ⟨34, 20, 34, 24⟩ ⟨34, 20, 34, 28⟩ ⟨34, 20, 34, 30⟩ ⟨34, 8, 34, 30⟩)
 (.cons (.asg "signs" 2 ⟨35, 8, 35, 13⟩ (.bin .add (.name "signs" 2 ⟨35, 16, 35, 21⟩) (.int 1 0 ⟨35, 24, 35, 25⟩) ⟨35, 16, 35, 25⟩) ⟨35, 8, 35, 25⟩)
 (.cons (.ite (.bop .Or (.cons (.cmp .gt (.name "signs" 2 ⟨36, 11, 36, 16⟩) (.cst "MOST_SIGNS" ⟨36, 19, 36, 29⟩) ⟨36, 11, 36, 29⟩) (.cons (.cmp .gt (.name "deep" 4 ⟨36, 33, 36, 37⟩) (.cst "MOST_DEEP" ⟨36, 40, 36, 49⟩) ⟨36, 33, 36, 49⟩) .nil)) ⟨36, 11, 36, 49⟩) (.cons (.ret (.bl false 0 ⟨37, 19, 37, 24⟩) ⟨37, 12, 37, 24⟩)
 .nil) .nil ⟨36, 8, 37, 24⟩)
 (.cons (.ite (.tr (.call 6 "is_branch" ⟨38, 11, 38, 20⟩ (.cons (.name "one" 3 ⟨38, 21, 38, 24⟩) .nil) ⟨38, 11, 38, 25⟩)) (.cons (.ext "left" 1 ⟨39, 12, 39, 16⟩ ⟨39, 12, 39, 23⟩ (.lst (.cons (.tup (.cons (.sub (.name "one" 3 ⟨39, 26, 39, 29⟩) (.int 1 0 ⟨39, 30, 39, 31⟩) ⟨39, 26, 39, 32⟩) (.cons (.bin .add (.name "deep" 4 ⟨39, 34, 39, 38⟩) (.int 1 0 ⟨39, 41, 39, 42⟩) ⟨39, 34, 39, 42⟩) .nil)) 0 ⟨39, 25, 39, 43⟩) (.cons (.tup (.cons (.sub (.name "one" 3 ⟨39, 46, 39, 49⟩) (.int 2 0 ⟨39, 50, 39, 51⟩) ⟨39, 46, 39, 52⟩) (.cons (.bin .add (.name "deep" 4 ⟨39, 54, 39, 58⟩) (.int 1 0 ⟨39, 61, 39, 62⟩) ⟨39, 54, 39, 62⟩) .nil)) 0 ⟨39, 45, 39, 63⟩) .nil)) ⟨39, 24, 39, 64⟩) ⟨39, 12, 39, 65⟩ ⟨39, 12, 39, 65⟩)
 .nil) (.cons (.ite (.not (.tr (.call 3 "is_leaf" ⟨40, 17, 40, 24⟩ (.cons (.name "one" 3 ⟨40, 25, 40, 28⟩) .nil) ⟨40, 17, 40, 29⟩)) ⟨40, 13, 40, 29⟩) (.cons (.ret (.bl false 0 ⟨41, 19, 41, 24⟩) ⟨41, 12, 41, 24⟩)
 .nil) .nil ⟨40, 8, 41, 24⟩)
 .nil) ⟨38, 8, 41, 24⟩)
 .nil)))) ⟨33, 4, 41, 24⟩)
 (.cons (.ret (.bl true 0 ⟨42, 11, 42, 15⟩) ⟨42, 4, 42, 15⟩)
 .nil)))
/-- is_node -/
def b8 : Ss :=
 (.cons (.ite (.bop .Or (.cons (.not (.tr (.isi (.name "value" 0 ⟨52, 22, 52, 27⟩) .tup ⟨52, 11, 52, 21⟩ ⟨52, 29, 52, 34⟩ ⟨52, 11, 52, 35⟩)) ⟨52, 7, 52, 35⟩) (.cons (.cmp .eq (.blt .len ⟨52, 39, 52, 42⟩ (.cons (.name "value" 0 ⟨52, 43, 52, 48⟩) .nil) ⟨52, 39, 52, 49⟩) (.int 0 0 ⟨52, 53, 52, 54⟩) ⟨52, 39, 52, 54⟩) (.cons (.not (.tr (.isi (.sub (.name "value" 0 ⟨52, 74, 52, 79⟩) (.int 0 0 ⟨52, 80, 52, 81⟩) ⟨52, 74, 52, 82⟩) .str ⟨52, 63, 52, 73⟩ ⟨52, 84, 52, 87⟩ ⟨52, 63, 52, 88⟩)) ⟨52, 59, 52, 88⟩) (.cons (.din true (.sub (.name "value" 0 ⟨52, 94, 52, 99⟩) (.int 0 0 ⟨52, 100, 52, 101⟩) ⟨52, 94, 52, 102⟩) "BINDS" ⟨52, 110, 52, 115⟩ ⟨52, 94, 52, 115⟩) .nil)))) ⟨52, 7, 52, 116⟩) (.cons (.ret (.bl false 0 ⟨53, 15, 53, 20⟩) ⟨53, 8, 53, 20⟩)
 .nil) .nil ⟨52, 4, 53, 20⟩)
 (.cons (.ite (.cmp .isin (.sub (.name "value" 0 ⟨54, 7, 54, 12⟩) (.int 0 0 ⟨54, 13, 54, 14⟩) ⟨54, 7, 54, 15⟩) (.cst "WITH_KIND" ⟨54, 19, 54, 28⟩) ⟨54, 7, 54, 28⟩) (.cons (.ret (.bop .And (.cons (.cmp .eq (.blt .len ⟨55, 15, 55, 18⟩ (.cons (.name "value" 0 ⟨55, 19, 55, 24⟩) .nil) ⟨55, 15, 55, 25⟩) (.int 2 0 ⟨55, 29, 55, 30⟩) ⟨55, 15, 55, 30⟩) (.cons (.call 7 "is_kind" ⟨55, 35, 55, 42⟩ (.cons (.sub (.name "value" 0 ⟨55, 43, 55, 48⟩) (.int 1 0 ⟨55, 49, 55, 50⟩) ⟨55, 43, 55, 51⟩) .nil) ⟨55, 35, 55, 52⟩) .nil)) ⟨55, 15, 55, 52⟩) ⟨55, 8, 55, 52⟩)
 .nil) .nil ⟨54, 4, 55, 52⟩)
 (.cons (.ite (.cmp .eq (.sub (.name "value" 0 ⟨56, 7, 56, 12⟩) (.int 0 0 ⟨56, 13, 56, 14⟩) ⟨56, 7, 56, 15⟩) (.cst "NAME" ⟨56, 19, 56, 23⟩) ⟨56, 7, 56, 23⟩) (.cons (.ret (.bop .And (.cons (.cmp .eq (.blt .len ⟨57, 15, 57, 18⟩ (.cons (.name "value" 0 ⟨57, 19, 57, 24⟩) .nil) ⟨57, 15, 57, 25⟩) (.int 2 0 ⟨57, 29, 57, 30⟩) ⟨57, 15, 57, 30⟩) (.cons (.call 1 "is_count" ⟨57, 35, 57, 43⟩ (.cons (.sub (.name "value" 0 ⟨57, 44, 57, 49⟩) (.int 1 0 ⟨57, 50, 57, 51⟩) ⟨57, 44, 57, 52⟩) .nil) ⟨57, 35, 57, 53⟩) (.cons (.cmp .le (.sub (.name "value" 0 ⟨57, 59, 57, 64⟩) (.int 1 0 ⟨57, 65, 57, 66⟩) ⟨57, 59, 57, 67⟩) (.cst "MOST_OUT" ⟨57, 71, 57, 79⟩) ⟨57, 59, 57, 79⟩) .nil))) ⟨57, 15, 57, 80⟩) ⟨57, 8, 57, 80⟩)
 .nil) .nil ⟨56, 4, 57, 80⟩)
 (.cons (.ite (.cmp .eq (.sub (.name "value" 0 ⟨58, 7, 58, 12⟩) (.int 0 0 ⟨58, 13, 58, 14⟩) ⟨58, 7, 58, 15⟩) (.cst "TOLD" ⟨58, 19, 58, 23⟩) ⟨58, 7, 58, 23⟩) (.cons (.ret (.bop .And (.cons (.cmp .eq (.blt .len ⟨59, 15, 59, 18⟩ (.cons (.name "value" 0 ⟨59, 19, 59, 24⟩) .nil) ⟨59, 15, 59, 25⟩) (.int 2 0 ⟨59, 29, 59, 30⟩) ⟨59, 15, 59, 30⟩) (.cons (.call 1 "is_count" ⟨59, 35, 59, 43⟩ (.cons (.sub (.name "value" 0 ⟨59, 44, 59, 49⟩) (.int 1 0 ⟨59, 50, 59, 51⟩) ⟨59, 44, 59, 52⟩) .nil) ⟨59, 35, 59, 53⟩) (.cons (.cmp .le (.sub (.name "value" 0 ⟨59, 59, 59, 64⟩) (.int 1 0 ⟨59, 65, 59, 66⟩) ⟨59, 59, 59, 67⟩) (.cst "MOST_TOLD" ⟨59, 71, 59, 80⟩) ⟨59, 59, 59, 80⟩) .nil))) ⟨59, 15, 59, 81⟩) ⟨59, 8, 59, 81⟩)
 .nil) .nil ⟨58, 4, 59, 81⟩)
 (.cons (.ret (.cmp .eq (.blt .len ⟨60, 11, 60, 14⟩ (.cons (.name "value" 0 ⟨60, 15, 60, 20⟩) .nil) ⟨60, 11, 60, 21⟩) (.int 1 0 ⟨60, 25, 60, 26⟩) ⟨60, 11, 60, 26⟩) ⟨60, 4, 60, 26⟩)
 .nil)))))
/-- are_tree -/
def b9 : Ss :=
 (.cons (.asg "wanted" 1 ⟨62, 4, 62, 10⟩ (.int 1 0 ⟨62, 13, 62, 14⟩) ⟨62, 4, 62, 14⟩)
 (.cons (.for (.name "node" 2 ⟨63, 8, 63, 12⟩) (.seq (.name "nodes" 0 ⟨63, 16, 63, 21⟩)) (.cons (.ite (.cmp .eq (.name "wanted" 1 ⟨64, 11, 64, 17⟩) (.int 0 0 ⟨64, 21, 64, 22⟩) ⟨64, 11, 64, 22⟩) (.cons (.ret (.bl false 0 ⟨65, 19, 65, 24⟩) ⟨65, 12, 65, 24⟩)
 .nil) .nil ⟨64, 8, 65, 24⟩)
 (.cons (.asg "wanted" 1 ⟨66, 8, 66, 14⟩ (.bin .add (.bin .sub (.name "wanted" 1 ⟨66, 17, 66, 23⟩) (.int 1 0 ⟨66, 26, 66, 27⟩) ⟨66, 17, 66, 27⟩) (.blt .len ⟨66, 30, 66, 33⟩ (.cons (.dget "BINDS" ⟨66, 34, 66, 39⟩ (.sub (.name "node" 2 ⟨66, 40, 66, 44⟩) (.int 0 0 ⟨66, 45, 66, 46⟩) ⟨66, 40, 66, 47⟩) ⟨66, 34, 66, 48⟩) .nil) ⟨66, 30, 66, 49⟩) ⟨66, 17, 66, 49⟩) ⟨66, 8, 66, 49⟩)
 .nil)) ⟨63, 4, 66, 49⟩)
 (.cons (.ret (.cmp .eq (.name "wanted" 1 ⟨67, 11, 67, 17⟩) (.int 0 0 ⟨67, 21, 67, 22⟩) ⟨67, 11, 67, 22⟩) ⟨67, 4, 67, 22⟩)
 .nil)))
/-- is_term -/
def b10 : Ss :=
 (.cons (.ite (.bop .Or (.cons (.not (.tr (.call 2 "is_list" ⟨69, 11, 69, 18⟩ (.cons (.name "value" 0 ⟨69, 19, 69, 24⟩) .nil) ⟨69, 11, 69, 25⟩)) ⟨69, 7, 69, 25⟩) (.cons (.not (.chain .le .le (.int 1 0 ⟨69, 33, 69, 34⟩) (.blt .len ⟨69, 38, 69, 41⟩ (.cons (.name "value" 0 ⟨69, 42, 69, 47⟩) .nil) ⟨69, 38, 69, 48⟩) (.cst "MOST_NODES" ⟨69, 52, 69, 62⟩) ⟨69, 33, 69, 62⟩) ⟨69, 29, 69, 62⟩) (.cons (.not (.tr (.blt .all ⟨69, 71, 69, 74⟩ (.cons (.lc (.call 8 "is_node" ⟨69, 76, 69, 83⟩ (.cons (.name "node" 1 ⟨69, 84, 69, 88⟩) .nil) ⟨69, 76, 69, 89⟩) (.name "node" 1 ⟨69, 94, 69, 98⟩) (.seq (.name "value" 0 ⟨69, 102, 69, 107⟩)) .non [("node", 1)] ⟨.function, [(".0", .local), ("node", .local), ("is_node", .globalImplicit)], false, false, []⟩ ⟨69, 75, 69, 108⟩) .nil) ⟨69, 71, 69, 109⟩)) ⟨69, 67, 69, 109⟩) .nil))) ⟨69, 7, 69, 110⟩) (.cons (.ret (.bl false 0 ⟨70, 15, 70, 20⟩) ⟨70, 8, 70, 20⟩)
 .nil) .nil ⟨69, 4, 70, 20⟩)
 (.cons (.ret (.call 9 "are_tree" ⟨71, 11, 71, 19⟩ (.cons (.name "value" 0 ⟨71, 20, 71, 25⟩) .nil) ⟨71, 11, 71, 26⟩) ⟨71, 4, 71, 26⟩)
 .nil))
/-- _law_pot -/
def b11 : Ss :=
 (.cons (.asg "_law_cell" 2 ⟨74, 4, 74, 13⟩ (.bin .add (.bin .mul (.int 499 0 ⟨74, 16, 74, 19⟩) (.name "_law_k" 1 ⟨74, 22, 74, 28⟩) ⟨74, 16, 74, 28⟩) (.int 337 0 ⟨74, 31, 74, 34⟩) ⟨74, 16, 74, 34⟩) ⟨74, 4, 74, 34⟩)
 (.cons (.ite (.cmp .lt (.name "_law_k" 1 ⟨75, 7, 75, 13⟩) (.blt .len ⟨75, 16, 75, 19⟩ (.cons (.name "_law_script" 0 ⟨75, 20, 75, 31⟩) .nil) ⟨75, 16, 75, 32⟩) ⟨75, 7, 75, 32⟩) (.cons (.asg "_law_cell" 2 ⟨76, 8, 76, 17⟩ (.blt .abs ⟨76, 20, 76, 23⟩ (.cons (.sub (.name "_law_script" 0 ⟨76, 24, 76, 35⟩) (.name "_law_k" 1 ⟨76, 36, 76, 42⟩) ⟨76, 24, 76, 43⟩) .nil) ⟨76, 20, 76, 44⟩) ⟨76, 8, 76, 44⟩)
 .nil) .nil ⟨75, 4, 76, 44⟩)
 (.cons (.ret (.lstH (.cons (.blt .max ⟨77, 12, 77, 15⟩ (.cons (.int 0 0 ⟨77, 16, 77, 17⟩) (.cons (.bin .sub (.name "_law_cell" 2 ⟨77, 19, 77, 28⟩) (.bin .pow (.int 10 0 ⟨77, 31, 77, 33⟩) (.int 18 0 ⟨77, 37, 77, 39⟩) ⟨77, 31, 77, 39⟩) ⟨77, 19, 77, 39⟩) .nil)) ⟨77, 12, 77, 40⟩) (.cons (.bin .add (.bin .mod (.blt .int ⟨77, 42, 77, 45⟩ (.cons (.bin .add (.bin .add (.bin .mul (.bin .mod (.blt .int ⟨77, 46, 77, 49⟩ (.cons (.name "_law_cell" 2 ⟨77, 50, 77, 59⟩) .nil) ⟨77, 46, 77, 60⟩) (.int 2147483549 0 ⟨77, 63, 77, 73⟩) ⟨77, 46, 77, 73⟩) (.int 48271 0 ⟨77, 76, 77, 81⟩) ⟨77, 46, 77, 81⟩) (.bin .mul (.int 3593 0 ⟨77, 84, 77, 88⟩) (.name "_law_k" 1 ⟨77, 91, 77, 97⟩) ⟨77, 84, 77, 97⟩) ⟨77, 46, 77, 97⟩) (.int 17 0 ⟨77, 100, 77, 102⟩) ⟨77, 46, 77, 102⟩) .nil) ⟨77, 42, 77, 103⟩) (.int 2147483563 0 ⟨77, 106, 77, 116⟩) ⟨77, 42, 77, 116⟩) (.int 1 0 ⟨77, 119, 77, 120⟩) ⟨77, 42, 77, 120⟩) .nil)) ⟨77, 11, 77, 121⟩) ⟨77, 4, 77, 121⟩)
 .nil)))
/-- _law_draw -/
def b12 : Ss :=
 (.cons (.ite (.cmp .gt (.sub (.name "_law_pot_here" 0 ⟨79, 7, 79, 20⟩) (.int 0 0 ⟨79, 21, 79, 22⟩) ⟨79, 7, 79, 23⟩) (.int 0 0 ⟨79, 26, 79, 27⟩) ⟨79, 7, 79, 27⟩) (.cons (.asgT (.tup (.cons (.sub (.name "_law_pot_here" 0 ⟨80, 8, 80, 21⟩) (.int 0 0 ⟨80, 22, 80, 23⟩) ⟨80, 8, 80, 24⟩) (.cons (.name "_law_digit" 2 ⟨80, 26, 80, 36⟩) .nil)) 0 ⟨80, 8, 80, 36⟩) (.blt .divmod ⟨80, 39, 80, 45⟩ (.cons (.sub (.name "_law_pot_here" 0 ⟨80, 46, 80, 59⟩) (.int 0 0 ⟨80, 60, 80, 61⟩) ⟨80, 46, 80, 62⟩) (.cons (.name "_law_size" 1 ⟨80, 64, 80, 73⟩) .nil)) ⟨80, 39, 80, 74⟩) ⟨80, 8, 80, 74⟩)
 (.cons (.ret (.name "_law_digit" 2 ⟨81, 15, 81, 25⟩) ⟨81, 8, 81, 25⟩)
 .nil)) .nil ⟨79, 4, 81, 25⟩)
 (.cons (.asgT (.sub (.name "_law_pot_here" 0 ⟨82, 4, 82, 17⟩) (.int 1 0 ⟨82, 18, 82, 19⟩) ⟨82, 4, 82, 20⟩) (.bin .mod (.blt .int ⟨82, 23, 82, 26⟩ (.cons (.bin .add (.bin .mul (.sub (.name "_law_pot_here" 0 ⟨82, 27, 82, 40⟩) (.int 1 0 ⟨82, 41, 82, 42⟩) ⟨82, 27, 82, 43⟩) (.int 39373 0 ⟨82, 46, 82, 51⟩) ⟨82, 27, 82, 51⟩) (.int 3593 0 ⟨82, 54, 82, 58⟩) ⟨82, 27, 82, 58⟩) .nil) ⟨82, 23, 82, 59⟩) (.int 2147483587 0 ⟨82, 62, 82, 72⟩) ⟨82, 23, 82, 72⟩) ⟨82, 4, 82, 72⟩)
 (.cons (.ret (.bin .mod (.blt .int ⟨83, 11, 83, 14⟩ (.cons (.bin .fdiv (.bin .mod (.blt .int ⟨83, 15, 83, 18⟩ (.cons (.bin .mul (.sub (.name "_law_pot_here" 0 ⟨83, 19, 83, 32⟩) (.int 1 0 ⟨83, 33, 83, 34⟩) ⟨83, 19, 83, 35⟩) (.sub (.name "_law_pot_here" 0 ⟨83, 38, 83, 51⟩) (.int 1 0 ⟨83, 52, 83, 53⟩) ⟨83, 38, 83, 54⟩) ⟨83, 19, 83, 54⟩) .nil) ⟨83, 15, 83, 55⟩) (.int 2147483563 0 ⟨83, 58, 83, 68⟩) ⟨83, 15, 83, 68⟩) (.int 17 0 ⟨83, 72, 83, 74⟩) ⟨83, 15, 83, 74⟩) .nil) ⟨83, 11, 83, 75⟩) (.name "_law_size" 1 ⟨83, 78, 83, 87⟩) ⟨83, 11, 83, 87⟩) ⟨83, 4, 83, 87⟩)
 .nil)))
/-- _law_pick -/
def b13 : Ss :=
 (.cons (.ret (.sub (.name "_law_some" 1 ⟨85, 11, 85, 20⟩) (.call 12 "_law_draw" ⟨85, 21, 85, 30⟩ (.cons (.name "_law_pot_here" 0 ⟨85, 31, 85, 44⟩) (.cons (.blt .len ⟨85, 46, 85, 49⟩ (.cons (.name "_law_some" 1 ⟨85, 50, 85, 59⟩) .nil) ⟨85, 46, 85, 60⟩) .nil)) ⟨85, 21, 85, 61⟩) ⟨85, 11, 85, 62⟩) ⟨85, 4, 85, 62⟩)
 .nil)
/-- _law_kind -/
def b14 : Ss :=
 (.cons (.asg "_law_way" 2 ⟨87, 4, 87, 12⟩ (.call 12 "_law_draw" ⟨87, 15, 87, 24⟩ (.cons (.name "_law_pot_here" 0 ⟨87, 25, 87, 38⟩) (.cons (.ife (.cmp .gt (.name "_law_deep" 1 ⟨87, 45, 87, 54⟩) (.int 0 0 ⟨87, 57, 87, 58⟩) ⟨87, 45, 87, 58⟩) (.int 6 0 ⟨87, 40, 87, 41⟩) (.int 3 0 ⟨87, 64, 87, 65⟩) ⟨87, 40, 87, 65⟩) .nil)) ⟨87, 15, 87, 66⟩) ⟨87, 4, 87, 66⟩)
 (.cons (.ite (.cmp .lt (.name "_law_way" 2 ⟨88, 7, 88, 15⟩) (.int 3 0 ⟨88, 18, 88, 19⟩) ⟨88, 7, 88, 19⟩) (.cons (.ret (.ife (.cmp .lt (.name "_law_way" 2 ⟨89, 39, 89, 47⟩) (.int 2 0 ⟨89, 50, 89, 51⟩) ⟨89, 39, 89, 51⟩) (.tup (.cons (.str "letter" 0 ⟨89, 16, 89, 24⟩) (.cons (.name "_law_way" 2 ⟨89, 26, 89, 34⟩) .nil)) 0 ⟨89, 15, 89, 35⟩) (.tup (.cons (.str "count" 0 ⟨89, 58, 89, 65⟩) .nil) 0 ⟨89, 57, 89, 67⟩) ⟨89, 15, 89, 67⟩) ⟨89, 8, 89, 67⟩)
 .nil) .nil ⟨88, 4, 89, 67⟩)
 (.cons (.asg "_law_near" 3 ⟨90, 4, 90, 13⟩ (.call 14 "_law_kind" ⟨90, 16, 90, 25⟩ (.cons (.name "_law_pot_here" 0 ⟨90, 26, 90, 39⟩) (.cons (.bin .sub (.name "_law_deep" 1 ⟨90, 41, 90, 50⟩) (.int 1 0 ⟨90, 53, 90, 54⟩) ⟨90, 41, 90, 54⟩) .nil)) ⟨90, 16, 90, 55⟩) ⟨90, 4, 90, 55⟩)
 (.cons (.ret (.tup (.cons (.sub (.lst (.cons (.str "pair" 0 ⟨91, 13, 91, 19⟩) (.cons (.str "sum" 0 ⟨91, 21, 91, 26⟩) (.cons (.str "fun" 0 ⟨91, 28, 91, 33⟩) .nil))) ⟨91, 12, 91, 34⟩) (.bin .sub (.name "_law_way" 2 ⟨91, 35, 91, 43⟩) (.int 3 0 ⟨91, 46, 91, 47⟩) ⟨91, 35, 91, 47⟩) ⟨91, 12, 91, 48⟩) (.cons (.name "_law_near" 3 ⟨91, 50, 91, 59⟩) (.cons (.call 14 "_law_kind" ⟨91, 61, 91, 70⟩ (.cons (.name "_law_pot_here" 0 ⟨91, 71, 91, 84⟩) (.cons (.bin .sub (.name "_law_deep" 1 ⟨91, 86, 91, 95⟩) (.int 1 0 ⟨91, 98, 91, 99⟩) ⟨91, 86, 91, 99⟩) .nil)) ⟨91, 61, 91, 100⟩) .nil))) 0 ⟨91, 11, 91, 101⟩) ⟨91, 4, 91, 101⟩)
 .nil))))
/-- _law_cut -/
def b15 : Ss :=
 (.cons (.par false false "_law_way" 4 ⟨93, 4, 93, 12⟩ "_law_other" 5 ⟨93, 14, 93, 24⟩ 0 ⟨93, 4, 93, 24⟩ (.call 12 "_law_draw" ⟨93, 28, 93, 37⟩ (.cons (.name "_law_pot_here" 0 ⟨93, 38, 93, 51⟩) (.cons (.int 5 0 ⟨93, 53, 93, 54⟩) .nil)) ⟨93, 28, 93, 55⟩) (.call 14 "_law_kind" ⟨93, 57, 93, 66⟩ (.cons (.name "_law_pot_here" 0 ⟨93, 67, 93, 80⟩) (.cons (.int 1 0 ⟨93, 82, 93, 83⟩) .nil)) ⟨93, 57, 93, 84⟩) 0 ⟨93, 27, 93, 85⟩ ⟨93, 4, 93, 85⟩)
 (.cons (.ite (.cmp .eq (.name "_law_way" 4 ⟨94, 7, 94, 15⟩) (.int 0 0 ⟨94, 19, 94, 20⟩) ⟨94, 7, 94, 20⟩) (.cons (.asg "_law_body" 6 ⟨95, 8, 95, 17⟩ (.call 16 "_law_made" ⟨95, 20, 95, 29⟩ (.cons (.name "_law_pot_here" 0 ⟨95, 30, 95, 43⟩) (.cons (.name "_law_kind_here" 1 ⟨95, 45, 95, 59⟩) (.cons (.bin .add (.lst (.cons (.name "_law_other" 5 ⟨95, 62, 95, 72⟩) .nil) ⟨95, 61, 95, 73⟩) (.name "_law_names" 2 ⟨95, 76, 95, 86⟩) ⟨95, 61, 95, 86⟩) (.cons (.bin .sub (.name "_law_deep" 3 ⟨95, 88, 95, 97⟩) (.int 1 0 ⟨95, 100, 95, 101⟩) ⟨95, 88, 95, 101⟩) .nil)))) ⟨95, 20, 95, 102⟩) ⟨95, 8, 95, 102⟩)
 (.cons (.ret (.bin .add (.bin .add (.lst (.cons (.tup (.cons (.str "call" 0 ⟨96, 17, 96, 23⟩) .nil) 0 ⟨96, 16, 96, 25⟩) (.cons (.tup (.cons (.str "fun" 0 ⟨96, 28, 96, 33⟩) (.cons (.name "_law_other" 5 ⟨96, 35, 96, 45⟩) .nil)) 0 ⟨96, 27, 96, 46⟩) .nil)) ⟨96, 15, 96, 47⟩) (.name "_law_body" 6 ⟨96, 50, 96, 59⟩) ⟨96, 15, 96, 59⟩) (.call 16 "_law_made" ⟨96, 62, 96, 71⟩ (.cons (.name "_law_pot_here" 0 ⟨96, 72, 96, 85⟩) (.cons (.name "_law_other" 5 ⟨96, 87, 96, 97⟩) (.cons (.name "_law_names" 2 ⟨96, 99, 96, 109⟩) (.cons (.bin .sub (.name "_law_deep" 3 ⟨96, 111, 96, 120⟩) (.int 1 0 ⟨96, 123, 96, 124⟩) ⟨96, 111, 96, 124⟩) .nil)))) ⟨96, 62, 96, 125⟩) ⟨96, 15, 96, 125⟩) ⟨96, 8, 96, 125⟩)
 .nil)) .nil ⟨94, 4, 96, 125⟩)
 (.cons (.ite (.cmp .eq (.name "_law_way" 4 ⟨97, 7, 97, 15⟩) (.int 1 0 ⟨97, 19, 97, 20⟩) ⟨97, 7, 97, 20⟩) (.cons (.asg "_law_what" 7 ⟨98, 8, 98, 17⟩ (.call 16 "_law_made" ⟨98, 20, 98, 29⟩ (.cons (.name "_law_pot_here" 0 ⟨98, 30, 98, 43⟩) (.cons (.name "_law_other" 5 ⟨98, 45, 98, 55⟩) (.cons (.name "_law_names" 2 ⟨98, 57, 98, 67⟩) (.cons (.bin .sub (.name "_law_deep" 3 ⟨98, 69, 98, 78⟩) (.int 1 0 ⟨98, 81, 98, 82⟩) ⟨98, 69, 98, 82⟩) .nil)))) ⟨98, 20, 98, 83⟩) ⟨98, 8, 98, 83⟩)
 (.cons (.ret (.bin .add (.bin .add (.lst (.cons (.tup (.cons (.str "let" 0 ⟨99, 17, 99, 22⟩) .nil) 0 ⟨99, 16, 99, 24⟩) .nil) ⟨99, 15, 99, 25⟩) (.name "_law_what" 7 ⟨99, 28, 99, 37⟩) ⟨99, 15, 99, 37⟩) (.call 16 "_law_made" ⟨99, 40, 99, 49⟩ (.cons (.name "_law_pot_here" 0 ⟨99, 50, 99, 63⟩) (.cons (.name "_law_kind_here" 1 ⟨99, 65, 99, 79⟩) (.cons (.bin .add (.lst (.cons (.name "_law_other" 5 ⟨99, 82, 99, 92⟩) .nil) ⟨99, 81, 99, 93⟩) (.name "_law_names" 2 ⟨99, 96, 99, 106⟩) ⟨99, 81, 99, 106⟩) (.cons (.bin .sub (.name "_law_deep" 3 ⟨99, 108, 99, 117⟩) (.int 1 0 ⟨99, 120, 99, 121⟩) ⟨99, 108, 99, 121⟩) .nil)))) ⟨99, 40, 99, 122⟩) ⟨99, 15, 99, 122⟩) ⟨99, 8, 99, 122⟩)
 .nil)) .nil ⟨97, 4, 99, 122⟩)
 (.cons (.ite (.cmp .eq (.name "_law_way" 4 ⟨100, 7, 100, 15⟩) (.int 2 0 ⟨100, 19, 100, 20⟩) ⟨100, 7, 100, 20⟩) (.cons (.asg "_law_near" 8 ⟨101, 8, 101, 17⟩ (.call 16 "_law_made" ⟨101, 20, 101, 29⟩ (.cons (.name "_law_pot_here" 0 ⟨101, 30, 101, 43⟩) (.cons (.name "_law_kind_here" 1 ⟨101, 45, 101, 59⟩) (.cons (.name "_law_names" 2 ⟨101, 61, 101, 71⟩) (.cons (.bin .sub (.name "_law_deep" 3 ⟨101, 73, 101, 82⟩) (.int 1 0 ⟨101, 85, 101, 86⟩) ⟨101, 73, 101, 86⟩) .nil)))) ⟨101, 20, 101, 87⟩) ⟨101, 8, 101, 87⟩)
 (.cons (.asg "_law_far" 9 ⟨102, 8, 102, 16⟩ (.call 16 "_law_made" ⟨102, 19, 102, 28⟩ (.cons (.name "_law_pot_here" 0 ⟨102, 29, 102, 42⟩) (.cons (.name "_law_other" 5 ⟨102, 44, 102, 54⟩) (.cons (.name "_law_names" 2 ⟨102, 56, 102, 66⟩) (.cons (.bin .sub (.name "_law_deep" 3 ⟨102, 68, 102, 77⟩) (.int 1 0 ⟨102, 80, 102, 81⟩) ⟨102, 68, 102, 81⟩) .nil)))) ⟨102, 19, 102, 82⟩) ⟨102, 8, 102, 82⟩)
 (.cons (.ret (.ife (.cmp .eq (.call 12 "_law_draw" ⟨103, 65, 103, 74⟩ (.cons (.name "_law_pot_here" 0 ⟨103, 75, 103, 88⟩) (.cons (.int 2 0 ⟨103, 90, 103, 91⟩) .nil)) ⟨103, 65, 103, 92⟩) (.int 0 0 ⟨103, 96, 103, 97⟩) ⟨103, 65, 103, 97⟩) (.bin .add (.bin .add (.lst (.cons (.tup (.cons (.str "first" 0 ⟨103, 17, 103, 24⟩) .nil) 0 ⟨103, 16, 103, 26⟩) (.cons (.tup (.cons (.str "both" 0 ⟨103, 29, 103, 35⟩) .nil) 0 ⟨103, 28, 103, 37⟩) .nil)) ⟨103, 15, 103, 38⟩) (.name "_law_near" 8 ⟨103, 41, 103, 50⟩) ⟨103, 15, 103, 50⟩) (.name "_law_far" 9 ⟨103, 53, 103, 61⟩) ⟨103, 15, 103, 61⟩) (.bin .add (.bin .add (.lst (.cons (.tup (.cons (.str "second" 0 ⟨103, 105, 103, 113⟩) .nil) 0 ⟨103, 104, 103, 115⟩) (.cons (.tup (.cons (.str "both" 0 ⟨103, 118, 103, 124⟩) .nil) 0 ⟨103, 117, 103, 126⟩) .nil)) ⟨103, 103, 103, 127⟩) (.name "_law_far" 9 ⟨103, 130, 103, 138⟩) ⟨103, 103, 103, 138⟩) (.name "_law_near" 8 ⟨103, 141, 103, 150⟩) ⟨103, 103, 103, 150⟩) ⟨103, 15, 103, 150⟩) ⟨103, 8, 103, 150⟩)
 .nil))) .nil ⟨100, 4, 103, 150⟩)
 (.cons (.ite (.cmp .eq (.name "_law_way" 4 ⟨104, 7, 104, 15⟩) (.int 3 0 ⟨104, 19, 104, 20⟩) ⟨104, 7, 104, 20⟩) (.cons (.asg "_law_more" 10 ⟨105, 8, 105, 17⟩ (.call 14 "_law_kind" ⟨105, 20, 105, 29⟩ (.cons (.name "_law_pot_here" 0 ⟨105, 30, 105, 43⟩) (.cons (.int 0 0 ⟨105, 45, 105, 46⟩) .nil)) ⟨105, 20, 105, 47⟩) ⟨105, 8, 105, 47⟩)
 (.cons (.asg "_law_what" 7 ⟨106, 8, 106, 17⟩ (.bin .add (.lst (.cons (.tup (.cons (.str "left" 0 ⟨106, 22, 106, 28⟩) (.cons (.name "_law_more" 10 ⟨106, 30, 106, 39⟩) .nil)) 0 ⟨106, 21, 106, 40⟩) .nil) ⟨106, 20, 106, 41⟩) (.call 16 "_law_made" ⟨106, 44, 106, 53⟩ (.cons (.name "_law_pot_here" 0 ⟨106, 54, 106, 67⟩) (.cons (.name "_law_other" 5 ⟨106, 69, 106, 79⟩) (.cons (.name "_law_names" 2 ⟨106, 81, 106, 91⟩) (.cons (.bin .sub (.name "_law_deep" 3 ⟨106, 93, 106, 102⟩) (.int 1 0 ⟨106, 105, 106, 106⟩) ⟨106, 93, 106, 106⟩) .nil)))) ⟨106, 44, 106, 107⟩) ⟨106, 20, 106, 107⟩) ⟨106, 8, 106, 107⟩)
 (.cons (.ite (.cmp .eq (.call 12 "_law_draw" ⟨107, 11, 107, 20⟩ (.cons (.name "_law_pot_here" 0 ⟨107, 21, 107, 34⟩) (.cons (.int 2 0 ⟨107, 36, 107, 37⟩) .nil)) ⟨107, 11, 107, 38⟩) (.int 0 0 ⟨107, 42, 107, 43⟩) ⟨107, 11, 107, 43⟩) (.cons (.asg "_law_what" 7 ⟨108, 12, 108, 21⟩ (.bin .add (.lst (.cons (.tup (.cons (.str "right" 0 ⟨108, 26, 108, 33⟩) (.cons (.name "_law_other" 5 ⟨108, 35, 108, 45⟩) .nil)) 0 ⟨108, 25, 108, 46⟩) .nil) ⟨108, 24, 108, 47⟩) (.call 16 "_law_made" ⟨108, 50, 108, 59⟩ (.cons (.name "_law_pot_here" 0 ⟨108, 60, 108, 73⟩) (.cons (.name "_law_more" 10 ⟨108, 75, 108, 84⟩) (.cons (.name "_law_names" 2 ⟨108, 86, 108, 96⟩) (.cons (.bin .sub (.name "_law_deep" 3 ⟨108, 98, 108, 107⟩) (.int 1 0 ⟨108, 110, 108, 111⟩) ⟨108, 98, 108, 111⟩) .nil)))) ⟨108, 50, 108, 112⟩) ⟨108, 24, 108, 112⟩) ⟨108, 12, 108, 112⟩)
 .nil) .nil ⟨107, 8, 108, 112⟩)
 (.cons (.asg "_law_arm" 11 ⟨109, 8, 109, 16⟩ (.call 16 "_law_made" ⟨109, 19, 109, 28⟩ (.cons (.name "_law_pot_here" 0 ⟨109, 29, 109, 42⟩) (.cons (.name "_law_kind_here" 1 ⟨109, 44, 109, 58⟩) (.cons (.bin .add (.lst (.cons (.name "_law_other" 5 ⟨109, 61, 109, 71⟩) .nil) ⟨109, 60, 109, 72⟩) (.name "_law_names" 2 ⟨109, 75, 109, 85⟩) ⟨109, 60, 109, 85⟩) (.cons (.bin .sub (.name "_law_deep" 3 ⟨109, 87, 109, 96⟩) (.int 1 0 ⟨109, 99, 109, 100⟩) ⟨109, 87, 109, 100⟩) .nil)))) ⟨109, 19, 109, 101⟩) ⟨109, 8, 109, 101⟩)
 (.cons (.ret (.bin .add (.bin .add (.bin .add (.lst (.cons (.tup (.cons (.str "which" 0 ⟨110, 17, 110, 24⟩) .nil) 0 ⟨110, 16, 110, 26⟩) .nil) ⟨110, 15, 110, 27⟩) (.name "_law_what" 7 ⟨110, 30, 110, 39⟩) ⟨110, 15, 110, 39⟩) (.name "_law_arm" 11 ⟨110, 42, 110, 50⟩) ⟨110, 15, 110, 50⟩) (.call 16 "_law_made" ⟨110, 53, 110, 62⟩ (.cons (.name "_law_pot_here" 0 ⟨110, 63, 110, 76⟩) (.cons (.name "_law_kind_here" 1 ⟨110, 78, 110, 92⟩) (.cons (.bin .add (.lst (.cons (.name "_law_more" 10 ⟨110, 95, 110, 104⟩) .nil) ⟨110, 94, 110, 105⟩) (.name "_law_names" 2 ⟨110, 108, 110, 118⟩) ⟨110, 94, 110, 118⟩) (.cons (.bin .sub (.name "_law_deep" 3 ⟨110, 120, 110, 129⟩) (.int 1 0 ⟨110, 132, 110, 133⟩) ⟨110, 120, 110, 133⟩) .nil)))) ⟨110, 53, 110, 134⟩) ⟨110, 15, 110, 134⟩) ⟨110, 8, 110, 134⟩)
 .nil))))) .nil ⟨104, 4, 110, 134⟩)
 (.cons (.asg "_law_step" 12 ⟨111, 4, 111, 13⟩ (.call 16 "_law_made" ⟨111, 16, 111, 25⟩ (.cons (.name "_law_pot_here" 0 ⟨111, 26, 111, 39⟩) (.cons (.name "_law_kind_here" 1 ⟨111, 41, 111, 55⟩) (.cons (.bin .add (.lst (.cons (.name "_law_kind_here" 1 ⟨111, 58, 111, 72⟩) .nil) ⟨111, 57, 111, 73⟩) (.name "_law_names" 2 ⟨111, 76, 111, 86⟩) ⟨111, 57, 111, 86⟩) (.cons (.bin .sub (.name "_law_deep" 3 ⟨111, 88, 111, 97⟩) (.int 1 0 ⟨111, 100, 111, 101⟩) ⟨111, 88, 111, 101⟩) .nil)))) ⟨111, 16, 111, 102⟩) ⟨111, 4, 111, 102⟩)
 (.cons (.ret (.bin .add (.bin .add (.lst (.cons (.tup (.cons (.str "turns" 0 ⟨112, 13, 112, 20⟩) (.cons (.name "_law_kind_here" 1 ⟨112, 22, 112, 36⟩) .nil)) 0 ⟨112, 12, 112, 37⟩) (.cons (.tup (.cons (.str "told" 0 ⟨112, 40, 112, 46⟩) (.cons (.call 12 "_law_draw" ⟨112, 48, 112, 57⟩ (.cons (.name "_law_pot_here" 0 ⟨112, 58, 112, 71⟩) (.cons (.int 3 0 ⟨112, 73, 112, 74⟩) .nil)) ⟨112, 48, 112, 75⟩) .nil)) 0 ⟨112, 39, 112, 76⟩) .nil)) ⟨112, 11, 112, 77⟩) (.name "_law_step" 12 ⟨112, 80, 112, 89⟩) ⟨112, 11, 112, 89⟩) (.call 16 "_law_made" ⟨112, 92, 112, 101⟩ (.cons (.name "_law_pot_here" 0 ⟨112, 102, 112, 115⟩) (.cons (.name "_law_kind_here" 1 ⟨112, 117, 112, 131⟩) (.cons (.name "_law_names" 2 ⟨112, 133, 112, 143⟩) (.cons (.bin .sub (.name "_law_deep" 3 ⟨112, 145, 112, 154⟩) (.int 1 0 ⟨112, 157, 112, 158⟩) ⟨112, 145, 112, 158⟩) .nil)))) ⟨112, 92, 112, 159⟩) ⟨112, 11, 112, 159⟩) ⟨112, 4, 112, 159⟩)
 .nil)))))))
/-- _law_made -/
def b16 : Ss :=
 (.cons (.asg "_law_here" 4 ⟨114, 4, 114, 13⟩ (.lc (.name "_law_at" 6 ⟨114, 17, 114, 24⟩) (.tup (.cons (.name "_law_at" 6 ⟨114, 29, 114, 36⟩) (.cons (.name "_law_one" 7 ⟨114, 38, 114, 46⟩) .nil)) 0 ⟨114, 29, 114, 46⟩) (.enum ⟨114, 50, 114, 59⟩ (.name "_law_names" 2 ⟨114, 60, 114, 70⟩) ⟨114, 50, 114, 71⟩) (.some (.cmp .eq (.name "_law_one" 7 ⟨114, 75, 114, 83⟩) (.name "_law_kind_here" 1 ⟨114, 87, 114, 101⟩) ⟨114, 75, 114, 101⟩)) [("_law_at", 6), ("_law_one", 7)] ⟨.function, [(".0", .local), ("_law_at", .local), ("_law_one", .local), ("_law_kind_here", .free)], false, false, []⟩ ⟨114, 16, 114, 102⟩) ⟨114, 4, 114, 102⟩)
 (.cons (.ite (.bop .And (.cons (.cmp .ne (.name "_law_here" 4 ⟨115, 7, 115, 16⟩) (.lst .nil ⟨115, 20, 115, 22⟩) ⟨115, 7, 115, 22⟩) (.cons (.bop .Or (.cons (.bop .And (.cons (.cmp .eq (.sub (.name "_law_kind_here" 1 ⟨115, 28, 115, 42⟩) (.int 0 0 ⟨115, 43, 115, 44⟩) ⟨115, 28, 115, 45⟩) (.str "letter" 0 ⟨115, 49, 115, 57⟩) ⟨115, 28, 115, 57⟩) (.cons (.cmp .lt (.name "_law_deep" 3 ⟨115, 62, 115, 71⟩) (.int 1 0 ⟨115, 74, 115, 75⟩) ⟨115, 62, 115, 75⟩) .nil)) ⟨115, 28, 115, 75⟩) (.cons (.cmp .eq (.call 12 "_law_draw" ⟨115, 79, 115, 88⟩ (.cons (.name "_law_pot_here" 0 ⟨115, 89, 115, 102⟩) (.cons (.int 4 0 ⟨115, 104, 115, 105⟩) .nil)) ⟨115, 79, 115, 106⟩) (.int 0 0 ⟨115, 110, 115, 111⟩) ⟨115, 79, 115, 111⟩) .nil)) ⟨115, 28, 115, 111⟩) .nil)) ⟨115, 7, 115, 112⟩) (.cons (.ret (.lst (.cons (.tup (.cons (.str "name" 0 ⟨116, 17, 116, 23⟩) (.cons (.call 13 "_law_pick" ⟨116, 25, 116, 34⟩ (.cons (.name "_law_pot_here" 0 ⟨116, 35, 116, 48⟩) (.cons (.name "_law_here" 4 ⟨116, 50, 116, 59⟩) .nil)) ⟨116, 25, 116, 60⟩) .nil)) 0 ⟨116, 16, 116, 61⟩) .nil) ⟨116, 15, 116, 62⟩) ⟨116, 8, 116, 62⟩)
 .nil) .nil ⟨115, 4, 116, 62⟩)
 (.cons (.ite (.bop .And (.cons (.cmp .gt (.name "_law_deep" 3 ⟨117, 7, 117, 16⟩) (.int 0 0 ⟨117, 19, 117, 20⟩) ⟨117, 7, 117, 20⟩) (.cons (.cmp .eq (.call 12 "_law_draw" ⟨117, 25, 117, 34⟩ (.cons (.name "_law_pot_here" 0 ⟨117, 35, 117, 48⟩) (.cons (.int 2 0 ⟨117, 50, 117, 51⟩) .nil)) ⟨117, 25, 117, 52⟩) (.int 0 0 ⟨117, 56, 117, 57⟩) ⟨117, 25, 117, 57⟩) .nil)) ⟨117, 7, 117, 57⟩) (.cons (.ret (.call 15 "_law_cut" ⟨118, 15, 118, 23⟩ (.cons (.name "_law_pot_here" 0 ⟨118, 24, 118, 37⟩) (.cons (.name "_law_kind_here" 1 ⟨118, 39, 118, 53⟩) (.cons (.name "_law_names" 2 ⟨118, 55, 118, 65⟩) (.cons (.name "_law_deep" 3 ⟨118, 67, 118, 76⟩) .nil)))) ⟨118, 15, 118, 77⟩) ⟨118, 8, 118, 77⟩)
 .nil) .nil ⟨117, 4, 118, 77⟩)
 (.cons (.ite (.cmp .eq (.sub (.name "_law_kind_here" 1 ⟨119, 7, 119, 21⟩) (.int 0 0 ⟨119, 22, 119, 23⟩) ⟨119, 7, 119, 24⟩) (.str "letter" 0 ⟨119, 28, 119, 36⟩) ⟨119, 7, 119, 36⟩) (.cons (.ret (.lst (.cons (.tup (.cons (.str "name" 0 ⟨120, 17, 120, 23⟩) (.cons (.call 13 "_law_pick" ⟨120, 25, 120, 34⟩ (.cons (.name "_law_pot_here" 0 ⟨120, 35, 120, 48⟩) (.cons (.name "_law_here" 4 ⟨120, 50, 120, 59⟩) .nil)) ⟨120, 25, 120, 60⟩) .nil)) 0 ⟨120, 16, 120, 61⟩) .nil) ⟨120, 15, 120, 62⟩) ⟨120, 8, 120, 62⟩)
 .nil) .nil ⟨119, 4, 120, 62⟩)
 (.cons (.ite (.cmp .eq (.sub (.name "_law_kind_here" 1 ⟨121, 7, 121, 21⟩) (.int 0 0 ⟨121, 22, 121, 23⟩) ⟨121, 7, 121, 24⟩) (.str "count" 0 ⟨121, 28, 121, 35⟩) ⟨121, 7, 121, 35⟩) (.cons (.ret (.ife (.cmp .gt (.call 12 "_law_draw" ⟨122, 58, 122, 67⟩ (.cons (.name "_law_pot_here" 0 ⟨122, 68, 122, 81⟩) (.cons (.int 3 0 ⟨122, 83, 122, 84⟩) .nil)) ⟨122, 58, 122, 85⟩) (.int 0 0 ⟨122, 88, 122, 89⟩) ⟨122, 58, 122, 89⟩) (.lst (.cons (.tup (.cons (.str "told" 0 ⟨122, 17, 122, 23⟩) (.cons (.call 12 "_law_draw" ⟨122, 25, 122, 34⟩ (.cons (.name "_law_pot_here" 0 ⟨122, 35, 122, 48⟩) (.cons (.int 9 0 ⟨122, 50, 122, 51⟩) .nil)) ⟨122, 25, 122, 52⟩) .nil)) 0 ⟨122, 16, 122, 53⟩) .nil) ⟨122, 15, 122, 54⟩) (.lst (.cons (.tup (.cons (.str "next" 0 ⟨122, 97, 122, 103⟩) .nil) 0 ⟨122, 96, 122, 105⟩) (.cons (.tup (.cons (.str "told" 0 ⟨122, 108, 122, 114⟩) (.cons (.call 12 "_law_draw" ⟨122, 116, 122, 125⟩ (.cons (.name "_law_pot_here" 0 ⟨122, 126, 122, 139⟩) (.cons (.int 9 0 ⟨122, 141, 122, 142⟩) .nil)) ⟨122, 116, 122, 143⟩) .nil)) 0 ⟨122, 107, 122, 144⟩) .nil)) ⟨122, 95, 122, 145⟩) ⟨122, 15, 122, 145⟩) ⟨122, 8, 122, 145⟩)
 .nil) .nil ⟨121, 4, 122, 145⟩)
 (.cons (.ite (.cmp .eq (.sub (.name "_law_kind_here" 1 ⟨123, 7, 123, 21⟩) (.int 0 0 ⟨123, 22, 123, 23⟩) ⟨123, 7, 123, 24⟩) (.str "pair" 0 ⟨123, 28, 123, 34⟩) ⟨123, 7, 123, 34⟩) (.cons (.asg "_law_near" 5 ⟨124, 8, 124, 17⟩ (.call 16 "_law_made" ⟨124, 20, 124, 29⟩ (.cons (.name "_law_pot_here" 0 ⟨124, 30, 124, 43⟩) (.cons (.sub (.name "_law_kind_here" 1 ⟨124, 45, 124, 59⟩) (.int 1 0 ⟨124, 60, 124, 61⟩) ⟨124, 45, 124, 62⟩) (.cons (.name "_law_names" 2 ⟨124, 64, 124, 74⟩) (.cons (.bin .sub (.name "_law_deep" 3 ⟨124, 76, 124, 85⟩) (.int 1 0 ⟨124, 88, 124, 89⟩) ⟨124, 76, 124, 89⟩) .nil)))) ⟨124, 20, 124, 90⟩) ⟨124, 8, 124, 90⟩)
 (.cons (.ret (.bin .add (.bin .add (.lst (.cons (.tup (.cons (.str "both" 0 ⟨125, 17, 125, 23⟩) .nil) 0 ⟨125, 16, 125, 25⟩) .nil) ⟨125, 15, 125, 26⟩) (.name "_law_near" 5 ⟨125, 29, 125, 38⟩) ⟨125, 15, 125, 38⟩) (.call 16 "_law_made" ⟨125, 41, 125, 50⟩ (.cons (.name "_law_pot_here" 0 ⟨125, 51, 125, 64⟩) (.cons (.sub (.name "_law_kind_here" 1 ⟨125, 66, 125, 80⟩) (.int 2 0 ⟨125, 81, 125, 82⟩) ⟨125, 66, 125, 83⟩) (.cons (.name "_law_names" 2 ⟨125, 85, 125, 95⟩) (.cons (.bin .sub (.name "_law_deep" 3 ⟨125, 97, 125, 106⟩) (.int 1 0 ⟨125, 109, 125, 110⟩) ⟨125, 97, 125, 110⟩) .nil)))) ⟨125, 41, 125, 111⟩) ⟨125, 15, 125, 111⟩) ⟨125, 8, 125, 111⟩)
 .nil)) .nil ⟨123, 4, 125, 111⟩)
 (.cons (.ite (.cmp .eq (.sub (.name "_law_kind_here" 1 ⟨126, 7, 126, 21⟩) (.int 0 0 ⟨126, 22, 126, 23⟩) ⟨126, 7, 126, 24⟩) (.str "sum" 0 ⟨126, 28, 126, 33⟩) ⟨126, 7, 126, 33⟩) (.cons (.ite (.cmp .eq (.call 12 "_law_draw" ⟨127, 11, 127, 20⟩ (.cons (.name "_law_pot_here" 0 ⟨127, 21, 127, 34⟩) (.cons (.int 2 0 ⟨127, 36, 127, 37⟩) .nil)) ⟨127, 11, 127, 38⟩) (.int 0 0 ⟨127, 42, 127, 43⟩) ⟨127, 11, 127, 43⟩) (.cons (.ret (.bin .add (.lst (.cons (.tup (.cons (.str "left" 0 ⟨128, 21, 128, 27⟩) (.cons (.sub (.name "_law_kind_here" 1 ⟨128, 29, 128, 43⟩) (.int 2 0 ⟨128, 44, 128, 45⟩) ⟨128, 29, 128, 46⟩) .nil)) 0 ⟨128, 20, 128, 47⟩) .nil) ⟨128, 19, 128, 48⟩) (.call 16 "_law_made" ⟨128, 51, 128, 60⟩ (.cons (.name "_law_pot_here" 0 ⟨128, 61, 128, 74⟩) (.cons (.sub (.name "_law_kind_here" 1 ⟨128, 76, 128, 90⟩) (.int 1 0 ⟨128, 91, 128, 92⟩) ⟨128, 76, 128, 93⟩) (.cons (.name "_law_names" 2 ⟨128, 95, 128, 105⟩) (.cons (.bin .sub (.name "_law_deep" 3 ⟨128, 107, 128, 116⟩) (.int 1 0 ⟨128, 119, 128, 120⟩) ⟨128, 107, 128, 120⟩) .nil)))) ⟨128, 51, 128, 121⟩) ⟨128, 19, 128, 121⟩) ⟨128, 12, 128, 121⟩)
 .nil) .nil ⟨127, 8, 128, 121⟩)
 (.cons (.ret (.bin .add (.lst (.cons (.tup (.cons (.str "right" 0 ⟨129, 17, 129, 24⟩) (.cons (.sub (.name "_law_kind_here" 1 ⟨129, 26, 129, 40⟩) (.int 1 0 ⟨129, 41, 129, 42⟩) ⟨129, 26, 129, 43⟩) .nil)) 0 ⟨129, 16, 129, 44⟩) .nil) ⟨129, 15, 129, 45⟩) (.call 16 "_law_made" ⟨129, 48, 129, 57⟩ (.cons (.name "_law_pot_here" 0 ⟨129, 58, 129, 71⟩) (.cons (.sub (.name "_law_kind_here" 1 ⟨129, 73, 129, 87⟩) (.int 2 0 ⟨129, 88, 129, 89⟩) ⟨129, 73, 129, 90⟩) (.cons (.name "_law_names" 2 ⟨129, 92, 129, 102⟩) (.cons (.bin .sub (.name "_law_deep" 3 ⟨129, 104, 129, 113⟩) (.int 1 0 ⟨129, 116, 129, 117⟩) ⟨129, 104, 129, 117⟩) .nil)))) ⟨129, 48, 129, 118⟩) ⟨129, 15, 129, 118⟩) ⟨129, 8, 129, 118⟩)
 .nil)) .nil ⟨126, 4, 129, 118⟩)
 (.cons (.ret (.bin .add (.lst (.cons (.tup (.cons (.str "fun" 0 ⟨130, 13, 130, 18⟩) (.cons (.sub (.name "_law_kind_here" 1 ⟨130, 20, 130, 34⟩) (.int 1 0 ⟨130, 35, 130, 36⟩) ⟨130, 20, 130, 37⟩) .nil)) 0 ⟨130, 12, 130, 38⟩) .nil) ⟨130, 11, 130, 39⟩) (.call 16 "_law_made" ⟨130, 42, 130, 51⟩ (.cons (.name "_law_pot_here" 0 ⟨130, 52, 130, 65⟩) (.cons (.sub (.name "_law_kind_here" 1 ⟨130, 67, 130, 81⟩) (.int 2 0 ⟨130, 82, 130, 83⟩) ⟨130, 67, 130, 84⟩) (.cons (.bin .add (.lst (.cons (.sub (.name "_law_kind_here" 1 ⟨130, 87, 130, 101⟩) (.int 1 0 ⟨130, 102, 130, 103⟩) ⟨130, 87, 130, 104⟩) .nil) ⟨130, 86, 130, 105⟩) (.name "_law_names" 2 ⟨130, 108, 130, 118⟩) ⟨130, 86, 130, 118⟩) (.cons (.bin .sub (.name "_law_deep" 3 ⟨130, 120, 130, 129⟩) (.int 1 0 ⟨130, 132, 130, 133⟩) ⟨130, 120, 130, 133⟩) .nil)))) ⟨130, 42, 130, 134⟩) ⟨130, 11, 130, 134⟩) ⟨130, 4, 130, 134⟩)
 .nil))))))))
/-- _law_binds -/
def b17 : Ss :=
 (.cons (.asg "_law_some" 1 ⟨132, 4, 132, 13⟩ (.dicH [("name", 0, ⟨132, 17, 132, 23⟩), ("told", 0, ⟨132, 29, 132, 35⟩), ("fun", 0, ⟨132, 41, 132, 46⟩), ("call", 0, ⟨132, 53, 132, 59⟩), ("both", 0, ⟨132, 69, 132, 75⟩), ("first", 0, ⟨132, 85, 132, 92⟩), ("second", 0, ⟨132, 99, 132, 107⟩)] (.cons (.lst .nil ⟨132, 25, 132, 27⟩) (.cons (.lst .nil ⟨132, 37, 132, 39⟩) (.cons (.lst (.cons (.int 1 0 ⟨132, 49, 132, 50⟩) .nil) ⟨132, 48, 132, 51⟩) (.cons (.lst (.cons (.int 0 0 ⟨132, 62, 132, 63⟩) (.cons (.int 0 0 ⟨132, 65, 132, 66⟩) .nil)) ⟨132, 61, 132, 67⟩) (.cons (.lst (.cons (.int 0 0 ⟨132, 78, 132, 79⟩) (.cons (.int 0 0 ⟨132, 81, 132, 82⟩) .nil)) ⟨132, 77, 132, 83⟩) (.cons (.lst (.cons (.int 0 0 ⟨132, 95, 132, 96⟩) .nil) ⟨132, 94, 132, 97⟩) (.cons (.lst (.cons (.int 0 0 ⟨132, 110, 132, 111⟩) .nil) ⟨132, 109, 132, 112⟩) .nil))))))) ⟨132, 16, 132, 113⟩) ⟨132, 4, 132, 113⟩)
 (.cons (.asgT (.tup (.cons (.sub (.name "_law_some" 1 ⟨133, 4, 133, 13⟩) (.str "left" 0 ⟨133, 14, 133, 20⟩) ⟨133, 4, 133, 21⟩) (.cons (.sub (.name "_law_some" 1 ⟨133, 23, 133, 32⟩) (.str "right" 0 ⟨133, 33, 133, 40⟩) ⟨133, 23, 133, 41⟩) (.cons (.sub (.name "_law_some" 1 ⟨133, 43, 133, 52⟩) (.str "next" 0 ⟨133, 53, 133, 59⟩) ⟨133, 43, 133, 60⟩) (.cons (.sub (.name "_law_some" 1 ⟨133, 62, 133, 71⟩) (.str "let" 0 ⟨133, 72, 133, 77⟩) ⟨133, 62, 133, 78⟩) .nil)))) 0 ⟨133, 4, 133, 78⟩) (.tup (.cons (.lst (.cons (.int 0 0 ⟨133, 83, 133, 84⟩) .nil) ⟨133, 82, 133, 85⟩) (.cons (.lst (.cons (.int 0 0 ⟨133, 88, 133, 89⟩) .nil) ⟨133, 87, 133, 90⟩) (.cons (.lst (.cons (.int 0 0 ⟨133, 93, 133, 94⟩) .nil) ⟨133, 92, 133, 95⟩) (.cons (.lst (.cons (.int 0 0 ⟨133, 98, 133, 99⟩) (.cons (.int 1 0 ⟨133, 101, 133, 102⟩) .nil)) ⟨133, 97, 133, 103⟩) .nil)))) 0 ⟨133, 81, 133, 104⟩) ⟨133, 4, 133, 104⟩)
 (.cons (.asgT (.tup (.cons (.sub (.name "_law_some" 1 ⟨134, 4, 134, 13⟩) (.str "which" 0 ⟨134, 14, 134, 21⟩) ⟨134, 4, 134, 22⟩) (.cons (.sub (.name "_law_some" 1 ⟨134, 24, 134, 33⟩) (.str "turns" 0 ⟨134, 34, 134, 41⟩) ⟨134, 24, 134, 42⟩) .nil)) 0 ⟨134, 4, 134, 42⟩) (.tup (.cons (.lst (.cons (.int 0 0 ⟨134, 47, 134, 48⟩) (.cons (.int 1 0 ⟨134, 50, 134, 51⟩) (.cons (.int 1 0 ⟨134, 53, 134, 54⟩) .nil))) ⟨134, 46, 134, 55⟩) (.cons (.lst (.cons (.int 0 0 ⟨134, 58, 134, 59⟩) (.cons (.int 1 0 ⟨134, 61, 134, 62⟩) (.cons (.int 0 0 ⟨134, 64, 134, 65⟩) .nil))) ⟨134, 57, 134, 66⟩) .nil)) 0 ⟨134, 45, 134, 67⟩) ⟨134, 4, 134, 67⟩)
 (.cons (.ret (.sub (.name "_law_some" 1 ⟨135, 11, 135, 20⟩) (.name "_law_word" 0 ⟨135, 21, 135, 30⟩) ⟨135, 11, 135, 31⟩) ⟨135, 4, 135, 31⟩)
 .nil))))
/-- _law_is_count -/
def b18 : Ss :=
 (.cons (.ret (.bop .And (.cons (.isi (.name "_law_value" 0 ⟨137, 22, 137, 32⟩) .int ⟨137, 11, 137, 21⟩ ⟨137, 34, 137, 37⟩ ⟨137, 11, 137, 38⟩) (.cons (.notV (.isi (.name "_law_value" 0 ⟨137, 59, 137, 69⟩) .bl ⟨137, 48, 137, 58⟩ ⟨137, 71, 137, 75⟩ ⟨137, 48, 137, 76⟩) ⟨137, 44, 137, 76⟩) (.cons (.chain .le .le (.int 0 0 ⟨137, 83, 137, 84⟩) (.name "_law_value" 0 ⟨137, 88, 137, 98⟩) (.name "_law_most" 1 ⟨137, 102, 137, 111⟩) ⟨137, 83, 137, 111⟩) .nil))) ⟨137, 11, 137, 112⟩) ⟨137, 4, 137, 112⟩)
 .nil)
/-- _law_is_node -/
def b19 : Ss :=
 (.cons (.ite (.bop .Or (.cons (.not (.tr (.isi (.name "_law_node" 0 ⟨139, 22, 139, 31⟩) .tup ⟨139, 11, 139, 21⟩ ⟨139, 33, 139, 38⟩ ⟨139, 11, 139, 39⟩)) ⟨139, 7, 139, 39⟩) (.cons (.cmp .eq (.blt .len ⟨139, 43, 139, 46⟩ (.cons (.name "_law_node" 0 ⟨139, 47, 139, 56⟩) .nil) ⟨139, 43, 139, 57⟩) (.int 0 0 ⟨139, 61, 139, 62⟩) ⟨139, 43, 139, 62⟩) (.cons (.not (.tr (.isi (.sub (.name "_law_node" 0 ⟨139, 82, 139, 91⟩) (.int 0 0 ⟨139, 92, 139, 93⟩) ⟨139, 82, 139, 94⟩) .str ⟨139, 71, 139, 81⟩ ⟨139, 96, 139, 99⟩ ⟨139, 71, 139, 100⟩)) ⟨139, 67, 139, 100⟩) .nil))) ⟨139, 7, 139, 101⟩) (.cons (.ret (.bl false 0 ⟨140, 15, 140, 20⟩) ⟨140, 8, 140, 20⟩)
 .nil) .nil ⟨139, 4, 140, 20⟩)
 (.cons (.ite (.cmp .isin (.sub (.name "_law_node" 0 ⟨141, 7, 141, 16⟩) (.int 0 0 ⟨141, 17, 141, 18⟩) ⟨141, 7, 141, 19⟩) (.lst (.cons (.str "fun" 0 ⟨141, 24, 141, 29⟩) (.cons (.str "left" 0 ⟨141, 31, 141, 37⟩) (.cons (.str "right" 0 ⟨141, 39, 141, 46⟩) (.cons (.str "turns" 0 ⟨141, 48, 141, 55⟩) .nil)))) ⟨141, 23, 141, 56⟩) ⟨141, 7, 141, 56⟩) (.cons (.ret (.bop .And (.cons (.cmp .eq (.blt .len ⟨142, 15, 142, 18⟩ (.cons (.name "_law_node" 0 ⟨142, 19, 142, 28⟩) .nil) ⟨142, 15, 142, 29⟩) (.int 2 0 ⟨142, 33, 142, 34⟩) ⟨142, 15, 142, 34⟩) (.cons (.call 7 "is_kind" ⟨142, 39, 142, 46⟩ (.cons (.sub (.name "_law_node" 0 ⟨142, 47, 142, 56⟩) (.int 1 0 ⟨142, 57, 142, 58⟩) ⟨142, 47, 142, 59⟩) .nil) ⟨142, 39, 142, 60⟩) .nil)) ⟨142, 15, 142, 60⟩) ⟨142, 8, 142, 60⟩)
 .nil) .nil ⟨141, 4, 142, 60⟩)
 (.cons (.ite (.cmp .isin (.sub (.name "_law_node" 0 ⟨143, 7, 143, 16⟩) (.int 0 0 ⟨143, 17, 143, 18⟩) ⟨143, 7, 143, 19⟩) (.lst (.cons (.str "name" 0 ⟨143, 24, 143, 30⟩) (.cons (.str "told" 0 ⟨143, 32, 143, 38⟩) .nil)) ⟨143, 23, 143, 39⟩) ⟨143, 7, 143, 39⟩) (.cons (.ret (.bop .And (.cons (.cmp .eq (.blt .len ⟨144, 15, 144, 18⟩ (.cons (.name "_law_node" 0 ⟨144, 19, 144, 28⟩) .nil) ⟨144, 15, 144, 29⟩) (.int 2 0 ⟨144, 33, 144, 34⟩) ⟨144, 15, 144, 34⟩) (.cons (.call 18 "_law_is_count" ⟨144, 39, 144, 52⟩ (.cons (.sub (.name "_law_node" 0 ⟨144, 53, 144, 62⟩) (.int 1 0 ⟨144, 63, 144, 64⟩) ⟨144, 53, 144, 65⟩) (.cons (.ife (.cmp .eq (.sub (.name "_law_node" 0 ⟨144, 74, 144, 83⟩) (.int 0 0 ⟨144, 84, 144, 85⟩) ⟨144, 74, 144, 86⟩) (.str "name" 0 ⟨144, 90, 144, 96⟩) ⟨144, 74, 144, 96⟩) (.int 299 0 ⟨144, 67, 144, 70⟩) (.int 1000000 0 ⟨144, 102, 144, 109⟩) ⟨144, 67, 144, 109⟩) .nil)) ⟨144, 39, 144, 110⟩) .nil)) ⟨144, 15, 144, 110⟩) ⟨144, 8, 144, 110⟩)
 .nil) .nil ⟨143, 4, 144, 110⟩)
 (.cons (.ret (.bop .And (.cons (.cmp .isin (.sub (.name "_law_node" 0 ⟨145, 11, 145, 20⟩) (.int 0 0 ⟨145, 21, 145, 22⟩) ⟨145, 11, 145, 23⟩) (.lst (.cons (.str "call" 0 ⟨145, 28, 145, 34⟩) (.cons (.str "both" 0 ⟨145, 36, 145, 42⟩) (.cons (.str "first" 0 ⟨145, 44, 145, 51⟩) (.cons (.str "second" 0 ⟨145, 53, 145, 61⟩) (.cons (.str "which" 0 ⟨145, 63, 145, 70⟩) (.cons (.str "next" 0 ⟨145, 72, 145, 78⟩) (.cons (.str "let" 0 ⟨145, 80, 145, 85⟩) .nil))))))) ⟨145, 27, 145, 86⟩) ⟨145, 11, 145, 86⟩) (.cons (.cmp .eq (.blt .len ⟨145, 91, 145, 94⟩ (.cons (.name "_law_node" 0 ⟨145, 95, 145, 104⟩) .nil) ⟨145, 91, 145, 105⟩) (.int 1 0 ⟨145, 109, 145, 110⟩) ⟨145, 91, 145, 110⟩) .nil)) ⟨145, 11, 145, 110⟩) ⟨145, 4, 145, 110⟩)
 .nil))))
/-- _law_end -/
def b20 : Ss :=
 (.cons (.ite (.bop .Or (.cons (.cmp .isn (.name "_law_begin" 1 ⟨147, 7, 147, 17⟩) (.non 0 ⟨147, 21, 147, 25⟩) ⟨147, 7, 147, 25⟩) (.cons (.cmp .ge (.name "_law_begin" 1 ⟨147, 29, 147, 39⟩) (.blt .len ⟨147, 43, 147, 46⟩ (.cons (.name "_law_nodes" 0 ⟨147, 47, 147, 57⟩) .nil) ⟨147, 43, 147, 58⟩) ⟨147, 29, 147, 58⟩) .nil)) ⟨147, 7, 147, 58⟩) (.cons (.ret (.non 0 ⟨148, 15, 148, 19⟩) ⟨148, 8, 148, 19⟩)
 .nil) .nil ⟨147, 4, 148, 19⟩)
 (.cons (.asg "_law_place" 2 ⟨149, 4, 149, 14⟩ (.bin .add (.name "_law_begin" 1 ⟨149, 17, 149, 27⟩) (.int 1 0 ⟨149, 30, 149, 31⟩) ⟨149, 17, 149, 31⟩) ⟨149, 4, 149, 31⟩)
 (.cons (.for (.name "_law_more" 3 ⟨150, 8, 150, 17⟩) (.seq (.call 17 "_law_binds" ⟨150, 21, 150, 31⟩ (.cons (.sub (.sub (.name "_law_nodes" 0 ⟨150, 32, 150, 42⟩) (.name "_law_begin" 1 ⟨150, 43, 150, 53⟩) ⟨150, 32, 150, 54⟩) (.int 0 0 ⟨150, 55, 150, 56⟩) ⟨150, 32, 150, 57⟩) .nil) ⟨150, 21, 150, 58⟩)) (.cons (.asg "_law_place" 2 ⟨151, 8, 151, 18⟩ (.call 20 "_law_end" ⟨151, 21, 151, 29⟩ (.cons (.name "_law_nodes" 0 ⟨151, 30, 151, 40⟩) (.cons (.name "_law_place" 2 ⟨151, 42, 151, 52⟩) .nil)) ⟨151, 21, 151, 53⟩) ⟨151, 8, 151, 53⟩)
 .nil) ⟨150, 4, 151, 53⟩)
 (.cons (.ret (.name "_law_place" 2 ⟨152, 11, 152, 21⟩) ⟨152, 4, 152, 21⟩)
 .nil))))
/-- _law_due -/
def b21 : Ss :=
 (.cons (.ite (.bop .Or (.cons (.not (.tr (.isiT (.name "_law_value" 0 ⟨154, 22, 154, 32⟩) .lst ⟨154, 35, 154, 39⟩ .tup ⟨154, 41, 154, 46⟩ 0 ⟨154, 11, 154, 21⟩ ⟨154, 34, 154, 47⟩ ⟨154, 11, 154, 48⟩)) ⟨154, 7, 154, 48⟩) (.cons (.not (.chain .le .le (.int 1 0 ⟨154, 56, 154, 57⟩) (.blt .len ⟨154, 61, 154, 64⟩ (.cons (.name "_law_value" 0 ⟨154, 65, 154, 75⟩) .nil) ⟨154, 61, 154, 76⟩) (.int 300 0 ⟨154, 80, 154, 83⟩) ⟨154, 56, 154, 83⟩) ⟨154, 52, 154, 83⟩) (.cons (.not (.tr (.blt .all ⟨154, 92, 154, 95⟩ (.cons (.lc (.call 19 "_law_is_node" ⟨154, 97, 154, 109⟩ (.cons (.name "_law_node" 2 ⟨154, 110, 154, 119⟩) .nil) ⟨154, 97, 154, 120⟩) (.name "_law_node" 2 ⟨154, 125, 154, 134⟩) (.seq (.name "_law_value" 0 ⟨154, 138, 154, 148⟩)) .non [("_law_node", 2)] ⟨.function, [(".0", .local), ("_law_node", .local), ("_law_is_node", .globalImplicit)], false, false, []⟩ ⟨154, 96, 154, 149⟩) .nil) ⟨154, 92, 154, 150⟩)) ⟨154, 88, 154, 150⟩) .nil))) ⟨154, 7, 154, 151⟩) (.cons (.ret (.bl false 0 ⟨155, 15, 155, 20⟩) ⟨155, 8, 155, 20⟩)
 .nil) .nil ⟨154, 4, 155, 20⟩)
 (.cons (.asg "_law_rest" 1 ⟨156, 4, 156, 13⟩ (.blt .list ⟨156, 16, 156, 20⟩ (.cons (.name "_law_value" 0 ⟨156, 21, 156, 31⟩) .nil) ⟨156, 16, 156, 32⟩) ⟨156, 4, 156, 32⟩)
 (.cons (.whl (.bop .And (.cons (.cmp .gt (.blt .len ⟨157, 10, 157, 13⟩ (.cons (.name "_law_rest" 1 ⟨157, 14, 157, 23⟩) .nil) ⟨157, 10, 157, 24⟩) (.int 50 0 ⟨157, 27, 157, 29⟩) ⟨157, 10, 157, 29⟩) (.cons (.cmp .isin (.sub (.sub (.name "_law_rest" 1 ⟨157, 34, 157, 43⟩) (.int 0 0 ⟨157, 44, 157, 45⟩) ⟨157, 34, 157, 46⟩) (.int 0 0 ⟨157, 47, 157, 48⟩) ⟨157, 34, 157, 49⟩) (.lst (.cons (.str "next" 0 ⟨157, 54, 157, 60⟩) (.cons (.str "fun" 0 ⟨157, 62, 157, 67⟩) (.cons (.str "first" 0 ⟨157, 69, 157, 76⟩) .nil))) ⟨157, 53, 157, 77⟩) ⟨157, 34, 157, 77⟩) .nil)) ⟨157, 10, 157, 77⟩) (.cons (.asg "_law_rest" 1 ⟨158, 8, 158, 17⟩ (.ife (.tr (.blt .all ⟨158, 38, 158, 41⟩ (.cons (.lc (.cmp .isin (.sub (.name "_law_node" 2 ⟨158, 43, 158, 52⟩) (.int 0 0 ⟨158, 53, 158, 54⟩) ⟨158, 43, 158, 55⟩) (.lst (.cons (.str "next" 0 ⟨158, 60, 158, 66⟩) (.cons (.str "fun" 0 ⟨158, 68, 158, 73⟩) (.cons (.str "first" 0 ⟨158, 75, 158, 82⟩) .nil))) ⟨158, 59, 158, 83⟩) ⟨158, 43, 158, 83⟩) (.name "_law_node" 2 ⟨158, 88, 158, 97⟩) (.seq (.slc (.name "_law_rest" 1 ⟨158, 101, 158, 110⟩) .non (.some (.int 50 0 ⟨158, 112, 158, 114⟩)) ⟨158, 111, 158, 114⟩ ⟨158, 101, 158, 115⟩)) .non [("_law_node", 2)] ⟨.function, [(".0", .local), ("_law_node", .local)], false, false, []⟩ ⟨158, 42, 158, 116⟩) .nil) ⟨158, 38, 158, 117⟩)) (.slc (.name "_law_rest" 1 ⟨158, 20, 158, 29⟩) (.some (.int 50 0 ⟨158, 30, 158, 32⟩)) .non ⟨158, 30, 158, 33⟩ ⟨158, 20, 158, 34⟩) (.slc (.name "_law_rest" 1 ⟨158, 123, 158, 132⟩) (.some (.int 1 0 ⟨158, 133, 158, 134⟩)) .non ⟨158, 133, 158, 135⟩ ⟨158, 123, 158, 136⟩) ⟨158, 20, 158, 136⟩) ⟨158, 8, 158, 136⟩)
 .nil) ⟨157, 4, 158, 136⟩)
 (.cons (.ret (.cmp .eq (.call 20 "_law_end" ⟨159, 11, 159, 19⟩ (.cons (.name "_law_rest" 1 ⟨159, 20, 159, 29⟩) (.cons (.int 0 0 ⟨159, 31, 159, 32⟩) .nil)) ⟨159, 11, 159, 33⟩) (.blt .len ⟨159, 37, 159, 40⟩ (.cons (.name "_law_rest" 1 ⟨159, 41, 159, 50⟩) .nil) ⟨159, 37, 159, 51⟩) ⟨159, 11, 159, 51⟩) ⟨159, 4, 159, 51⟩)
 .nil))))
/-- _law_right -/
def b22 : Ss :=
 (.cons (.asg "_law_term" 1 ⟨161, 4, 161, 13⟩ (.call 16 "_law_made" ⟨161, 16, 161, 25⟩ (.cons (.name "_law_pot_here" 0 ⟨161, 26, 161, 39⟩) (.cons (.call 14 "_law_kind" ⟨161, 41, 161, 50⟩ (.cons (.name "_law_pot_here" 0 ⟨161, 51, 161, 64⟩) (.cons (.int 2 0 ⟨161, 66, 161, 67⟩) .nil)) ⟨161, 41, 161, 68⟩) (.cons (.lst (.cons (.call 14 "_law_kind" ⟨161, 71, 161, 80⟩ (.cons (.name "_law_pot_here" 0 ⟨161, 81, 161, 94⟩) (.cons (.int 1 0 ⟨161, 96, 161, 97⟩) .nil)) ⟨161, 71, 161, 98⟩) (.cons (.tup (.cons (.str "letter" 0 ⟨161, 101, 161, 109⟩) (.cons (.int 0 0 ⟨161, 111, 161, 112⟩) .nil)) 0 ⟨161, 100, 161, 113⟩) (.cons (.tup (.cons (.str "letter" 0 ⟨161, 116, 161, 124⟩) (.cons (.int 1 0 ⟨161, 126, 161, 127⟩) .nil)) 0 ⟨161, 115, 161, 128⟩) .nil))) ⟨161, 70, 161, 129⟩) (.cons (.int 2 0 ⟨161, 131, 161, 132⟩) .nil)))) ⟨161, 16, 161, 133⟩) ⟨161, 4, 161, 133⟩)
 (.cons (.par false true "_law_at" 2 ⟨162, 4, 162, 11⟩ "_law_odd" 3 ⟨162, 13, 162, 21⟩ 0 ⟨162, 4, 162, 21⟩ (.call 12 "_law_draw" ⟨162, 25, 162, 34⟩ (.cons (.name "_law_pot_here" 0 ⟨162, 35, 162, 48⟩) (.cons (.blt .len ⟨162, 50, 162, 53⟩ (.cons (.name "_law_term" 1 ⟨162, 54, 162, 63⟩) .nil) ⟨162, 50, 162, 64⟩) .nil)) ⟨162, 25, 162, 65⟩) (.lst .nil ⟨162, 67, 162, 69⟩) 0 ⟨162, 24, 162, 70⟩ ⟨162, 4, 162, 70⟩)
 (.cons (.for (.name "_law_node" 4 ⟨163, 8, 163, 17⟩) (.seq (.lst (.cons (.non 0 ⟨163, 22, 163, 26⟩) (.cons (.tup (.cons (.str "told" 0 ⟨163, 29, 163, 35⟩) (.cons (.bl true 0 ⟨163, 37, 163, 41⟩) .nil)) 0 ⟨163, 28, 163, 42⟩) (.cons (.tup (.cons (.str "told" 0 ⟨163, 45, 163, 51⟩) (.cons (.neg (.int 1 0 ⟨163, 54, 163, 55⟩) ⟨163, 53, 163, 55⟩) .nil)) 0 ⟨163, 44, 163, 56⟩) (.cons (.tup (.cons (.str "told" 0 ⟨163, 59, 163, 65⟩) (.cons (.int 1000001 0 ⟨163, 67, 163, 74⟩) .nil)) 0 ⟨163, 58, 163, 75⟩) (.cons (.tup (.cons (.str "told" 0 ⟨163, 78, 163, 84⟩) (.cons (.int 1000000 0 ⟨163, 86, 163, 93⟩) .nil)) 0 ⟨163, 77, 163, 94⟩) (.cons (.tup (.cons (.str "name" 0 ⟨163, 97, 163, 103⟩) (.cons (.int 300 0 ⟨163, 105, 163, 108⟩) .nil)) 0 ⟨163, 96, 163, 109⟩) (.cons (.tup (.cons (.str "name" 0 ⟨163, 112, 163, 118⟩) (.cons (.int 299 0 ⟨163, 120, 163, 123⟩) .nil)) 0 ⟨163, 111, 163, 124⟩) (.cons (.tup (.cons (.str "name" 0 ⟨163, 127, 163, 133⟩) .nil) 0 ⟨163, 126, 163, 135⟩) (.cons (.tup (.cons (.str "fun" 0 ⟨163, 138, 163, 143⟩) (.cons (.non 0 ⟨163, 145, 163, 149⟩) .nil)) 0 ⟨163, 137, 163, 150⟩) (.cons (.tup (.cons (.str "fun" 0 ⟨163, 153, 163, 158⟩) .nil) 0 ⟨163, 152, 163, 160⟩) .nil)))))))))) ⟨163, 21, 163, 161⟩)) (.cons (.app "_law_odd" 3 ⟨164, 8, 164, 16⟩ ⟨164, 8, 164, 23⟩ (.bin .add (.bin .add (.slc (.name "_law_term" 1 ⟨164, 24, 164, 33⟩) .non (.some (.name "_law_at" 2 ⟨164, 35, 164, 42⟩)) ⟨164, 34, 164, 42⟩ ⟨164, 24, 164, 43⟩) (.lst (.cons (.name "_law_node" 4 ⟨164, 47, 164, 56⟩) .nil) ⟨164, 46, 164, 57⟩) ⟨164, 24, 164, 57⟩) (.slc (.name "_law_term" 1 ⟨164, 60, 164, 69⟩) (.some (.bin .add (.name "_law_at" 2 ⟨164, 70, 164, 77⟩) (.int 1 0 ⟨164, 80, 164, 81⟩) ⟨164, 70, 164, 81⟩)) .non ⟨164, 70, 164, 82⟩ ⟨164, 60, 164, 83⟩) ⟨164, 24, 164, 83⟩) ⟨164, 8, 164, 84⟩ ⟨164, 8, 164, 84⟩)
 .nil) ⟨163, 4, 164, 84⟩)
 (.cons (.for (.name "_law_node" 4 ⟨165, 8, 165, 17⟩) (.seq (.lst (.cons (.tup (.cons (.str "call" 0 ⟨165, 23, 165, 29⟩) (.cons (.int 1 0 ⟨165, 31, 165, 32⟩) .nil)) 0 ⟨165, 22, 165, 33⟩) (.cons (.lst (.cons (.str "call" 0 ⟨165, 36, 165, 42⟩) .nil) ⟨165, 35, 165, 43⟩) (.cons (.tup (.cons (.str "Call" 0 ⟨165, 46, 165, 52⟩) .nil) 0 ⟨165, 45, 165, 54⟩) (.cons (.tup (.cons (.str "call" 0 ⟨165, 57, 165, 63⟩) .nil) 0 ⟨165, 56, 165, 65⟩) (.cons (.tup (.cons (.str "which" 0 ⟨165, 68, 165, 75⟩) .nil) 0 ⟨165, 67, 165, 77⟩) (.cons (.tup (.cons (.str "let" 0 ⟨165, 80, 165, 85⟩) .nil) 0 ⟨165, 79, 165, 87⟩) (.cons (.str "next" 0 ⟨165, 89, 165, 95⟩) (.cons (.tup (.cons (.str "next" 0 ⟨165, 98, 165, 104⟩) .nil) 0 ⟨165, 97, 165, 106⟩) (.cons (.tup (.cons (.int 1 0 ⟨165, 109, 165, 110⟩) .nil) 0 ⟨165, 108, 165, 112⟩) (.cons (.tup .nil 0 ⟨165, 114, 165, 116⟩) (.cons (.tup (.cons (.str "left" 0 ⟨165, 119, 165, 125⟩) (.cons (.tup (.cons (.str "letter" 0 ⟨165, 128, 165, 136⟩) (.cons (.int 6 0 ⟨165, 138, 165, 139⟩) .nil)) 0 ⟨165, 127, 165, 140⟩) .nil)) 0 ⟨165, 118, 165, 141⟩) (.cons (.tup (.cons (.str "turns" 0 ⟨165, 144, 165, 151⟩) (.cons (.tup (.cons (.str "count" 0 ⟨165, 154, 165, 161⟩) .nil) 0 ⟨165, 153, 165, 163⟩) .nil)) 0 ⟨165, 143, 165, 164⟩) .nil)))))))))))) ⟨165, 21, 165, 165⟩)) (.cons (.app "_law_odd" 3 ⟨166, 8, 166, 16⟩ ⟨166, 8, 166, 23⟩ (.bin .add (.bin .add (.slc (.name "_law_term" 1 ⟨166, 24, 166, 33⟩) .non (.some (.name "_law_at" 2 ⟨166, 35, 166, 42⟩)) ⟨166, 34, 166, 42⟩ ⟨166, 24, 166, 43⟩) (.lst (.cons (.name "_law_node" 4 ⟨166, 47, 166, 56⟩) .nil) ⟨166, 46, 166, 57⟩) ⟨166, 24, 166, 57⟩) (.slc (.name "_law_term" 1 ⟨166, 60, 166, 69⟩) (.some (.name "_law_at" 2 ⟨166, 70, 166, 77⟩)) .non ⟨166, 70, 166, 78⟩ ⟨166, 60, 166, 79⟩) ⟨166, 24, 166, 79⟩) ⟨166, 8, 166, 80⟩ ⟨166, 8, 166, 80⟩)
 .nil) ⟨165, 4, 166, 80⟩)
 (.cons (.asgO "_law_values" 5 ⟨167, 4, 167, 15⟩ (.lst (.cons (.name "_law_term" 1 ⟨167, 19, 167, 28⟩) (.cons (.blt .tuple ⟨167, 30, 167, 35⟩ (.cons (.name "_law_term" 1 ⟨167, 36, 167, 45⟩) .nil) ⟨167, 30, 167, 46⟩) (.cons (.slc (.name "_law_term" 1 ⟨167, 48, 167, 57⟩) (.some (.int 1 0 ⟨167, 58, 167, 59⟩)) .non ⟨167, 58, 167, 60⟩ ⟨167, 48, 167, 61⟩) (.cons (.slc (.name "_law_term" 1 ⟨167, 63, 167, 72⟩) .non (.some (.neg (.int 1 0 ⟨167, 75, 167, 76⟩) ⟨167, 74, 167, 76⟩)) ⟨167, 73, 167, 76⟩ ⟨167, 63, 167, 77⟩) (.cons (.slc (.bin .add (.name "_law_term" 1 ⟨167, 80, 167, 89⟩) (.name "_law_term" 1 ⟨167, 92, 167, 101⟩) ⟨167, 80, 167, 101⟩) .non (.some (.int 400 0 ⟨167, 104, 167, 107⟩)) ⟨167, 103, 167, 107⟩ ⟨167, 79, 167, 108⟩) (.cons (.slc (.bin .add (.bin .add (.lst (.cons (.tup (.cons (.str "both" 0 ⟨167, 113, 167, 119⟩) .nil) 0 ⟨167, 112, 167, 121⟩) .nil) ⟨167, 111, 167, 122⟩) (.name "_law_term" 1 ⟨167, 125, 167, 134⟩) ⟨167, 111, 167, 134⟩) (.name "_law_term" 1 ⟨167, 137, 167, 146⟩) ⟨167, 111, 167, 146⟩) .non (.some (.int 400 0 ⟨167, 149, 167, 152⟩)) ⟨167, 148, 167, 152⟩ ⟨167, 110, 167, 153⟩) (.cons (.lst (.cons (.name "_law_term" 1 ⟨167, 156, 167, 165⟩) .nil) ⟨167, 155, 167, 166⟩) (.cons (.lst .nil ⟨167, 168, 167, 170⟩) (.cons (.tup .nil 0 ⟨167, 172, 167, 174⟩) (.cons (.non 0 ⟨167, 176, 167, 180⟩) (.cons (.int 5 0 ⟨167, 182, 167, 183⟩) (.cons (.str "told" 0 ⟨167, 185, 167, 191⟩) (.cons (.emp ⟨167, 193, 167, 195⟩) (.cons (.bl true 0 ⟨167, 197, 167, 201⟩) (.cons (.lst (.cons (.tup (.cons (.str "told" 0 ⟨167, 205, 167, 211⟩) (.cons (.int 1 0 ⟨167, 213, 167, 214⟩) .nil)) 0 ⟨167, 204, 167, 215⟩) .nil) ⟨167, 203, 167, 216⟩) (.cons (.tup (.cons (.str "told" 0 ⟨167, 219, 167, 225⟩) (.cons (.int 1 0 ⟨167, 227, 167, 228⟩) .nil)) 0 ⟨167, 218, 167, 229⟩) .nil)))))))))))))))) ⟨167, 18, 167, 230⟩) ⟨167, 4, 167, 230⟩)
 (.cons (.ext "_law_values" 5 ⟨168, 4, 168, 15⟩ ⟨168, 4, 168, 22⟩ (.lst (.cons (.bin .add (.bin .mul (.lst (.cons (.tup (.cons (.str "next" 0 ⟨168, 26, 168, 32⟩) .nil) 0 ⟨168, 25, 168, 34⟩) .nil) ⟨168, 24, 168, 35⟩) (.int 299 0 ⟨168, 38, 168, 41⟩) ⟨168, 24, 168, 41⟩) (.lst (.cons (.tup (.cons (.str "told" 0 ⟨168, 46, 168, 52⟩) (.cons (.int 0 0 ⟨168, 54, 168, 55⟩) .nil)) 0 ⟨168, 45, 168, 56⟩) .nil) ⟨168, 44, 168, 57⟩) ⟨168, 24, 168, 57⟩) (.cons (.bin .add (.bin .mul (.lst (.cons (.tup (.cons (.str "next" 0 ⟨168, 61, 168, 67⟩) .nil) 0 ⟨168, 60, 168, 69⟩) .nil) ⟨168, 59, 168, 70⟩) (.int 300 0 ⟨168, 73, 168, 76⟩) ⟨168, 59, 168, 76⟩) (.lst (.cons (.tup (.cons (.str "told" 0 ⟨168, 81, 168, 87⟩) (.cons (.int 0 0 ⟨168, 89, 168, 90⟩) .nil)) 0 ⟨168, 80, 168, 91⟩) .nil) ⟨168, 79, 168, 92⟩) ⟨168, 59, 168, 92⟩) (.cons (.bin .add (.bin .mul (.lst (.cons (.tup (.cons (.str "fun" 0 ⟨168, 96, 168, 101⟩) (.cons (.tup (.cons (.str "count" 0 ⟨168, 104, 168, 111⟩) .nil) 0 ⟨168, 103, 168, 113⟩) .nil)) 0 ⟨168, 95, 168, 114⟩) .nil) ⟨168, 94, 168, 115⟩) (.int 120 0 ⟨168, 118, 168, 121⟩) ⟨168, 94, 168, 121⟩) (.lst (.cons (.tup (.cons (.str "name" 0 ⟨168, 126, 168, 132⟩) (.cons (.int 0 0 ⟨168, 134, 168, 135⟩) .nil)) 0 ⟨168, 125, 168, 136⟩) .nil) ⟨168, 124, 168, 137⟩) ⟨168, 94, 168, 137⟩) (.cons (.bin .mul (.lst (.cons (.tup (.cons (.str "next" 0 ⟨168, 141, 168, 147⟩) .nil) 0 ⟨168, 140, 168, 149⟩) .nil) ⟨168, 139, 168, 150⟩) (.int 120 0 ⟨168, 153, 168, 156⟩) ⟨168, 139, 168, 156⟩) .nil)))) ⟨168, 23, 168, 157⟩) ⟨168, 4, 168, 158⟩ ⟨168, 4, 168, 158⟩)
 (.cons (.for (.name "_law_value" 6 ⟨169, 8, 169, 18⟩) (.seq (.bin .add (.peek "_law_values" 5 ⟨169, 22, 169, 33⟩) (.peek "_law_odd" 3 ⟨169, 36, 169, 44⟩) ⟨169, 22, 169, 44⟩)) (.cons (.asg "_law_due_here" 7 ⟨170, 8, 170, 21⟩ (.call 21 "_law_due" ⟨170, 24, 170, 32⟩ (.cons (.name "_law_value" 6 ⟨170, 33, 170, 43⟩) .nil) ⟨170, 24, 170, 44⟩) ⟨170, 8, 170, 44⟩)
 (.cons (.ite (.cmp .ne (.blt .repr ⟨171, 11, 171, 15⟩ (.cons (.lst (.cons (.call 10 "is_term" ⟨171, 17, 171, 24⟩ (.cons (.name "_law_value" 6 ⟨171, 25, 171, 35⟩) .nil) ⟨171, 17, 171, 36⟩) (.cons (.callK 10 "is_term" ⟨171, 38, 171, 45⟩ .nil (.cons "value" (.name "_law_value" 6 ⟨171, 52, 171, 62⟩) ⟨171, 46, 171, 62⟩ .nil) ⟨171, 38, 171, 63⟩) .nil)) ⟨171, 16, 171, 64⟩) .nil) ⟨171, 11, 171, 65⟩) (.blt .repr ⟨171, 69, 171, 73⟩ (.cons (.lst (.cons (.name "_law_due_here" 7 ⟨171, 75, 171, 88⟩) (.cons (.name "_law_due_here" 7 ⟨171, 90, 171, 103⟩) .nil)) ⟨171, 74, 171, 104⟩) .nil) ⟨171, 69, 171, 105⟩) ⟨171, 11, 171, 105⟩) (.cons (.ret (.bl false 0 ⟨172, 19, 172, 24⟩) ⟨172, 12, 172, 24⟩)
 .nil) .nil ⟨171, 8, 172, 24⟩)
 .nil)) ⟨169, 4, 172, 24⟩)
 (.cons (.ret (.bl true 0 ⟨173, 11, 173, 15⟩) ⟨173, 4, 173, 15⟩)
 .nil))))))))
/-- law -/
def b23 : Ss :=
 (.cons (.ret (.call 22 "_law_right" ⟨175, 11, 175, 21⟩ (.cons (.call 11 "_law_pot" ⟨175, 22, 175, 30⟩ (.cons (.name "_law_script" 0 ⟨175, 31, 175, 42⟩) (.cons (.int 0 0 ⟨175, 44, 175, 45⟩) .nil)) ⟨175, 22, 175, 46⟩) .nil) ⟨175, 11, 175, 47⟩) ⟨175, 4, 175, 47⟩)
 .nil)
def defs : List Df := [
  ⟨"is_integer", ["value"], 1, b0⟩,
  ⟨"is_count", ["value"], 1, b1⟩,
  ⟨"is_list", ["value"], 1, b2⟩,
  ⟨"is_leaf", ["value"], 1, b3⟩,
  ⟨"is_letter_word", ["value"], 1, b4⟩,
  ⟨"is_letter", ["value"], 1, b5⟩,
  ⟨"is_branch", ["value"], 1, b6⟩,
  ⟨"is_kind", ["value", "left", "signs", "one", "deep"], 1, b7⟩,
  ⟨"is_node", ["value"], 1, b8⟩,
  ⟨"are_tree", ["nodes", "wanted", "node"], 1, b9⟩,
  ⟨"is_term", ["value", "node"], 1, b10⟩,
  ⟨"_law_pot", ["_law_script", "_law_k", "_law_cell"], 2, b11⟩,
  ⟨"_law_draw", ["_law_pot_here", "_law_size", "_law_digit"], 2, b12⟩,
  ⟨"_law_pick", ["_law_pot_here", "_law_some"], 2, b13⟩,
  ⟨"_law_kind", ["_law_pot_here", "_law_deep", "_law_way", "_law_near"], 2, b14⟩,
  ⟨"_law_cut", ["_law_pot_here", "_law_kind_here", "_law_names", "_law_deep", "_law_way", "_law_other", "_law_body", "_law_what", "_law_near", "_law_far", "_law_more", "_law_arm", "_law_step"], 4, b15⟩,
  ⟨"_law_made", ["_law_pot_here", "_law_kind_here", "_law_names", "_law_deep", "_law_here", "_law_near", "_law_at", "_law_one"], 4, b16⟩,
  ⟨"_law_binds", ["_law_word", "_law_some"], 1, b17⟩,
  ⟨"_law_is_count", ["_law_value", "_law_most"], 2, b18⟩,
  ⟨"_law_is_node", ["_law_node"], 1, b19⟩,
  ⟨"_law_end", ["_law_nodes", "_law_begin", "_law_place", "_law_more"], 2, b20⟩,
  ⟨"_law_due", ["_law_value", "_law_rest", "_law_node"], 1, b21⟩,
  ⟨"_law_right", ["_law_pot_here", "_law_term", "_law_at", "_law_odd", "_law_node", "_law_values", "_law_value", "_law_due_here"], 1, b22⟩,
  ⟨"law", ["_law_script"], 1, b23⟩]
def csts : List (Str × W) := [
  ("LETTER", .str "letter"),
  ("TELLING", .str "count"),
  ("PAIR", .str "pair"),
  ("SUM", .str "sum"),
  ("FUN", .str "fun"),
  ("MOST_LETTER", .int 5),
  ("MOST_SIGNS", .int 60),
  ("MOST_DEEP", .int 12),
  ("NAME", .str "name"),
  ("TOLD", .str "told"),
  ("MOST_NODES", .int 300),
  ("MOST_OUT", .int 299),
  ("MOST_TOLD", .int 1000000),
  ("BINDS", .dic [("name", .tup []), ("told", .tup []), ("fun", .tup [.int 1]), ("call", .tup [.int 0, .int 0]), ("both", .tup [.int 0, .int 0]), ("first", .tup [.int 0]), ("second", .tup [.int 0]), ("left", .tup [.int 0]), ("right", .tup [.int 0]), ("which", .tup [.int 0, .int 1, .int 1]), ("next", .tup [.int 0]), ("turns", .tup [.int 0, .int 1, .int 0]), ("let", .tup [.int 0, .int 1])]),
  ("WITH_KIND", .tup [.str "fun", .str "left", .str "right", .str "turns"])]
def pg : Pg := ⟨defs, fun x => csts.lookup x⟩
abbrev f_is_integer : Nat := 0
abbrev f_is_count : Nat := 1
abbrev f_is_list : Nat := 2
abbrev f_is_leaf : Nat := 3
abbrev f_is_letter_word : Nat := 4
abbrev f_is_letter : Nat := 5
abbrev f_is_branch : Nat := 6
abbrev f_is_kind : Nat := 7
abbrev f_is_node : Nat := 8
abbrev f_are_tree : Nat := 9
abbrev f_is_term : Nat := 10
abbrev f_law_pot : Nat := 11
abbrev f_law_draw : Nat := 12
abbrev f_law_pick : Nat := 13
abbrev f_law_kind : Nat := 14
abbrev f_law_cut : Nat := 15
abbrev f_law_made : Nat := 16
abbrev f_law_binds : Nat := 17
abbrev f_law_is_count : Nat := 18
abbrev f_law_is_node : Nat := 19
abbrev f_law_end : Nat := 20
abbrev f_law_due : Nat := 21
abbrev f_law_right : Nat := 22
abbrev f_law : Nat := 23
end K14

set_option maxHeartbeats 4000000
namespace K14
open PySem Ev Mx
variable {k : Nat} {h : Obs} {w : W}
theorem t0 (p : PV w) : pg.T (k+1) 0 [w] h = .ok (.bl (isIn w)) h := by cases p <;> rfl
theorem t1 (p : PV w) : pg.T (k+2) 1 [w] h = .ok (.bl (isCn w)) h := by
  cases p with
  | int i =>
    show Df.run ⟨"is_count", ["value"], 1, b1⟩ ⟨pg.T (k+1), pg.cst, pg.par⟩ [.int i] h = _
    have e := t0 (k := k) (h := h) (.int i)
    simp [b1, e, isIn, isCn, Df.run, Ss.den, S.den, E.den, Es.den, Es.bo, Es.bt, Eo.den, Eo.tst, E.tst, It.den, R.bind, R.out, R.opt, startS, slotV, slotP, W.now, cmpW, intsW, idxW, L2.atI, L2.ixN, bltW, on1, on2, ifB, Tg.den, Tgs.den, tgo, binW, addW, intW, absW, lenW, truW, tyW, isTy, E.give, E.fresh, W.isNon, lineN_small, cstV, mulW]
  | _ => rfl
theorem t2 (p : PV w) : pg.T (k+1) 2 [w] h = .ok (.bl (isLs w)) h := by cases p <;> rfl
theorem t5 (p : PV w) : pg.T (k+3) 5 [w] h = .ok (.bl (match w with | .int i => decide (0 ≤ i) && decide (i ≤ 5) | _ => false)) h := by
  show Df.run ⟨"is_letter", ["value"], 1, b5⟩ ⟨pg.T (k+2), pg.cst, pg.par⟩ [w] h = _
  have e := t1 (k := k) (h := h) p
  have c : pg.cst "MOST_LETTER" = some (.int 5) := rfl
  cases p with
  | int i =>
    by_cases hi : 0 ≤ i <;> simp [b5, e, isCn, hi, c, Df.run, Ss.den, S.den, E.den, Es.den, Es.bo, Es.bt, Eo.den, Eo.tst, E.tst, It.den, R.bind, R.out, R.opt, startS, slotV, slotP, W.now, cmpW, intsW, idxW, L2.atI, L2.ixN, bltW, on1, on2, ifB, Tg.den, Tgs.den, tgo, binW, addW, intW, absW, lenW, truW, tyW, isTy, E.give, E.fresh, W.isNon, lineN_small, cstV, mulW]
  | _ => simp [b5, e, isCn, Df.run, Ss.den, S.den, E.den, Es.den, Es.bo, Es.bt, Eo.den, Eo.tst, E.tst, It.den, R.bind, R.out, R.opt, startS, slotV, slotP, W.now, cmpW, intsW, idxW, L2.atI, L2.ixN, bltW, on1, on2, ifB, Tg.den, Tgs.den, tgo, binW, addW, intW, absW, lenW, truW, tyW, isTy, E.give, E.fresh, W.isNon, lineN_small, cstV, mulW]
theorem t4 (p : PV w) : pg.T (k+1) 4 [w] h = .ok (.bl (match w with | .str s => decide (s = "letter") | _ => false)) h := by
  show Df.run ⟨"is_letter_word", ["value"], 1, b4⟩ ⟨pg.T k, pg.cst, pg.par⟩ [w] h = _
  have c : pg.cst "LETTER" = some (.str "letter") := rfl
  cases p with
  | str s => simp [b4, c, eqS, Df.run, Ss.den, S.den, E.den, Es.den, Es.bo, Es.bt, Eo.den, Eo.tst, E.tst, It.den, R.bind, R.out, R.opt, startS, slotV, slotP, W.now, cmpW, intsW, idxW, L2.atI, L2.ixN, bltW, on1, on2, ifB, Tg.den, Tgs.den, tgo, binW, addW, intW, absW, lenW, truW, tyW, isTy, E.give, E.fresh, W.isNon, lineN_small, cstV, mulW]
  | _ => simp [b4, Df.run, Ss.den, S.den, E.den, Es.den, Es.bo, Es.bt, Eo.den, Eo.tst, E.tst, It.den, R.bind, R.out, R.opt, startS, slotV, slotP, W.now, cmpW, intsW, idxW, L2.atI, L2.ixN, bltW, on1, on2, ifB, Tg.den, Tgs.den, tgo, binW, addW, intW, absW, lenW, truW, tyW, isTy, E.give, E.fresh, W.isNon, lineN_small, cstV, mulW]
theorem t6 (p : PV w) : pg.T (k+1) 6 [w] h = .ok (.bl (isBr w)) h := by
  show Df.run ⟨"is_branch", ["value"], 1, b6⟩ ⟨pg.T k, pg.cst, pg.par⟩ [w] h = _
  have c1 : pg.cst "PAIR" = some (.str "pair") := rfl
  have c2 : pg.cst "SUM" = some (.str "sum") := rfl
  have c3 : pg.cst "FUN" = some (.str "fun") := rfl
  cases p with
  | tup ws q =>
    match ws with
    | [] => simp [b6, eqN, isBr, Df.run, Ss.den, S.den, E.den, Es.den, Es.bo, Es.bt, Eo.den, Eo.tst, E.tst, It.den, R.bind, R.out, R.opt, startS, slotV, slotP, W.now, cmpW, intsW, idxW, L2.atI, L2.ixN, bltW, on1, on2, ifB, Tg.den, Tgs.den, tgo, binW, addW, intW, absW, lenW, truW, tyW, isTy, E.give, E.fresh, W.isNon, lineN_small, cstV, mulW]
    | [a] => simp [b6, eqN, isBr, Df.run, Ss.den, S.den, E.den, Es.den, Es.bo, Es.bt, Eo.den, Eo.tst, E.tst, It.den, R.bind, R.out, R.opt, startS, slotV, slotP, W.now, cmpW, intsW, idxW, L2.atI, L2.ixN, bltW, on1, on2, ifB, Tg.den, Tgs.den, tgo, binW, addW, intW, absW, lenW, truW, tyW, isTy, E.give, E.fresh, W.isNon, lineN_small, cstV, mulW]
    | [a, b] => simp [b6, eqN, isBr, Df.run, Ss.den, S.den, E.den, Es.den, Es.bo, Es.bt, Eo.den, Eo.tst, E.tst, It.den, R.bind, R.out, R.opt, startS, slotV, slotP, W.now, cmpW, intsW, idxW, L2.atI, L2.ixN, bltW, on1, on2, ifB, Tg.den, Tgs.den, tgo, binW, addW, intW, absW, lenW, truW, tyW, isTy, E.give, E.fresh, W.isNon, lineN_small, cstV, mulW]
    | [a, b, c] =>
      have pa := q a (by simp)
      cases pa with
      | str s =>
        have e : ∀ t : Str, L2.eqV (.str t) (.str s) = decide (s = t) := fun t => by
          show (t == s) = decide (s = t)
          by_cases z : s = t
          · subst z; simp
          · rw [decide_eq_false z]; exact beq_false_of_ne (fun y => z y.symm)
        simp [b6, eqN, isBr, isWd, c1, c2, c3, inW, inD, W.dat, W.dats, PyData.depth, PyData.depthAll, eqvS, eqvN, Df.run, Ss.den, S.den, E.den, Es.den, Es.bo, Es.bt, Eo.den, Eo.tst, E.tst, It.den, R.bind, R.out, R.opt, startS, slotV, slotP, W.now, cmpW, intsW, idxW, L2.atI, L2.ixN, bltW, on1, on2, ifB, Tg.den, Tgs.den, tgo, binW, addW, intW, absW, lenW, truW, tyW, isTy, E.give, E.fresh, W.isNon, lineN_small, cstV, mulW]
      | _ => simp [b6, eqN, isBr, Df.run, Ss.den, S.den, E.den, Es.den, Es.bo, Es.bt, Eo.den, Eo.tst, E.tst, It.den, R.bind, R.out, R.opt, startS, slotV, slotP, W.now, cmpW, intsW, idxW, L2.atI, L2.ixN, bltW, on1, on2, ifB, Tg.den, Tgs.den, tgo, binW, addW, intW, absW, lenW, truW, tyW, isTy, E.give, E.fresh, W.isNon, lineN_small, cstV, mulW]
    | a :: b :: c :: d :: ws =>
      have e : ¬ ((ws.length : Int) + 1 + 1 + 1 + 1 = 3) := by omega
      simp [b6, eqN, isBr, e, Df.run, Ss.den, S.den, E.den, Es.den, Es.bo, Es.bt, Eo.den, Eo.tst, E.tst, It.den, R.bind, R.out, R.opt, startS, slotV, slotP, W.now, cmpW, intsW, idxW, L2.atI, L2.ixN, bltW, on1, on2, ifB, Tg.den, Tgs.den, tgo, binW, addW, intW, absW, lenW, truW, tyW, isTy, E.give, E.fresh, W.isNon, lineN_small, cstV, mulW]
  | _ => simp [b6, isBr, Df.run, Ss.den, S.den, E.den, Es.den, Es.bo, Es.bt, Eo.den, Eo.tst, E.tst, It.den, R.bind, R.out, R.opt, startS, slotV, slotP, W.now, cmpW, intsW, idxW, L2.atI, L2.ixN, bltW, on1, on2, ifB, Tg.den, Tgs.den, tgo, binW, addW, intW, absW, lenW, truW, tyW, isTy, E.give, E.fresh, W.isNon, lineN_small, cstV, mulW]
theorem t3 (p : PV w) : pg.T (k+4) 3 [w] h = .ok (.bl (isLf w)) h := by
  show Df.run ⟨"is_leaf", ["value"], 1, b3⟩ ⟨pg.T (k+3), pg.cst, pg.par⟩ [w] h = _
  have c : pg.cst "TELLING" = some (.str "count") := rfl
  cases p with
  | tup ws q =>
    match ws with
    | [] => simp [b3, eqN, isLf, Df.run, Ss.den, S.den, E.den, Es.den, Es.bo, Es.bt, Eo.den, Eo.tst, E.tst, It.den, R.bind, R.out, R.opt, startS, slotV, slotP, W.now, cmpW, intsW, idxW, L2.atI, L2.ixN, bltW, on1, on2, ifB, Tg.den, Tgs.den, tgo, binW, addW, intW, absW, lenW, truW, tyW, isTy, E.give, E.fresh, W.isNon, lineN_small, cstV, mulW]
    | [a] =>
      have pa := q a (by simp)
      cases pa with
      | str s => simp [b3, eqN, isLf, c, eqS, Df.run, Ss.den, S.den, E.den, Es.den, Es.bo, Es.bt, Eo.den, Eo.tst, E.tst, It.den, R.bind, R.out, R.opt, startS, slotV, slotP, W.now, cmpW, intsW, idxW, L2.atI, L2.ixN, bltW, on1, on2, ifB, Tg.den, Tgs.den, tgo, binW, addW, intW, absW, lenW, truW, tyW, isTy, E.give, E.fresh, W.isNon, lineN_small, cstV, mulW]
      | _ => simp [b3, eqN, isLf, Df.run, Ss.den, S.den, E.den, Es.den, Es.bo, Es.bt, Eo.den, Eo.tst, E.tst, It.den, R.bind, R.out, R.opt, startS, slotV, slotP, W.now, cmpW, intsW, idxW, L2.atI, L2.ixN, bltW, on1, on2, ifB, Tg.den, Tgs.den, tgo, binW, addW, intW, absW, lenW, truW, tyW, isTy, E.give, E.fresh, W.isNon, lineN_small, cstV, mulW]
    | [a, b] =>
      have pa := q a (by simp)
      have pb := q b (by simp)
      have e4 := t4 (k := k + 2) (h := h) pa
      have e5 := t5 (k := k) (h := h) pb
      cases pa with
      | str s =>
        by_cases hl : s = "letter"
        · subst hl
          cases pb with
          | int i => simp [b3, eqN, isLf, e4, e5, Df.run, Ss.den, S.den, E.den, Es.den, Es.bo, Es.bt, Eo.den, Eo.tst, E.tst, It.den, R.bind, R.out, R.opt, startS, slotV, slotP, W.now, cmpW, intsW, idxW, L2.atI, L2.ixN, bltW, on1, on2, ifB, Tg.den, Tgs.den, tgo, binW, addW, intW, absW, lenW, truW, tyW, isTy, E.give, E.fresh, W.isNon, lineN_small, cstV, mulW]
          | _ => simp [b3, eqN, isLf, e4, e5, Df.run, Ss.den, S.den, E.den, Es.den, Es.bo, Es.bt, Eo.den, Eo.tst, E.tst, It.den, R.bind, R.out, R.opt, startS, slotV, slotP, W.now, cmpW, intsW, idxW, L2.atI, L2.ixN, bltW, on1, on2, ifB, Tg.den, Tgs.den, tgo, binW, addW, intW, absW, lenW, truW, tyW, isTy, E.give, E.fresh, W.isNon, lineN_small, cstV, mulW]
        · cases pb with
          | int i => simp [b3, eqN, isLf, e4, e5, hl, Df.run, Ss.den, S.den, E.den, Es.den, Es.bo, Es.bt, Eo.den, Eo.tst, E.tst, It.den, R.bind, R.out, R.opt, startS, slotV, slotP, W.now, cmpW, intsW, idxW, L2.atI, L2.ixN, bltW, on1, on2, ifB, Tg.den, Tgs.den, tgo, binW, addW, intW, absW, lenW, truW, tyW, isTy, E.give, E.fresh, W.isNon, lineN_small, cstV, mulW]
          | _ => simp [b3, eqN, isLf, e4, e5, hl, Df.run, Ss.den, S.den, E.den, Es.den, Es.bo, Es.bt, Eo.den, Eo.tst, E.tst, It.den, R.bind, R.out, R.opt, startS, slotV, slotP, W.now, cmpW, intsW, idxW, L2.atI, L2.ixN, bltW, on1, on2, ifB, Tg.den, Tgs.den, tgo, binW, addW, intW, absW, lenW, truW, tyW, isTy, E.give, E.fresh, W.isNon, lineN_small, cstV, mulW]
      | _ => cases pb <;> simp [b3, eqN, isLf, e4, e5, Df.run, Ss.den, S.den, E.den, Es.den, Es.bo, Es.bt, Eo.den, Eo.tst, E.tst, It.den, R.bind, R.out, R.opt, startS, slotV, slotP, W.now, cmpW, intsW, idxW, L2.atI, L2.ixN, bltW, on1, on2, ifB, Tg.den, Tgs.den, tgo, binW, addW, intW, absW, lenW, truW, tyW, isTy, E.give, E.fresh, W.isNon, lineN_small, cstV, mulW]
    | a :: b :: c :: ws =>
      have e1 : ¬ ((ws.length : Int) + 1 + 1 + 1 = 2) := by omega
      have e2 : ¬ ((ws.length : Int) + 1 + 1 + 1 = 1) := by omega
      have e3 : ¬ ((ws.length : Int) + 1 + 1 + 1 = 0) := by omega
      simp [b3, eqN, isLf, e1, e2, e3, Df.run, Ss.den, S.den, E.den, Es.den, Es.bo, Es.bt, Eo.den, Eo.tst, E.tst, It.den, R.bind, R.out, R.opt, startS, slotV, slotP, W.now, cmpW, intsW, idxW, L2.atI, L2.ixN, bltW, on1, on2, ifB, Tg.den, Tgs.den, tgo, binW, addW, intW, absW, lenW, truW, tyW, isTy, E.give, E.fresh, W.isNon, lineN_small, cstV, mulW]
  | _ => simp [b3, isLf, Df.run, Ss.den, S.den, E.den, Es.den, Es.bo, Es.bt, Eo.den, Eo.tst, E.tst, It.den, R.bind, R.out, R.opt, startS, slotV, slotP, W.now, cmpW, intsW, idxW, L2.atI, L2.ixN, bltW, on1, on2, ifB, Tg.den, Tgs.den, tgo, binW, addW, intW, absW, lenW, truW, tyW, isTy, E.give, E.fresh, W.isNon, lineN_small, cstV, mulW]
def kb : Ss := match b7 with
  | .cons _ (.cons (.whl _ b _) _) => b
  | _ => .nil
def kc : E := match b7 with
  | .cons _ (.cons (.whl c _ _) _) => c
  | _ => .non 0 ⟨0, 0, 0, 0⟩
abbrev D7 (k : Nat) : Dn := ⟨pg.T (k + 4), pg.cst, pg.par⟩
theorem kc_len (ws : List W) (v : W) (s : Int) (o e : Sl) : kc.tst (D7 k) [.val v, .own ws, .val (.int s), o, e] h = .ok (decide (0 < ws.length)) h := by
  have z : (0 : Int) < (ws.length : Int) ↔ 0 < ws.length := by omega
  simp [kc, b7, z, Df.run, Ss.den, S.den, E.den, Es.den, Es.bo, Es.bt, Eo.den, Eo.tst, E.tst, It.den, R.bind, R.out, R.opt, startS, slotV, slotP, W.now, cmpW, intsW, idxW, L2.atI, L2.ixN, bltW, on1, on2, ifB, Tg.den, Tgs.den, tgo, binW, addW, intW, absW, lenW, truW, tyW, isTy, E.give, E.fresh, W.isNon, lineN_small, cstV, mulW]
theorem kb_top (p : PV w) (pre : List W) (hl : pre.length ≤ 500) (v : W) (s d : Int) (o e : Sl) : kb.den (D7 k) [.val v, .own (pre ++ [.tup [w, .int d]]), .val (.int s), o, e] h =
    (match decide (60 < s + 1) || decide (12 < d) with
    | true => .rt (.bl false) h
    | false => match isBr w with
      | true => (match w with
        | .tup [_, a, b] => .nx [.val v, .own (pre ++ [.tup [a, .int (d + 1)], .tup [b, .int (d + 1)]]), .val (.int (s + 1)), .val w, .val (.int d)] h
        | _ => .bad)
      | false => match isLf w with
        | true => .nx [.val v, .own pre, .val (.int (s + 1)), .val w, .val (.int d)] h
        | false => .rt (.bl false) h) := by
  have c1 : pg.cst "MOST_SIGNS" = some (.int 60) := rfl
  have c2 : pg.cst "MOST_DEEP" = some (.int 12) := rfl
  have e6 := t6 (k := k + 3) (h := h) p
  have e3 := t3 (k := k) (h := h) p
  have hl2 : lineN (pre.length + 2) = true := lineN_small (by omega)
  by_cases h1 : 60 < s + 1
  · simp [kb, b7, c1, c2, h1, Df.run, Ss.den, S.den, E.den, Es.den, Es.bo, Es.bt, Eo.den, Eo.tst, E.tst, It.den, R.bind, R.out, R.opt, startS, slotV, slotP, W.now, cmpW, intsW, idxW, L2.atI, L2.ixN, bltW, on1, on2, ifB, Tg.den, Tgs.den, tgo, binW, addW, intW, absW, lenW, truW, tyW, isTy, E.give, E.fresh, W.isNon, lineN_small, cstV, mulW]
  · by_cases h2 : 12 < d
    · simp [kb, b7, c1, c2, h1, h2, Df.run, Ss.den, S.den, E.den, Es.den, Es.bo, Es.bt, Eo.den, Eo.tst, E.tst, It.den, R.bind, R.out, R.opt, startS, slotV, slotP, W.now, cmpW, intsW, idxW, L2.atI, L2.ixN, bltW, on1, on2, ifB, Tg.den, Tgs.den, tgo, binW, addW, intW, absW, lenW, truW, tyW, isTy, E.give, E.fresh, W.isNon, lineN_small, cstV, mulW]
    · cases hb : isBr w with
      | true =>
        match w, hb with
        | .tup [.str c, a, b], hb => simp [kb, b7, c1, c2, h1, h2, e6, e3, hb, hl2, Df.run, Ss.den, S.den, E.den, Es.den, Es.bo, Es.bt, Eo.den, Eo.tst, E.tst, It.den, R.bind, R.out, R.opt, startS, slotV, slotP, W.now, cmpW, intsW, idxW, L2.atI, L2.ixN, bltW, on1, on2, ifB, Tg.den, Tgs.den, tgo, binW, addW, intW, absW, lenW, truW, tyW, isTy, E.give, E.fresh, W.isNon, lineN_small, cstV, mulW]
      | false => cases hf : isLf w <;> simp [kb, b7, c1, c2, h1, h2, e6, e3, hb, hf, Df.run, Ss.den, S.den, E.den, Es.den, Es.bo, Es.bt, Eo.den, Eo.tst, E.tst, It.den, R.bind, R.out, R.opt, startS, slotV, slotP, W.now, cmpW, intsW, idxW, L2.atI, L2.ixN, bltW, on1, on2, ifB, Tg.den, Tgs.den, tgo, binW, addW, intW, absW, lenW, truW, tyW, isTy, E.give, E.fresh, W.isNon, lineN_small, cstV, mulW]
theorem loop7 : ∀ (f : Nat) (stk : List (W × Nat)) (s : Nat) (v : W) (o e : Sl) (m : Nat), s + f = 60 → f + 1 < m → stk.length ≤ s + 1 → (∀ p ∈ stk, PV p.1 ∧ p.2 ≤ 12) →
    match good stk s with
    | true => ∃ σ, whlGo (fun σ h => kc.tst (D7 k) σ h) (fun σ h => kb.den (D7 k) σ h) m [.val v, .own (stk.map enc).reverse, .val (.int s), o, e] h = .nx σ h
    | false => whlGo (fun σ h => kc.tst (D7 k) σ h) (fun σ h => kb.den (D7 k) σ h) m [.val v, .own (stk.map enc).reverse, .val (.int s), o, e] h = .rt (.bl false) h := by
  intro f
  induction f with
  | zero =>
    intro stk s v o e m hs hm hl hp
    obtain ⟨m, rfl⟩ : ∃ m', m = m' + 1 := ⟨m - 1, by omega⟩
    cases stk with
    | nil =>
      have g : good [] s = true := by simp [good, tot]; omega
      rw [g]
      simp only [List.map_nil, List.reverse_nil]
      refine ⟨[.val v, .own [], .val (.int s), o, e], ?_⟩
      unfold whlGo
      rw [kc_len]
      rfl
    | cons p r =>
      obtain ⟨w, n⟩ := p
      have pw := (hp (w, n) List.mem_cons_self).1
      have g : good ((w, n) :: r) s = false := by
        unfold good tot
        cases q1 : K n w with
        | none => rfl
        | some x =>
          cases q2 : tot r with
          | none => rfl
          | some y =>
            have z := K_pos q1
            exact decide_eq_false (by omega)
      rw [g]
      simp only [List.map_cons, List.reverse_cons]
      unfold whlGo
      rw [kc_len]
      have hl2 : (decide (0 < ((List.map enc r).reverse ++ [enc (w, n)]).length)) = true := by simp
      rw [hl2]
      simp only
      rw [show enc (w, n) = .tup [w, .int (13 - n)] from rfl, kb_top pw _ (by simp at hl ⊢; omega)]
      have z : (decide (60 < (s : Int) + 1) || decide (12 < (13 : Int) - n)) = true := by simp; omega
      rw [z]
  | succ f ih =>
    intro stk s v o e m hs hm hl hp
    obtain ⟨m, rfl⟩ : ∃ m', m = m' + 1 := ⟨m - 1, by omega⟩
    cases stk with
    | nil =>
      have g : good [] s = true := by simp [good, tot]; omega
      rw [g]
      simp only [List.map_nil, List.reverse_nil]
      refine ⟨[.val v, .own [], .val (.int s), o, e], ?_⟩
      unfold whlGo
      rw [kc_len]
      rfl
    | cons p r =>
      obtain ⟨w, n⟩ := p
      have pw := (hp (w, n) List.mem_cons_self).1
      have hn := (hp (w, n) List.mem_cons_self).2
      have hr := fun p hp' => hp p (List.mem_cons_of_mem (w, n) hp')
      have step : ∀ (m : Nat), whlGo (fun σ h => kc.tst (D7 k) σ h) (fun σ h => kb.den (D7 k) σ h) (m + 1) [.val v, .own (((w, n) :: r).map enc).reverse, .val (.int s), o, e] h =
          (match kb.den (D7 k) [.val v, .own ((r.map enc).reverse ++ [.tup [w, .int (13 - n)]]), .val (.int s), o, e] h with
          | .nx σ h => whlGo (fun σ h => kc.tst (D7 k) σ h) (fun σ h => kb.den (D7 k) σ h) m σ h
          | .ct σ h => whlGo (fun σ h => kc.tst (D7 k) σ h) (fun σ h => kb.den (D7 k) σ h) m σ h
          | .bk σ h => .nx σ h
          | .rt w h => .rt w h
          | .exc x σ h => .exc x σ h
          | .bad => .bad) := fun m => by
        simp only [List.map_cons, List.reverse_cons]
        conv => lhs; unfold whlGo
        rw [kc_len]
        have hl2 : (decide (0 < ((List.map enc r).reverse ++ [enc (w, n)]).length)) = true := by simp
        rw [hl2]
        rfl
      rw [step, kb_top pw _ (by simp at hl ⊢; omega)]
      have l1 : decide (60 < (s : Int) + 1) = false := decide_eq_false (by omega)
      rw [l1, Bool.false_or]
      cases n with
      | zero =>
        have g : good ((w, 0) :: r) s = false := rfl
        rw [g]
        have z : decide (12 < (13 : Int) - (0 : Nat)) = true := by decide
        rw [z]
      | succ n =>
        have z : decide (12 < (13 : Int) - (n + 1 : Nat)) = false := decide_eq_false (by omega)
        rw [z]
        cases hb : isBr w with
        | true =>
          match w, hb, pw with
          | .tup [.str c, a, b], hb, pw =>
            have hw : isWd c = true := hb
            have q : ∀ x ∈ [W.str c, a, b], PV x := by cases pw with | tup _ q => exact q
            have i := ih ((b, n) :: (a, n) :: r) (s + 1) v (.val (.tup [.str c, a, b])) (.val (.int (13 - (n + 1 : Nat)))) m (by omega) (by omega) (by simp at hl ⊢; omega) (fun p hp' => by
              rcases List.mem_cons.mp hp' with rfl | hp'
              · exact ⟨q b (by simp), by omega⟩
              · rcases List.mem_cons.mp hp' with rfl | hp'
                · exact ⟨q a (by simp), by omega⟩
                · exact hr p hp')
            have g : good ((.tup [.str c, a, b], n + 1) :: r) s = good ((b, n) :: (a, n) :: r) (s + 1) := by
              have hk : K (n + 1) (.tup [.str c, a, b]) = (match K n a, K n b with | some x, some y => some (1 + x + y) | _, _ => none) := by
                have hf : isLf (.tup [.str c, a, b]) = false := by cases a <;> rfl
                conv => lhs; unfold K
                rw [hf]
                simp only [hw]
                all_goals (cases K n a <;> cases K n b <;> rfl)
              unfold good tot
              simp only [hk, tot]
              cases q1 : K n a <;> cases q2 : K n b <;> cases q3 : tot r <;> simp
              omega
            rw [g]
            have e13 : (13 : Int) - (n + 1 : Nat) + 1 = 13 - (n : Nat) := by omega
            simp only [e13]
            simp only [List.map_cons, List.reverse_cons, List.append_assoc, List.cons_append, List.nil_append, enc] at i
            have es : ((s + 1 : Nat) : Int) = (s : Int) + 1 := by omega
            rw [es] at i
            exact i
        | false =>
          cases hf : isLf w with
          | true =>
            have i := ih r (s + 1) v (.val w) (.val (.int (13 - (n + 1 : Nat)))) m (by omega) (by omega) (by simp at hl ⊢; omega) hr
            have g : good ((w, n + 1) :: r) s = good r (s + 1) := by
              have hk : K (n + 1) w = some 1 := by
                unfold K
                rw [hf]
              unfold good
              simp only [tot, hk]
              cases q3 : tot r <;> simp
              omega
            rw [g]
            have es : ((s + 1 : Nat) : Int) = (s : Int) + 1 := by omega
            rw [es] at i
            exact i
          | false =>
            have g : good ((w, n + 1) :: r) s = false := by
              have hk : K (n + 1) w = none := by
                cases q : K (n + 1) w with
                | none => rfl
                | some x =>
                  obtain ⟨c, a, b, _, _, rfl, hw, _⟩ := K_br hf q
                  have hb : isWd c = false := hb
                  rw [hw] at hb
                  cases hb
              unfold good
              simp only [tot, hk]
            rw [g]
theorem t7 (p : PV w) : pg.T (k+5) 7 [w] h = .ok (.bl (due w)) h := by
  show Df.run ⟨"is_kind", ["value", "left", "signs", "one", "deep"], 1, b7⟩ (D7 k) [w] h = _
  have l := loop7 (k := k) (h := h) 60 [(w, 12)] 0 w .non .non whlMost rfl (by decide) (by simp) (fun q hq => by
    have e : q = (w, 12) := by simpa using hq
    subst e
    exact ⟨p, by omega⟩)
  have g : good [(w, 12)] 0 = due w := by
    unfold good due
    simp only [tot]
    cases q : K 12 w <;> simp
  rw [g] at l
  have st : Ss.den (D7 k) b7 (startS 5 [w]) h = (match whlGo (fun σ h => kc.tst (D7 k) σ h) (fun σ h => kb.den (D7 k) σ h) whlMost [.val w, .own ([(w, 12)].map enc).reverse, .val (.int (0 : Nat)), .non, .non] h with
    | .nx σ h => .rt (.bl true) h
    | o => o) := rfl
  have run : Df.run ⟨"is_kind", ["value", "left", "signs", "one", "deep"], 1, b7⟩ (D7 k) [w] h = (match Ss.den (D7 k) b7 (startS 5 [w]) h with
    | .nx _ h => .ok .non h
    | .rt w h => .ok w h
    | .exc x _ h => .exc x h
    | _ => .bad) := rfl
  rw [run, st]
  cases hd : due w with
  | true =>
    rw [hd] at l
    obtain ⟨σ, l⟩ := l
    rw [l]
  | false =>
    rw [hd] at l
    rw [l]
end K14

set_option maxHeartbeats 4000000
namespace K14
open PySem Ev Mx
variable {k : Nat} {h : Obs} {w : W}
theorem cB : pg.cst "BINDS" = some (.dic BI) := rfl
theorem cK : pg.cst "WITH_KIND" = some (.tup [.str "fun", .str "left", .str "right", .str "turns"]) := rfl
theorem cN : pg.cst "NAME" = some (.str "name") := rfl
theorem cT : pg.cst "TOLD" = some (.str "told") := rfl
theorem cO : pg.cst "MOST_OUT" = some (.int 299) := rfl
theorem cM : pg.cst "MOST_TOLD" = some (.int 1000000) := rfl
theorem t8 (p : PV w) : pg.T (k+6) 8 [w] h = .ok (.bl (nd w)) h := by
  show Df.run ⟨"is_node", ["value"], 1, b8⟩ ⟨pg.T (k+5), pg.cst, pg.par⟩ [w] h = _
  cases p with
  | tup ws q =>
    match ws with
    | [] => simp [b8, eqN, nd, Df.run, Ss.den, S.den, E.den, Es.den, Es.bo, Es.bt, Eo.den, Eo.tst, E.tst, It.den, R.bind, R.out, R.opt, startS, slotV, slotP, W.now, cmpW, intsW, idxW, L2.atI, L2.ixN, bltW, on1, on2, ifB, Tg.den, Tgs.den, tgo, binW, addW, intW, absW, lenW, truW, tyW, isTy, E.give, E.fresh, W.isNon, lineN_small, cstV, mulW]
    | a :: r =>
      have pa := q a (by simp)
      have e0 : ¬ ((r.length : Int) + 1 = 0) := by omega
      cases pa with
      | str s =>
        cases hd : (dicGet BI s).isSome with
        | false => simp [b8, eqN, e0, cB, hd, nd, Df.run, Ss.den, S.den, E.den, Es.den, Es.bo, Es.bt, Eo.den, Eo.tst, E.tst, It.den, R.bind, R.out, R.opt, startS, slotV, slotP, W.now, cmpW, intsW, idxW, L2.atI, L2.ixN, bltW, on1, on2, ifB, Tg.den, Tgs.den, tgo, binW, addW, intW, absW, lenW, truW, tyW, isTy, E.give, E.fresh, W.isNon, lineN_small, cstV, mulW]
        | true =>
          cases hk : isKw s with
          | true =>
            have hk' := hk
            unfold isKw at hk'
            match r with
            | [] => simp [b8, eqN, cB, hd, nd, cK, inW, inD, W.dat, W.dats, PyData.depth, PyData.depthAll, eqvS, eqvN, isKw, hk, hk', Df.run, Ss.den, S.den, E.den, Es.den, Es.bo, Es.bt, Eo.den, Eo.tst, E.tst, It.den, R.bind, R.out, R.opt, startS, slotV, slotP, W.now, cmpW, intsW, idxW, L2.atI, L2.ixN, bltW, on1, on2, ifB, Tg.den, Tgs.den, tgo, binW, addW, intW, absW, lenW, truW, tyW, isTy, E.give, E.fresh, W.isNon, lineN_small, cstV, mulW]
            | [x] =>
              have e7 := t7 (k := k) (h := h) (q x (by simp))
              simp [b8, eqN, cB, hd, nd, cK, inW, inD, W.dat, W.dats, PyData.depth, PyData.depthAll, eqvS, eqvN, isKw, hk, hk', e7, Df.run, Ss.den, S.den, E.den, Es.den, Es.bo, Es.bt, Eo.den, Eo.tst, E.tst, It.den, R.bind, R.out, R.opt, startS, slotV, slotP, W.now, cmpW, intsW, idxW, L2.atI, L2.ixN, bltW, on1, on2, ifB, Tg.den, Tgs.den, tgo, binW, addW, intW, absW, lenW, truW, tyW, isTy, E.give, E.fresh, W.isNon, lineN_small, cstV, mulW]
            | x :: y :: r =>
              have e2 : ¬ ((r.length : Int) + 1 + 1 + 1 = 2) := by omega
              have e0 : ¬ ((r.length : Int) + 1 + 1 + 1 = 0) := by omega
              have ep : (0 : Int) < (r.length : Int) + 1 + 1 + 1 := by omega
              simp [b8, eqN, cB, hd, nd, cK, inW, inD, W.dat, W.dats, PyData.depth, PyData.depthAll, eqvS, eqvN, isKw, hk, hk', e0, e2, ep, Df.run, Ss.den, S.den, E.den, Es.den, Es.bo, Es.bt, Eo.den, Eo.tst, E.tst, It.den, R.bind, R.out, R.opt, startS, slotV, slotP, W.now, cmpW, intsW, idxW, L2.atI, L2.ixN, bltW, on1, on2, ifB, Tg.den, Tgs.den, tgo, binW, addW, intW, absW, lenW, truW, tyW, isTy, E.give, E.fresh, W.isNon, lineN_small, cstV, mulW]
          | false =>
            have hk' := hk
            unfold isKw at hk'
            by_cases hn : s = "name"
            · subst hn
              match r with
              | [] => simp [b8, eqN, cB, hd, nd, cK, cN, inW, inD, W.dat, W.dats, PyData.depth, PyData.depthAll, eqvS, eqvN, isKw, hk', eqS, Df.run, Ss.den, S.den, E.den, Es.den, Es.bo, Es.bt, Eo.den, Eo.tst, E.tst, It.den, R.bind, R.out, R.opt, startS, slotV, slotP, W.now, cmpW, intsW, idxW, L2.atI, L2.ixN, bltW, on1, on2, ifB, Tg.den, Tgs.den, tgo, binW, addW, intW, absW, lenW, truW, tyW, isTy, E.give, E.fresh, W.isNon, lineN_small, cstV, mulW]
              | [x] =>
                have px := q x (by simp)
                have e1 := t1 (k := k + 3) (h := h) px
                cases px with
                | int i => by_cases hi : 0 ≤ i <;> simp [b8, eqN, cB, hd, nd, cK, cN, cO, inW, inD, W.dat, W.dats, PyData.depth, PyData.depthAll, eqvS, eqvN, isKw, hk', eqS, e1, upC, isCn, hi, Df.run, Ss.den, S.den, E.den, Es.den, Es.bo, Es.bt, Eo.den, Eo.tst, E.tst, It.den, R.bind, R.out, R.opt, startS, slotV, slotP, W.now, cmpW, intsW, idxW, L2.atI, L2.ixN, bltW, on1, on2, ifB, Tg.den, Tgs.den, tgo, binW, addW, intW, absW, lenW, truW, tyW, isTy, E.give, E.fresh, W.isNon, lineN_small, cstV, mulW]
                | _ => simp [b8, eqN, cB, hd, nd, cK, cN, cO, inW, inD, W.dat, W.dats, PyData.depth, PyData.depthAll, eqvS, eqvN, isKw, hk', eqS, e1, upC, isCn, Df.run, Ss.den, S.den, E.den, Es.den, Es.bo, Es.bt, Eo.den, Eo.tst, E.tst, It.den, R.bind, R.out, R.opt, startS, slotV, slotP, W.now, cmpW, intsW, idxW, L2.atI, L2.ixN, bltW, on1, on2, ifB, Tg.den, Tgs.den, tgo, binW, addW, intW, absW, lenW, truW, tyW, isTy, E.give, E.fresh, W.isNon, lineN_small, cstV, mulW]
              | x :: y :: r =>
                have e2 : ¬ ((r.length : Int) + 1 + 1 + 1 = 2) := by omega
                have e0 : ¬ ((r.length : Int) + 1 + 1 + 1 = 0) := by omega
                have ep : (0 : Int) < (r.length : Int) + 1 + 1 + 1 := by omega
                simp [b8, eqN, cB, hd, nd, cK, cN, inW, inD, W.dat, W.dats, PyData.depth, PyData.depthAll, eqvS, eqvN, isKw, hk', eqS, e0, e2, ep, Df.run, Ss.den, S.den, E.den, Es.den, Es.bo, Es.bt, Eo.den, Eo.tst, E.tst, It.den, R.bind, R.out, R.opt, startS, slotV, slotP, W.now, cmpW, intsW, idxW, L2.atI, L2.ixN, bltW, on1, on2, ifB, Tg.den, Tgs.den, tgo, binW, addW, intW, absW, lenW, truW, tyW, isTy, E.give, E.fresh, W.isNon, lineN_small, cstV, mulW]
            · by_cases ht : s = "told"
              · subst ht
                match r with
                | [] => simp [b8, eqN, cB, hd, nd, cK, cN, cT, inW, inD, W.dat, W.dats, PyData.depth, PyData.depthAll, eqvS, eqvN, isKw, hk', eqS, eqS, hn, Df.run, Ss.den, S.den, E.den, Es.den, Es.bo, Es.bt, Eo.den, Eo.tst, E.tst, It.den, R.bind, R.out, R.opt, startS, slotV, slotP, W.now, cmpW, intsW, idxW, L2.atI, L2.ixN, bltW, on1, on2, ifB, Tg.den, Tgs.den, tgo, binW, addW, intW, absW, lenW, truW, tyW, isTy, E.give, E.fresh, W.isNon, lineN_small, cstV, mulW]
                | [x] =>
                  have px := q x (by simp)
                  have e1 := t1 (k := k + 3) (h := h) px
                  cases px with
                  | int i => by_cases hi : 0 ≤ i <;> simp [b8, eqN, cB, hd, nd, cK, cN, cT, cM, inW, inD, W.dat, W.dats, PyData.depth, PyData.depthAll, eqvS, eqvN, isKw, hk', eqS, eqS, hn, e1, upC, isCn, hi, Df.run, Ss.den, S.den, E.den, Es.den, Es.bo, Es.bt, Eo.den, Eo.tst, E.tst, It.den, R.bind, R.out, R.opt, startS, slotV, slotP, W.now, cmpW, intsW, idxW, L2.atI, L2.ixN, bltW, on1, on2, ifB, Tg.den, Tgs.den, tgo, binW, addW, intW, absW, lenW, truW, tyW, isTy, E.give, E.fresh, W.isNon, lineN_small, cstV, mulW]
                  | _ => simp [b8, eqN, cB, hd, nd, cK, cN, cT, cM, inW, inD, W.dat, W.dats, PyData.depth, PyData.depthAll, eqvS, eqvN, isKw, hk', eqS, eqS, hn, e1, upC, isCn, Df.run, Ss.den, S.den, E.den, Es.den, Es.bo, Es.bt, Eo.den, Eo.tst, E.tst, It.den, R.bind, R.out, R.opt, startS, slotV, slotP, W.now, cmpW, intsW, idxW, L2.atI, L2.ixN, bltW, on1, on2, ifB, Tg.den, Tgs.den, tgo, binW, addW, intW, absW, lenW, truW, tyW, isTy, E.give, E.fresh, W.isNon, lineN_small, cstV, mulW]
                | x :: y :: r =>
                  have e2 : ¬ ((r.length : Int) + 1 + 1 + 1 = 2) := by omega
                  have e0 : ¬ ((r.length : Int) + 1 + 1 + 1 = 0) := by omega
                  have ep : (0 : Int) < (r.length : Int) + 1 + 1 + 1 := by omega
                  simp [b8, eqN, cB, hd, nd, cK, cN, cT, inW, inD, W.dat, W.dats, PyData.depth, PyData.depthAll, eqvS, eqvN, isKw, hk', eqS, eqS, hn, e0, e2, ep, Df.run, Ss.den, S.den, E.den, Es.den, Es.bo, Es.bt, Eo.den, Eo.tst, E.tst, It.den, R.bind, R.out, R.opt, startS, slotV, slotP, W.now, cmpW, intsW, idxW, L2.atI, L2.ixN, bltW, on1, on2, ifB, Tg.den, Tgs.den, tgo, binW, addW, intW, absW, lenW, truW, tyW, isTy, E.give, E.fresh, W.isNon, lineN_small, cstV, mulW]
              · have e1 : ((r.length : Int) + 1 = 1) ↔ r = [] := by cases r <;> simp <;> omega
                simp [b8, eqN, cB, hd, hk, nd, cK, cN, cT, inW, inD, W.dat, W.dats, PyData.depth, PyData.depthAll, eqvS, eqvN, hk', eqS, eqS, hn, ht, e0, e1, Df.run, Ss.den, S.den, E.den, Es.den, Es.bo, Es.bt, Eo.den, Eo.tst, E.tst, It.den, R.bind, R.out, R.opt, startS, slotV, slotP, W.now, cmpW, intsW, idxW, L2.atI, L2.ixN, bltW, on1, on2, ifB, Tg.den, Tgs.den, tgo, binW, addW, intW, absW, lenW, truW, tyW, isTy, E.give, E.fresh, W.isNon, lineN_small, cstV, mulW]
      | _ => simp [b8, eqN, e0, nd, Df.run, Ss.den, S.den, E.den, Es.den, Es.bo, Es.bt, Eo.den, Eo.tst, E.tst, It.den, R.bind, R.out, R.opt, startS, slotV, slotP, W.now, cmpW, intsW, idxW, L2.atI, L2.ixN, bltW, on1, on2, ifB, Tg.den, Tgs.den, tgo, binW, addW, intW, absW, lenW, truW, tyW, isTy, E.give, E.fresh, W.isNon, lineN_small, cstV, mulW]
  | _ => simp [b8, nd, Df.run, Ss.den, S.den, E.den, Es.den, Es.bo, Es.bt, Eo.den, Eo.tst, E.tst, It.den, R.bind, R.out, R.opt, startS, slotV, slotP, W.now, cmpW, intsW, idxW, L2.atI, L2.ixN, bltW, on1, on2, ifB, Tg.den, Tgs.den, tgo, binW, addW, intW, absW, lenW, truW, tyW, isTy, E.give, E.fresh, W.isNon, lineN_small, cstV, mulW]
def f9 : Ss := match b9 with
  | .cons _ (.cons (.for _ _ b _) _) => b
  | _ => .nil
def g9 : Tg := match b9 with
  | .cons _ (.cons (.for t _ _ _) _) => t
  | _ => .tup .nil 0 ⟨0, 0, 0, 0⟩
def r9 : Ss := match b9 with
  | .cons _ (.cons _ r) => r
  | _ => .nil
theorem body9 {v : W} {n : Nat} (e : nd w = true) : f9.den ⟨pg.T k, pg.cst, pg.par⟩ [v', .val (.int n), .val w] h = (match n with
    | 0 => .rt (.bl false) h
    | m + 1 => .nx [v', .val (.int (m + ar w : Nat)), .val w] h) := by
  obtain ⟨s, r, ws, rfl, hd, ha⟩ := nd_get e
  obtain ⟨_, e1, hl⟩ := bi_tup hd
  cases e1
  have hl2 : lineN ws.length = true := lineN_small (by omega)
  rw [ha]
  cases n with
  | zero => simp [f9, b9, eqN, Df.run, Ss.den, S.den, E.den, Es.den, Es.bo, Es.bt, Eo.den, Eo.tst, E.tst, It.den, R.bind, R.out, R.opt, startS, slotV, slotP, W.now, cmpW, intsW, idxW, L2.atI, L2.ixN, bltW, on1, on2, ifB, Tg.den, Tgs.den, tgo, binW, addW, intW, absW, lenW, truW, tyW, isTy, E.give, E.fresh, W.isNon, lineN_small, cstV, mulW]
  | succ m =>
    have z : ¬ ((m : Int) + 1 = 0) := by omega
    have z2 : (m : Int) + 1 - 1 + (ws.length : Int) = (m : Int) + ws.length := by omega
    simp [f9, b9, eqN, cB, hd, z, hl2, Df.run, Ss.den, S.den, E.den, Es.den, Es.bo, Es.bt, Eo.den, Eo.tst, E.tst, It.den, R.bind, R.out, R.opt, startS, slotV, slotP, W.now, cmpW, intsW, idxW, L2.atI, L2.ixN, bltW, on1, on2, ifB, Tg.den, Tgs.den, tgo, binW, addW, intW, absW, lenW, truW, tyW, isTy, E.give, E.fresh, W.isNon, lineN_small, cstV, mulW]
theorem loop9 {v' : Sl} : ∀ (ns : List W) (n : Nat) (o : Sl), NDs ns → (match need ns n with
    | some [] => ∃ o1, forGo (fun w σ h => g9.den ⟨pg.T k, pg.cst, pg.par⟩ w σ h) (fun σ h => f9.den ⟨pg.T k, pg.cst, pg.par⟩ σ h) ns [v', .val (.int n), o] h = .nx [v', .val (.int (0 : Nat)), o1] h
    | some (_ :: _) => forGo (fun w σ h => g9.den ⟨pg.T k, pg.cst, pg.par⟩ w σ h) (fun σ h => f9.den ⟨pg.T k, pg.cst, pg.par⟩ σ h) ns [v', .val (.int n), o] h = .rt (.bl false) h
    | none => ∃ m o1, forGo (fun w σ h => g9.den ⟨pg.T k, pg.cst, pg.par⟩ w σ h) (fun σ h => f9.den ⟨pg.T k, pg.cst, pg.par⟩ σ h) ns [v', .val (.int n), o] h = .nx [v', .val (.int (m + 1 : Nat)), o1] h)
  | [], 0, o, _ => ⟨o, rfl⟩
  | [], n + 1, o, _ => ⟨n, o, rfl⟩
  | a :: r, 0, o, q => by
    show forGo _ _ (a :: r) _ h = _
    unfold forGo
    have put : g9.den ⟨pg.T k, pg.cst, pg.par⟩ a [v', .val (.int (0 : Nat)), o] h = .ok [v', .val (.int (0 : Nat)), .val a] h := rfl
    simp only [put]
    rw [body9 (v := .non) (q a List.mem_cons_self)]
  | a :: r, n + 1, o, q => by
    have ih := loop9 (v' := v') r (n + ar a) (.val a) (fun w hw => q w (List.mem_cons_of_mem _ hw))
    have st : forGo (fun w σ h => g9.den ⟨pg.T k, pg.cst, pg.par⟩ w σ h) (fun σ h => f9.den ⟨pg.T k, pg.cst, pg.par⟩ σ h) (a :: r) [v', .val (.int (n + 1 : Nat)), o] h = forGo (fun w σ h => g9.den ⟨pg.T k, pg.cst, pg.par⟩ w σ h) (fun σ h => f9.den ⟨pg.T k, pg.cst, pg.par⟩ σ h) r [v', .val (.int (n + ar a : Nat)), .val a] h := by
      conv => lhs; unfold forGo
      have put : g9.den ⟨pg.T k, pg.cst, pg.par⟩ a [v', .val (.int (n + 1 : Nat)), o] h = .ok [v', .val (.int (n + 1 : Nat)), .val a] h := rfl
      simp only [put]
      rw [body9 (v := .non) (q a List.mem_cons_self)]
    rw [st]
    exact ih
theorem t9 {ns : List W} (hw : w = .lst ns ∨ w = .tup ns) (q : NDs ns) : pg.T (k+1) 9 [w] h = .ok (.bl (full (need ns 1))) h := by
  have run : pg.T (k+1) 9 [w] h = (match Ss.den ⟨pg.T k, pg.cst, pg.par⟩ b9 (startS 3 [w]) h with
    | .nx _ h => .ok .non h
    | .rt w h => .ok w h
    | .exc x _ h => .exc x h
    | _ => .bad) := rfl
  have st : Ss.den ⟨pg.T k, pg.cst, pg.par⟩ b9 (startS 3 [w]) h = (match forGo (fun w σ h => g9.den ⟨pg.T k, pg.cst, pg.par⟩ w σ h) (fun σ h => f9.den ⟨pg.T k, pg.cst, pg.par⟩ σ h) ns [.val w, .val (.int (1 : Nat)), .non] h with
    | .nx σ h => r9.den ⟨pg.T k, pg.cst, pg.par⟩ σ h
    | o => o) := by
    rcases hw with rfl | rfl <;> rfl
  have l := loop9 (k := k) (h := h) (v' := .val w) ns 1 .non q
  rw [run, st]
  cases hn : need ns 1 with
  | none =>
    rw [hn] at l
    obtain ⟨m, o1, e⟩ := l
    have z : ¬ ((m : Int) + 1 = 0) := by omega
    rw [e]
    simp [r9, b9, eqN, z, full, Df.run, Ss.den, S.den, E.den, Es.den, Es.bo, Es.bt, Eo.den, Eo.tst, E.tst, It.den, R.bind, R.out, R.opt, startS, slotV, slotP, W.now, cmpW, intsW, idxW, L2.atI, L2.ixN, bltW, on1, on2, ifB, Tg.den, Tgs.den, tgo, binW, addW, intW, absW, lenW, truW, tyW, isTy, E.give, E.fresh, W.isNon, lineN_small, cstV, mulW]
  | some x =>
    rw [hn] at l
    cases x with
    | nil =>
      obtain ⟨o1, e⟩ := l
      rw [e]
      simp [r9, b9, eqN, full, Df.run, Ss.den, S.den, E.den, Es.den, Es.bo, Es.bt, Eo.den, Eo.tst, E.tst, It.den, R.bind, R.out, R.opt, startS, slotV, slotP, W.now, cmpW, intsW, idxW, L2.atI, L2.ixN, bltW, on1, on2, ifB, Tg.den, Tgs.den, tgo, binW, addW, intW, absW, lenW, truW, tyW, isTy, E.give, E.fresh, W.isNon, lineN_small, cstV, mulW]
    | cons a r =>
      have e := l
      rw [e]
      rfl
theorem t10 (p : PV w) (hl : ∀ ns, parts w = some ns → ns.length ≤ 1000) : pg.T (k+7) 10 [w] h = .ok (.bl (tm w)) h := by
  show Df.run ⟨"is_term", ["value", "node"], 1, b10⟩ ⟨pg.T (k+6), pg.cst, pg.par⟩ [w] h = _
  have e2 := t2 (k := k + 5) (h := h) p
  have c : pg.cst "MOST_NODES" = some (.int 300) := rfl
  cases hp : parts w with
  | none =>
    have z : isLs w = false := by cases w <;> first | rfl | cases hp
    rw [z] at e2
    have zt : tm w = false := by unfold tm; rw [hp]
    rw [zt]
    simp [b10, e2, Df.run, Ss.den, S.den, E.den, Es.den, Es.bo, Es.bt, Eo.den, Eo.tst, E.tst, It.den, R.bind, R.out, R.opt, startS, slotV, slotP, W.now, cmpW, intsW, idxW, L2.atI, L2.ixN, bltW, on1, on2, ifB, Tg.den, Tgs.den, tgo, binW, addW, intW, absW, lenW, truW, tyW, isTy, E.give, E.fresh, W.isNon, lineN_small, cstV, mulW]
  | some ns =>
    have hl := hl ns hp
    have hw : w = .lst ns ∨ w = .tup ns := by cases w <;> first | (cases hp; simp) | cases hp
    have z : isLs w = true := by rcases hw with rfl | rfl <;> rfl
    have pn : ∀ x ∈ ns, PV x := by
      rcases hw with rfl | rfl
      · cases p with | lst _ q => exact q
      · cases p with | tup _ q => exact q
    rw [z] at e2
    have zt : tm w = (decide (1 ≤ ns.length) && (decide (ns.length ≤ 300) && (ns.all nd && full (need ns 1)))) := by unfold tm; rw [hp]
    rw [zt]
    have hln : lineN ns.length = true := lineN_small hl
    have i1 : (1 : Int) ≤ (ns.length : Int) ↔ 1 ≤ ns.length := by omega
    have i2 : (ns.length : Int) ≤ 300 ↔ ns.length ≤ 300 := by omega
    by_cases h1 : 1 ≤ ns.length
    · by_cases h2 : ns.length ≤ 300
      · have elc := fun x p1 p2 p3 y p4 z p5 sc p6 => lcCall (D := ⟨pg.T (k+6), pg.cst, pg.par⟩) (σ := [.val w, .non]) (h := h) (b := true) (f := 8) (i := 1) (j := 0) (ws := ns) (g := fun w => W.bl (nd w)) x p1 p2 p3 y p4 z p5 sc p6 (by rcases hw with rfl | rfl; exact .inl rfl; exact .inr rfl) (fun x hx => t8 (k := k) (pn x hx)) rfl (Nat.lt_succ_self 1) (by omega)
        have run : Df.run ⟨"is_term", ["value", "node"], 1, b10⟩ ⟨pg.T (k+6), pg.cst, pg.par⟩ [w] h = (match Ss.den ⟨pg.T (k+6), pg.cst, pg.par⟩ b10 [.val w, .non] h with
          | .nx _ h => .ok .non h
          | .rt w h => .ok w h
          | .exc x _ h => .exc x h
          | _ => .bad) := rfl
        rw [run]
        have hal := allW_map nd ns
        cases ha : ns.all nd with
        | true =>
          have q : NDs ns := fun w hw => List.all_eq_true.mp ha w hw
          have e9 := t9 (k := k + 5) (h := h) hw q
          rcases hw with rfl | rfl <;> simp [b10, e2, c, h1, h2, i1, i2, hln, ↓elc, hal, ha, e9, -List.all_eq_true, -List.all_map, Df.run, Ss.den, S.den, E.den, Es.den, Es.bo, Es.bt, Eo.den, Eo.tst, E.tst, It.den, R.bind, R.out, R.opt, startS, slotV, slotP, W.now, cmpW, intsW, idxW, L2.atI, L2.ixN, bltW, on1, on2, ifB, Tg.den, Tgs.den, tgo, binW, addW, intW, absW, lenW, truW, tyW, isTy, E.give, E.fresh, W.isNon, lineN_small, cstV, mulW]
        | false => rcases hw with rfl | rfl <;> simp [b10, e2, c, h1, h2, i1, i2, hln, ↓elc, hal, ha, -List.all_eq_true, -List.all_map, -List.all_eq_false, Df.run, Ss.den, S.den, E.den, Es.den, Es.bo, Es.bt, Eo.den, Eo.tst, E.tst, It.den, R.bind, R.out, R.opt, startS, slotV, slotP, W.now, cmpW, intsW, idxW, L2.atI, L2.ixN, bltW, on1, on2, ifB, Tg.den, Tgs.den, tgo, binW, addW, intW, absW, lenW, truW, tyW, isTy, E.give, E.fresh, W.isNon, lineN_small, cstV, mulW]
      · rcases hw with rfl | rfl <;> simp [b10, e2, c, h1, h2, i1, i2, hln, Df.run, Ss.den, S.den, E.den, Es.den, Es.bo, Es.bt, Eo.den, Eo.tst, E.tst, It.den, R.bind, R.out, R.opt, startS, slotV, slotP, W.now, cmpW, intsW, idxW, L2.atI, L2.ixN, bltW, on1, on2, ifB, Tg.den, Tgs.den, tgo, binW, addW, intW, absW, lenW, truW, tyW, isTy, E.give, E.fresh, W.isNon, lineN_small, cstV, mulW]
    · rcases hw with rfl | rfl <;> simp [b10, e2, c, h1, i1, hln, Df.run, Ss.den, S.den, E.den, Es.den, Es.bo, Es.bt, Eo.den, Eo.tst, E.tst, It.den, R.bind, R.out, R.opt, startS, slotV, slotP, W.now, cmpW, intsW, idxW, L2.atI, L2.ixN, bltW, on1, on2, ifB, Tg.den, Tgs.den, tgo, binW, addW, intW, absW, lenW, truW, tyW, isTy, E.give, E.fresh, W.isNon, lineN_small, cstV, mulW]
end K14

set_option maxHeartbeats 4000000
namespace K14
open PySem Ev Mx
variable {k : Nat} {h : Obs} {w : W}
theorem t18 (p : PV w) (m : Int) : pg.T (k+1) 18 [w, .int m] h = .ok (.bl (upC m w)) h := by
  show Df.run ⟨"_law_is_count", ["_law_value", "_law_most"], 2, b18⟩ ⟨pg.T k, pg.cst, pg.par⟩ [w, .int m] h = _
  cases p with
  | int i => by_cases hi : 0 ≤ i <;> simp [b18, upC, hi, Df.run, Ss.den, S.den, E.den, Es.den, Es.bo, Es.bt, Eo.den, Eo.tst, E.tst, It.den, R.bind, R.out, R.opt, startS, slotV, slotP, W.now, cmpW, intsW, idxW, L2.atI, L2.ixN, bltW, on1, on2, ifB, Tg.den, Tgs.den, tgo, binW, addW, intW, absW, lenW, truW, tyW, isTy, E.give, E.fresh, W.isNon, lineN_small, cstV, mulW]
  | _ => simp [b18, upC, Df.run, Ss.den, S.den, E.den, Es.den, Es.bo, Es.bt, Eo.den, Eo.tst, E.tst, It.den, R.bind, R.out, R.opt, startS, slotV, slotP, W.now, cmpW, intsW, idxW, L2.atI, L2.ixN, bltW, on1, on2, ifB, Tg.den, Tgs.den, tgo, binW, addW, intW, absW, lenW, truW, tyW, isTy, E.give, E.fresh, W.isNon, lineN_small, cstV, mulW]
theorem t19 (p : PV w) : pg.T (k+6) 19 [w] h = .ok (.bl (nd w)) h := by
  show Df.run ⟨"_law_is_node", ["_law_node"], 1, b19⟩ ⟨pg.T (k+5), pg.cst, pg.par⟩ [w] h = _
  have l2 : lineN 2 = true := lineN_small (by omega)
  have l4 : lineN 4 = true := lineN_small (by omega)
  have l7 : lineN 7 = true := lineN_small (by omega)
  cases p with
  | tup ws q =>
    match ws with
    | [] => simp [b19, eqN, nd, Df.run, Ss.den, S.den, E.den, Es.den, Es.bo, Es.bt, Eo.den, Eo.tst, E.tst, It.den, R.bind, R.out, R.opt, startS, slotV, slotP, W.now, cmpW, intsW, idxW, L2.atI, L2.ixN, bltW, on1, on2, ifB, Tg.den, Tgs.den, tgo, binW, addW, intW, absW, lenW, truW, tyW, isTy, E.give, E.fresh, W.isNon, lineN_small, cstV, mulW]
    | a :: r =>
      have pa := q a (by simp)
      have e0 : ¬ ((r.length : Int) + 1 = 0) := by omega
      cases pa with
      | str s =>
        cases hk : isKw s with
        | true =>
          have hd := kw_in hk
          have hk' := hk
          unfold isKw at hk'
          match r with
          | [] => simp [b19, eqN, hd, nd, inW, inD, W.dat, W.dats, PyData.depth, PyData.depthAll, eqvS, eqvN, hk, hk', l4, Df.run, Ss.den, S.den, E.den, Es.den, Es.bo, Es.bt, Eo.den, Eo.tst, E.tst, It.den, R.bind, R.out, R.opt, startS, slotV, slotP, W.now, cmpW, intsW, idxW, L2.atI, L2.ixN, bltW, on1, on2, ifB, Tg.den, Tgs.den, tgo, binW, addW, intW, absW, lenW, truW, tyW, isTy, E.give, E.fresh, W.isNon, lineN_small, cstV, mulW]
          | [x] =>
            have e7 := t7 (k := k) (h := h) (q x (by simp))
            simp [b19, eqN, hd, nd, inW, inD, W.dat, W.dats, PyData.depth, PyData.depthAll, eqvS, eqvN, hk, hk', e7, l4, Df.run, Ss.den, S.den, E.den, Es.den, Es.bo, Es.bt, Eo.den, Eo.tst, E.tst, It.den, R.bind, R.out, R.opt, startS, slotV, slotP, W.now, cmpW, intsW, idxW, L2.atI, L2.ixN, bltW, on1, on2, ifB, Tg.den, Tgs.den, tgo, binW, addW, intW, absW, lenW, truW, tyW, isTy, E.give, E.fresh, W.isNon, lineN_small, cstV, mulW]
          | x :: y :: r =>
            have e2 : ¬ ((r.length : Int) + 1 + 1 + 1 = 2) := by omega
            have e0 : ¬ ((r.length : Int) + 1 + 1 + 1 = 0) := by omega
            have ep : (0 : Int) < (r.length : Int) + 1 + 1 + 1 := by omega
            simp [b19, eqN, hd, nd, inW, inD, W.dat, W.dats, PyData.depth, PyData.depthAll, eqvS, eqvN, hk, hk', e0, e2, ep, l4, Df.run, Ss.den, S.den, E.den, Es.den, Es.bo, Es.bt, Eo.den, Eo.tst, E.tst, It.den, R.bind, R.out, R.opt, startS, slotV, slotP, W.now, cmpW, intsW, idxW, L2.atI, L2.ixN, bltW, on1, on2, ifB, Tg.den, Tgs.den, tgo, binW, addW, intW, absW, lenW, truW, tyW, isTy, E.give, E.fresh, W.isNon, lineN_small, cstV, mulW]
        | false =>
          have hk' := hk
          unfold isKw at hk'
          by_cases hn : s = "name"
          · subst hn
            have hd := nm_in.1
            match r with
            | [] => simp [b19, eqN, hd, nd, inW, inD, W.dat, W.dats, PyData.depth, PyData.depthAll, eqvS, eqvN, hk, hk', l2, l4, Df.run, Ss.den, S.den, E.den, Es.den, Es.bo, Es.bt, Eo.den, Eo.tst, E.tst, It.den, R.bind, R.out, R.opt, startS, slotV, slotP, W.now, cmpW, intsW, idxW, L2.atI, L2.ixN, bltW, on1, on2, ifB, Tg.den, Tgs.den, tgo, binW, addW, intW, absW, lenW, truW, tyW, isTy, E.give, E.fresh, W.isNon, lineN_small, cstV, mulW]
            | [x] =>
              have e18 := t18 (k := k + 4) (h := h) (q x (by simp)) 299
              simp [b19, eqN, hd, nd, inW, inD, W.dat, W.dats, PyData.depth, PyData.depthAll, eqvS, eqvN, hk, hk', eqS, e18, l2, l4, Df.run, Ss.den, S.den, E.den, Es.den, Es.bo, Es.bt, Eo.den, Eo.tst, E.tst, It.den, R.bind, R.out, R.opt, startS, slotV, slotP, W.now, cmpW, intsW, idxW, L2.atI, L2.ixN, bltW, on1, on2, ifB, Tg.den, Tgs.den, tgo, binW, addW, intW, absW, lenW, truW, tyW, isTy, E.give, E.fresh, W.isNon, lineN_small, cstV, mulW]
            | x :: y :: r =>
              have e2 : ¬ ((r.length : Int) + 1 + 1 + 1 = 2) := by omega
              have e0 : ¬ ((r.length : Int) + 1 + 1 + 1 = 0) := by omega
              have ep : (0 : Int) < (r.length : Int) + 1 + 1 + 1 := by omega
              simp [b19, eqN, hd, nd, inW, inD, W.dat, W.dats, PyData.depth, PyData.depthAll, eqvS, eqvN, hk, hk', e0, e2, ep, l2, l4, Df.run, Ss.den, S.den, E.den, Es.den, Es.bo, Es.bt, Eo.den, Eo.tst, E.tst, It.den, R.bind, R.out, R.opt, startS, slotV, slotP, W.now, cmpW, intsW, idxW, L2.atI, L2.ixN, bltW, on1, on2, ifB, Tg.den, Tgs.den, tgo, binW, addW, intW, absW, lenW, truW, tyW, isTy, E.give, E.fresh, W.isNon, lineN_small, cstV, mulW]
          · by_cases ht : s = "told"
            · subst ht
              have hd := nm_in.2
              match r with
              | [] => simp [b19, eqN, hd, nd, inW, inD, W.dat, W.dats, PyData.depth, PyData.depthAll, eqvS, eqvN, hk, hk', hn, l2, l4, Df.run, Ss.den, S.den, E.den, Es.den, Es.bo, Es.bt, Eo.den, Eo.tst, E.tst, It.den, R.bind, R.out, R.opt, startS, slotV, slotP, W.now, cmpW, intsW, idxW, L2.atI, L2.ixN, bltW, on1, on2, ifB, Tg.den, Tgs.den, tgo, binW, addW, intW, absW, lenW, truW, tyW, isTy, E.give, E.fresh, W.isNon, lineN_small, cstV, mulW]
              | [x] =>
                have e18 := t18 (k := k + 4) (h := h) (q x (by simp)) 1000000
                simp [b19, eqN, hd, nd, inW, inD, W.dat, W.dats, PyData.depth, PyData.depthAll, eqvS, eqvN, hk, hk', eqS, hn, e18, l2, l4, Df.run, Ss.den, S.den, E.den, Es.den, Es.bo, Es.bt, Eo.den, Eo.tst, E.tst, It.den, R.bind, R.out, R.opt, startS, slotV, slotP, W.now, cmpW, intsW, idxW, L2.atI, L2.ixN, bltW, on1, on2, ifB, Tg.den, Tgs.den, tgo, binW, addW, intW, absW, lenW, truW, tyW, isTy, E.give, E.fresh, W.isNon, lineN_small, cstV, mulW]
              | x :: y :: r =>
                have e2 : ¬ ((r.length : Int) + 1 + 1 + 1 = 2) := by omega
                have e0 : ¬ ((r.length : Int) + 1 + 1 + 1 = 0) := by omega
                have ep : (0 : Int) < (r.length : Int) + 1 + 1 + 1 := by omega
                simp [b19, eqN, hd, nd, inW, inD, W.dat, W.dats, PyData.depth, PyData.depthAll, eqvS, eqvN, hk, hk', hn, e0, e2, ep, l2, l4, Df.run, Ss.den, S.den, E.den, Es.den, Es.bo, Es.bt, Eo.den, Eo.tst, E.tst, It.den, R.bind, R.out, R.opt, startS, slotV, slotP, W.now, cmpW, intsW, idxW, L2.atI, L2.ixN, bltW, on1, on2, ifB, Tg.den, Tgs.den, tgo, binW, addW, intW, absW, lenW, truW, tyW, isTy, E.give, E.fresh, W.isNon, lineN_small, cstV, mulW]
            · have e1 : ((r.length : Int) + 1 = 1) ↔ r.length = 0 := by omega
              rw [nd_al hk hn ht]
              cases ha : isAl s with
              | true =>
                have ha' := ha
                unfold isAl at ha'
                simp [b19, eqN, inW, inD, W.dat, W.dats, PyData.depth, PyData.depthAll, eqvS, eqvN, hk', hn, ht, e0, e1, ha', l2, l4, l7, Df.run, Ss.den, S.den, E.den, Es.den, Es.bo, Es.bt, Eo.den, Eo.tst, E.tst, It.den, R.bind, R.out, R.opt, startS, slotV, slotP, W.now, cmpW, intsW, idxW, L2.atI, L2.ixN, bltW, on1, on2, ifB, Tg.den, Tgs.den, tgo, binW, addW, intW, absW, lenW, truW, tyW, isTy, E.give, E.fresh, W.isNon, lineN_small, cstV, mulW]
              | false =>
                have ha' := ha
                unfold isAl at ha'
                simp [b19, eqN, inW, inD, W.dat, W.dats, PyData.depth, PyData.depthAll, eqvS, eqvN, hk', hn, ht, e0, e1, ha', l2, l4, l7, Df.run, Ss.den, S.den, E.den, Es.den, Es.bo, Es.bt, Eo.den, Eo.tst, E.tst, It.den, R.bind, R.out, R.opt, startS, slotV, slotP, W.now, cmpW, intsW, idxW, L2.atI, L2.ixN, bltW, on1, on2, ifB, Tg.den, Tgs.den, tgo, binW, addW, intW, absW, lenW, truW, tyW, isTy, E.give, E.fresh, W.isNon, lineN_small, cstV, mulW]
      | _ => simp [b19, eqN, e0, nd, Df.run, Ss.den, S.den, E.den, Es.den, Es.bo, Es.bt, Eo.den, Eo.tst, E.tst, It.den, R.bind, R.out, R.opt, startS, slotV, slotP, W.now, cmpW, intsW, idxW, L2.atI, L2.ixN, bltW, on1, on2, ifB, Tg.den, Tgs.den, tgo, binW, addW, intW, absW, lenW, truW, tyW, isTy, E.give, E.fresh, W.isNon, lineN_small, cstV, mulW]
  | _ => simp [b19, nd, Df.run, Ss.den, S.den, E.den, Es.den, Es.bo, Es.bt, Eo.den, Eo.tst, E.tst, It.den, R.bind, R.out, R.opt, startS, slotV, slotP, W.now, cmpW, intsW, idxW, L2.atI, L2.ixN, bltW, on1, on2, ifB, Tg.den, Tgs.den, tgo, binW, addW, intW, absW, lenW, truW, tyW, isTy, E.give, E.fresh, W.isNon, lineN_small, cstV, mulW]
def b17s (n : Nat) : S := match b17, n with
  | .cons s _, 0 => s
  | .cons _ (.cons s _), 1 => s
  | .cons _ (.cons _ (.cons s _)), 2 => s
  | .cons _ (.cons _ (.cons _ (.cons s _))), 3 => s
  | _, _ => .pass ⟨0, 0, 0, 0⟩
theorem st17_0 (s : Str) : (b17s 0).den ⟨pg.T k, pg.cst, pg.par⟩ [.val (.str s), .non] h = .nx [.val (.str s), .val (.ref h.length)] (h ++ [.dic D0]) := by
  have l0 : lineN 0 = true := lineN_small (by omega)
  have l1 : lineN 1 = true := lineN_small (by omega)
  have l2 : lineN 2 = true := lineN_small (by omega)
  simp [b17s, b17, l0, l1, l2, D0, Df.run, Ss.den, S.den, E.den, Es.den, Es.bo, Es.bt, Eo.den, Eo.tst, E.tst, It.den, R.bind, R.out, R.opt, startS, slotV, slotP, W.now, cmpW, intsW, idxW, L2.atI, L2.ixN, bltW, on1, on2, ifB, Tg.den, Tgs.den, tgo, binW, addW, intW, absW, lenW, truW, tyW, isTy, E.give, E.fresh, W.isNon, lineN_small, cstV, mulW]
  rfl
theorem st17_1 (s : Str) : (b17s 1).den ⟨pg.T k, pg.cst, pg.par⟩ [.val (.str s), .val (.ref h.length)] (h ++ [.dic D0]) = .nx [.val (.str s), .val (.ref h.length)] (h ++ [.dic D1]) := by
  have l1 : lineN 1 = true := lineN_small (by omega)
  have l2 : lineN 2 = true := lineN_small (by omega)
  have l4 : lineN 4 = true := lineN_small (by omega)
  have q : slotV [.val (.str s), .val (.ref h.length)] 1 = some (.ref h.length) := rfl
  simp only [b17s, b17, S.den, E.den, Es.den, R.bind, R.out, l1, l2, l4, List.length_cons, List.length_nil, Nat.zero_add, Nat.reduceAdd, Tg.den.eq_2, Tgs.den]
  rw [put_ref (by decide) q]
  simp only
  rw [put_ref (by decide) q]
  simp only
  rw [put_ref (by decide) q]
  simp only
  rw [put_ref (by decide) q]
  rfl
theorem st17_2 (s : Str) : (b17s 2).den ⟨pg.T k, pg.cst, pg.par⟩ [.val (.str s), .val (.ref h.length)] (h ++ [.dic D1]) = .nx [.val (.str s), .val (.ref h.length)] (h ++ [.dic DD]) := by
  have l1 : lineN 1 = true := lineN_small (by omega)
  have l2 : lineN 2 = true := lineN_small (by omega)
  have l3 : lineN 3 = true := lineN_small (by omega)
  have q : slotV [.val (.str s), .val (.ref h.length)] 1 = some (.ref h.length) := rfl
  simp only [b17s, b17, S.den, E.den, Es.den, R.bind, R.out, l1, l2, l3, List.length_cons, List.length_nil, Nat.zero_add, Nat.reduceAdd, Tg.den.eq_2, Tgs.den]
  rw [put_ref (by decide) q]
  simp only
  rw [put_ref (by decide) q]
  rfl
theorem t17 {s : Str} {ws : List W} (e : dicGet BI s = some (.tup ws)) : pg.T (k+1) 17 [.str s] h = .ok (.lst ws) (h ++ [.dic DD]) := by
  have run : pg.T (k+1) 17 [.str s] h = (match Ss.den ⟨pg.T k, pg.cst, pg.par⟩ (.cons (b17s 0) (.cons (b17s 1) (.cons (b17s 2) (.cons (b17s 3) .nil)))) (startS 2 [.str s]) h with
    | .nx _ h => .ok .non h
    | .rt w h => .ok w h
    | .exc x _ h => .exc x h
    | _ => .bad) := rfl
  have q : slotV [.val (.str s), .val (.ref h.length)] 1 = some (.ref h.length) := rfl
  have r := dd_of e
  rw [run]
  have s0 : startS 2 [.str s] = [.val (.str s), .non] := rfl
  rw [s0]
  have sq : ∀ {s : S} {ss : Ss} {σ σ1 : Sls} {h h1 : Obs} {D : Dn} (e : s.den D σ h = .nx σ1 h1), Ss.den D (.cons s ss) σ h = Ss.den D ss σ1 h1 := fun {s ss σ σ1 h h1 D} e => by
    show (match s.den D σ h with | .nx σ h => ss.den D σ h | o => o) = _
    rw [e]
  rw [sq (st17_0 s), sq (st17_1 s), sq (st17_2 s)]
  simp [b17s, b17, Df.run, Ss.den, S.den, E.den, Es.den, Es.bo, Es.bt, Eo.den, Eo.tst, E.tst, It.den, R.bind, R.out, R.opt, startS, slotV, slotP, W.now, cmpW, intsW, idxW, L2.atI, L2.ixN, bltW, on1, on2, ifB, Tg.den, Tgs.den, tgo, binW, addW, intW, absW, lenW, truW, tyW, isTy, E.give, E.fresh, W.isNon, lineN_small, cstV, mulW]
  simp [at_end, r]
def s20 (n : Nat) : S := match b20, n with
  | .cons s _, 0 => s
  | .cons _ (.cons s _), 1 => s
  | .cons _ (.cons _ (.cons s _)), 2 => s
  | .cons _ (.cons _ (.cons _ (.cons s _))), 3 => s
  | _, _ => .pass ⟨0, 0, 0, 0⟩
def f20 : Ss := match s20 2 with
  | .for _ _ b _ => b
  | .frz _ (.for _ _ b _) => b
  | _ => .nil
def g20 : Tg := match s20 2 with
  | .for t _ _ _ => t
  | .frz _ (.for t _ _ _) => t
  | _ => .tup .nil 0 ⟨0, 0, 0, 0⟩
def i20 : It := match s20 2 with
  | .for _ i _ _ => i
  | .frz _ (.for _ i _ _) => i
  | _ => .seq (.non 0 ⟨0, 0, 0, 0⟩)
theorem end_non (ns : List W) : pg.T (k+1) 20 [.lst ns, .non] h = .ok .non h := by
  show Df.run ⟨"_law_end", ["_law_nodes", "_law_begin", "_law_place", "_law_more"], 2, b20⟩ ⟨pg.T k, pg.cst, pg.par⟩ [.lst ns, .non] h = _
  simp [b20, Df.run, Ss.den, S.den, E.den, Es.den, Es.bo, Es.bt, Eo.den, Eo.tst, E.tst, It.den, R.bind, R.out, R.opt, startS, slotV, slotP, W.now, cmpW, intsW, idxW, L2.atI, L2.ixN, bltW, on1, on2, ifB, Tg.den, Tgs.den, tgo, binW, addW, intW, absW, lenW, truW, tyW, isTy, E.give, E.fresh, W.isNon, lineN_small, cstV, mulW]
/-- the loop over the children -/
theorem loop20 {D : Dn} {ns : List W} {b : Sl} {l : List W} (one : ∀ r h, (∃ p, l = p ++ r) → ∃ h1, D.call 20 [.lst ns, .int ((ns.length - r.length : Nat) : Int)] h = .ok (enc2 ns.length (need r 1)) h1) (none_ : ∀ h, D.call 20 [.lst ns, .non] h = .ok .non h) :
    ∀ (ws : List W) (j : Nat) (o : Sl) (h : Obs), ∃ o1 h1, forGo (fun w σ h => g20.den D w σ h) (fun σ h => f20.den D σ h) ws [.val (.lst ns), b, .val (enc2 ns.length (need l j)), o] h = .nx [.val (.lst ns), b, .val (enc2 ns.length (need l (j + ws.length))), o1] h1
  | [], j, o, h => ⟨o, h, rfl⟩
  | x :: ws, j, o, h => by
    have st : ∃ h1, f20.den D [.val (.lst ns), b, .val (enc2 ns.length (need l j)), .val x] h = .nx [.val (.lst ns), b, .val (enc2 ns.length (need l (j + 1))), .val x] h1 := by
      rw [need_add]
      cases e : need l j with
      | none =>
        refine ⟨h, ?_⟩
        have z := none_ h
        simp [f20, s20, b20, enc2, z, Df.run, Ss.den, S.den, E.den, Es.den, Es.bo, Es.bt, Eo.den, Eo.tst, E.tst, It.den, R.bind, R.out, R.opt, startS, slotV, slotP, W.now, cmpW, intsW, idxW, L2.atI, L2.ixN, bltW, on1, on2, ifB, Tg.den, Tgs.den, tgo, binW, addW, intW, absW, lenW, truW, tyW, isTy, E.give, E.fresh, W.isNon, lineN_small, cstV, mulW]
      | some r =>
        obtain ⟨h1, z⟩ := one r h (need_suf l j r e)
        refine ⟨h1, ?_⟩
        have z' : D.call 20 [.lst ns, enc2 ns.length (some r)] h = .ok (enc2 ns.length (need r 1)) h1 := z
        simp [f20, s20, b20, z', Df.run, Ss.den, S.den, E.den, Es.den, Es.bo, Es.bt, Eo.den, Eo.tst, E.tst, It.den, R.bind, R.out, R.opt, startS, slotV, slotP, W.now, cmpW, intsW, idxW, L2.atI, L2.ixN, bltW, on1, on2, ifB, Tg.den, Tgs.den, tgo, binW, addW, intW, absW, lenW, truW, tyW, isTy, E.give, E.fresh, W.isNon, lineN_small, cstV, mulW]
    obtain ⟨h1, st⟩ := st
    obtain ⟨o1, h2, ih⟩ := loop20 one none_ ws (j + 1) (.val x) h1
    refine ⟨o1, h2, ?_⟩
    have put : g20.den D x [.val (.lst ns), b, .val (enc2 ns.length (need l j)), o] h = .ok [.val (.lst ns), b, .val (enc2 ns.length (need l j)), .val x] h := rfl
    unfold forGo
    simp only [put, st]
    rw [ih]
    have e : j + 1 + ws.length = j + (x :: ws).length := by simp only [List.length_cons]; omega
    rw [e]
theorem at0 {α : Type} (a : α) (r : List α) : L2.atI (a :: r) 0 = some a := by simp [L2.atI, L2.ixN]
  <;> omega
theorem at_mid {α : Type} (p : List α) (a : α) (r : List α) : L2.atI (p ++ a :: r) (p.length : Int) = some a := by
  have h1 : (0 : Int) ≤ (p.length : Int) := by omega
  have h2 : (p.length : Int) < ((p ++ a :: r).length : Int) := by simp only [List.length_append, List.length_cons]; omega
  unfold L2.atI L2.ixN
  rw [if_pos h1, if_pos h2]
  simp
theorem t20 {ns : List W} (q : NDs ns) : ∀ (k : Nat) (l : List W) (h : Obs), l.length ≤ k → (∃ p, ns = p ++ l) → ∃ h1, pg.T (k+2) 20 [.lst ns, .int ((ns.length - l.length : Nat) : Int)] h = .ok (enc2 ns.length (need l 1)) h1 := by
  intro k
  induction k with
  | zero =>
    intro l h hl hp
    have e : l = [] := List.eq_nil_of_length_eq_zero (by omega)
    subst e
    refine ⟨h, ?_⟩
    show Df.run ⟨"_law_end", ["_law_nodes", "_law_begin", "_law_place", "_law_more"], 2, b20⟩ ⟨pg.T (0+1), pg.cst, pg.par⟩ [.lst ns, .int ((ns.length - 0 : Nat) : Int)] h = _
    simp [b20, enc2, need, Df.run, Ss.den, S.den, E.den, Es.den, Es.bo, Es.bt, Eo.den, Eo.tst, E.tst, It.den, R.bind, R.out, R.opt, startS, slotV, slotP, W.now, cmpW, intsW, idxW, L2.atI, L2.ixN, bltW, on1, on2, ifB, Tg.den, Tgs.den, tgo, binW, addW, intW, absW, lenW, truW, tyW, isTy, E.give, E.fresh, W.isNon, lineN_small, cstV, mulW]
  | succ k ih =>
    intro l h hl hp
    cases l with
    | nil =>
      refine ⟨h, ?_⟩
      show Df.run ⟨"_law_end", ["_law_nodes", "_law_begin", "_law_place", "_law_more"], 2, b20⟩ ⟨pg.T (k+2), pg.cst, pg.par⟩ [.lst ns, .int ((ns.length - 0 : Nat) : Int)] h = _
      simp [b20, enc2, need, Df.run, Ss.den, S.den, E.den, Es.den, Es.bo, Es.bt, Eo.den, Eo.tst, E.tst, It.den, R.bind, R.out, R.opt, startS, slotV, slotP, W.now, cmpW, intsW, idxW, L2.atI, L2.ixN, bltW, on1, on2, ifB, Tg.den, Tgs.den, tgo, binW, addW, intW, absW, lenW, truW, tyW, isTy, E.give, E.fresh, W.isNon, lineN_small, cstV, mulW]
    | cons a r =>
      obtain ⟨p, rfl⟩ := hp
      simp only [List.length_cons] at hl
      obtain ⟨s, t, ws, rfl, hd, ha⟩ := nd_get (q a (by simp))
      have hb : ((p ++ W.tup (.str s :: t) :: r).length - (W.tup (.str s :: t) :: r).length : Nat) = p.length := by simp only [List.length_append]; omega
      rw [hb]
      have lp := loop20 (D := ⟨pg.T (k+2), pg.cst, pg.par⟩) (ns := p ++ W.tup (.str s :: t) :: r) (b := .val (.int p.length)) (l := r) (fun r' h' hr' => ih r' h' (by
        obtain ⟨u, rfl⟩ := hr'
        simp only [List.length_append] at hl
        omega) (by
        obtain ⟨u, rfl⟩ := hr'
        exact ⟨p ++ W.tup (.str s :: t) :: u, by simp⟩)) (fun h' => end_non (k := k + 1) (h := h') (p ++ W.tup (.str s :: t) :: r)) ws 0 .non (h ++ [.dic DD])
      obtain ⟨o1, h1, lp⟩ := lp
      refine ⟨h1, ?_⟩
      have e17 := t17 (k := k + 1) (h := h) hd
      have m : L2.atI (p ++ W.tup (.str s :: t) :: r) (p.length : Int) = some (.tup (.str s :: t)) := at_mid p _ r
      have e0 : ¬ (((p ++ W.tup (.str s :: t) :: r).length : Int) ≤ (p.length : Int)) := by simp only [List.length_append, List.length_cons]; omega
      have s0 : (s20 0).den ⟨pg.T (k+2), pg.cst, pg.par⟩ (startS 4 [.lst (p ++ W.tup (.str s :: t) :: r), .int p.length]) h = .nx [.val (.lst (p ++ W.tup (.str s :: t) :: r)), .val (.int p.length), .non, .non] h := by
        simp [s20, b20, e0, -List.length_append, Df.run, Ss.den, S.den, E.den, Es.den, Es.bo, Es.bt, Eo.den, Eo.tst, E.tst, It.den, R.bind, R.out, R.opt, startS, slotV, slotP, W.now, cmpW, intsW, idxW, L2.atI, L2.ixN, bltW, on1, on2, ifB, Tg.den, Tgs.den, tgo, binW, addW, intW, absW, lenW, truW, tyW, isTy, E.give, E.fresh, W.isNon, lineN_small, cstV, mulW]
      have hpl : enc2 (p ++ W.tup (.str s :: t) :: r).length (need r 0) = .int ((p.length : Int) + 1) := by
        have e : need r 0 = some r := by cases r <;> rfl
        rw [e]
        show W.int _ = _
        congr 1
        simp only [List.length_append, List.length_cons]
        omega
      have s1 : (s20 1).den ⟨pg.T (k+2), pg.cst, pg.par⟩ [.val (.lst (p ++ W.tup (.str s :: t) :: r)), .val (.int p.length), .non, .non] h = .nx [.val (.lst (p ++ W.tup (.str s :: t) :: r)), .val (.int p.length), .val (enc2 (p ++ W.tup (.str s :: t) :: r).length (need r 0)), .non] h := by
        rw [hpl]
        simp [s20, b20, Df.run, Ss.den, S.den, E.den, Es.den, Es.bo, Es.bt, Eo.den, Eo.tst, E.tst, It.den, R.bind, R.out, R.opt, startS, slotV, slotP, W.now, cmpW, intsW, idxW, L2.atI, L2.ixN, bltW, on1, on2, ifB, Tg.den, Tgs.den, tgo, binW, addW, intW, absW, lenW, truW, tyW, isTy, E.give, E.fresh, W.isNon, lineN_small, cstV, mulW]
      have it : i20.den ⟨pg.T (k+2), pg.cst, pg.par⟩ [.val (.lst (p ++ W.tup (.str s :: t) :: r)), .val (.int p.length), .val (enc2 (p ++ W.tup (.str s :: t) :: r).length (need r 0)), .non] h = .ok ws (h ++ [.dic DD]) := by
        have m2 : (L2.ixN (p ++ W.tup (.str s :: t) :: r).length (p.length : Int)).bind (fun j => (p ++ W.tup (.str s :: t) :: r)[j]?) = some (.tup (.str s :: t)) := m
        simp [i20, s20, b20, It.den, E.den, Es.den, R.bind, R.opt, slotV, slotP, W.now, idxW, m, at0, e17, W.items]
      have s2 : (s20 2).den ⟨pg.T (k+2), pg.cst, pg.par⟩ [.val (.lst (p ++ W.tup (.str s :: t) :: r)), .val (.int p.length), .val (enc2 (p ++ W.tup (.str s :: t) :: r).length (need r 0)), .non] h = .nx [.val (.lst (p ++ W.tup (.str s :: t) :: r)), .val (.int p.length), .val (enc2 (p ++ W.tup (.str s :: t) :: r).length (need r (0 + ws.length))), o1] h1 := by
        have u : (s20 2).den ⟨pg.T (k+2), pg.cst, pg.par⟩ [.val (.lst (p ++ W.tup (.str s :: t) :: r)), .val (.int p.length), .val (enc2 (p ++ W.tup (.str s :: t) :: r).length (need r 0)), .non] h = (match i20.den ⟨pg.T (k+2), pg.cst, pg.par⟩ [.val (.lst (p ++ W.tup (.str s :: t) :: r)), .val (.int p.length), .val (enc2 (p ++ W.tup (.str s :: t) :: r).length (need r 0)), .non] h with
          | .ok xs h => forGo (fun w σ h => g20.den ⟨pg.T (k+2), pg.cst, pg.par⟩ w σ h) (fun σ h => f20.den ⟨pg.T (k+2), pg.cst, pg.par⟩ σ h) xs [.val (.lst (p ++ W.tup (.str s :: t) :: r)), .val (.int p.length), .val (enc2 (p ++ W.tup (.str s :: t) :: r).length (need r 0)), .non] h
          | .exc x h => .exc x [.val (.lst (p ++ W.tup (.str s :: t) :: r)), .val (.int p.length), .val (enc2 (p ++ W.tup (.str s :: t) :: r).length (need r 0)), .non] h
          | .bad => .bad) := rfl
        rw [u, it]
        exact lp
      have run : pg.T (k+1+2) 20 [.lst (p ++ W.tup (.str s :: t) :: r), .int p.length] h = (match Ss.den ⟨pg.T (k+2), pg.cst, pg.par⟩ (.cons (s20 0) (.cons (s20 1) (.cons (s20 2) (.cons (s20 3) .nil)))) (startS 4 [.lst (p ++ W.tup (.str s :: t) :: r), .int p.length]) h with
        | .nx _ h => .ok .non h
        | .rt w h => .ok w h
        | .exc x _ h => .exc x h
        | _ => .bad) := rfl
      rw [run, seq s0, seq s1, seq s2]
      have en : need r (0 + ws.length) = need (.tup (.str s :: t) :: r) 1 := by
        show _ = need r (0 + ar _)
        rw [ha]
      rw [en]
      simp [s20, b20, Df.run, Ss.den, S.den, E.den, Es.den, Es.bo, Es.bt, Eo.den, Eo.tst, E.tst, It.den, R.bind, R.out, R.opt, startS, slotV, slotP, W.now, cmpW, intsW, idxW, L2.atI, L2.ixN, bltW, on1, on2, ifB, Tg.den, Tgs.den, tgo, binW, addW, intW, absW, lenW, truW, tyW, isTy, E.give, E.fresh, W.isNon, lineN_small, cstV, mulW]
/-! ## _law_due -/
def one (w : W) : Bool := match w with
  | .tup (.str s :: _) => decide (s = "next") || (decide (s = "fun") || decide (s = "first"))
  | _ => false
theorem one_ar {w : W} (e : one w = true) : ar w = 1 := by
  unfold one at e
  split at e
  · simp only [Bool.or_eq_true, decide_eq_true_eq] at e
    rcases e with rfl | rfl | rfl <;> rfl
  · cases e
theorem need_drop : ∀ (n : Nat) (l : List W), (l.take n).all one = true → n ≤ l.length → need (l.drop n) 1 = need l 1
  | 0, l, _, _ => rfl
  | n + 1, [], _, h => by simp at h
  | n + 1, a :: l, e, h => by
    simp only [List.take_succ_cons, List.all_cons, Bool.and_eq_true] at e
    simp only [List.length_cons] at h
    rw [List.drop_succ_cons, need_drop n l e.2 (by omega)]
    show _ = need l (0 + ar a)
    rw [one_ar e.1]
def hd1 : List W → Bool
  | a :: _ => one a
  | [] => false
def nx1 (l : List W) : List W := if (l.take 50).all one then l.drop 50 else l.drop 1
theorem nx1_len {l : List W} (h : 50 < l.length) : (nx1 l).length < l.length := by
  unfold nx1
  split <;> simp only [List.length_drop] <;> omega
theorem nx1_need {l : List W} (h : 50 < l.length) (e : hd1 l = true) : need (nx1 l) 1 = need l 1 := by
  unfold nx1
  split
  · rename_i z
    exact need_drop 50 l z (by omega)
  · cases l with
    | nil => simp at h
    | cons a r =>
      have e : one a = true := e
      refine need_drop 1 (a :: r) ?_ (by simp only [List.length_cons]; omega)
      show (one a && true) = true
      rw [e]; rfl
theorem nx1_suf (l : List W) : ∃ p, l = p ++ nx1 l := by
  unfold nx1
  split
  · exact ⟨l.take 50, (List.take_append_drop 50 l).symm⟩
  · exact ⟨l.take 1, (List.take_append_drop 1 l).symm⟩
theorem hd1_ix {l : List W} (q : NDs l) (h : 0 < l.length) : ∃ s t r, l = .tup (.str s :: t) :: r ∧ one (.tup (.str s :: t)) = hd1 l := by
  cases l with
  | nil => simp at h
  | cons a r =>
    obtain ⟨s, t, ws, rfl, _⟩ := nd_get (q a List.mem_cons_self)
    exact ⟨s, t, r, rfl, rfl⟩
abbrev w21 : S := nth b21 2
theorem c21 {D : Dn} {v o : Sl} {l : List W} (q : NDs l) : (whlC w21).tst D [v, .val (.lst l), o] h = .ok (decide (50 < l.length) && hd1 l) h := by
  have i1 : (50 : Int) < (l.length : Int) ↔ 50 < l.length := by omega
  by_cases h1 : 50 < l.length
  · obtain ⟨s, t, r, rfl, e⟩ := hd1_ix q (by omega)
    have l3 : lineN 3 = true := lineN_small (by omega)
    have i2 : (0 : Int) < (r.length : Int) + 1 := by omega
    have i3 : (50 : Int) < (r.length : Int) + 1 := by simp only [List.length_cons] at h1; omega
    have i4 : 50 < r.length + 1 := by simpa using h1
    simp [w21, nth, whlC, unfrz, b21, hd1, one, l3, i2, i3, i4, inW, inD, W.dat, W.dats, PyData.depth, PyData.depthAll, eqvS, eqvN, Df.run, Ss.den, S.den, E.den, Es.den, Es.bo, Es.bt, Eo.den, Eo.tst, E.tst, It.den, R.bind, R.out, R.opt, startS, slotV, slotP, W.now, cmpW, intsW, idxW, L2.atI, L2.ixN, bltW, on1, on2, ifB, Tg.den, Tgs.den, tgo, binW, addW, intW, absW, lenW, truW, tyW, isTy, E.give, E.fresh, W.isNon, lineN_small, cstV, mulW]
  · have i3 : ¬ ((50 : Int) < (l.length : Int)) := by omega
    simp [w21, nth, whlC, unfrz, b21, h1, i3, Df.run, Ss.den, S.den, E.den, Es.den, Es.bo, Es.bt, Eo.den, Eo.tst, E.tst, It.den, R.bind, R.out, R.opt, startS, slotV, slotP, W.now, cmpW, intsW, idxW, L2.atI, L2.ixN, bltW, on1, on2, ifB, Tg.den, Tgs.den, tgo, binW, addW, intW, absW, lenW, truW, tyW, isTy, E.give, E.fresh, W.isNon, lineN_small, cstV, mulW]
theorem cut50 (l : List W) (h : 50 < l.length) : cut l none (some 50) = l.take 50 ∧ cut l (some 50) none = l.drop 50 ∧ cut l (some 1) none = l.drop 1 := by
  have e : (50 : Int) = ((50 : Nat) : Int) := rfl
  have e1 : (1 : Int) = ((1 : Nat) : Int) := rfl
  refine ⟨?_, ?_, ?_⟩
  · simp only [cut, HT.sIx_none]
    rw [e, HT.sIx_nat, Nat.min_eq_left (by omega)]
    simp
  · simp only [cut, HT.sIx_none]
    rw [e, HT.sIx_nat, Nat.min_eq_left (by omega)]
    rw [List.take_of_length_le (by simp)]
  · simp only [cut, HT.sIx_none]
    rw [e1, HT.sIx_nat, Nat.min_eq_left (by omega)]
    rw [List.take_of_length_le (by simp)]
end K14

set_option maxHeartbeats 4000000
namespace K14
open PySem Ev Mx
variable {k : Nat} {h : Obs} {w : W}
def lc21 : E := match nth (whlB w21) 0 with
  | .asg _ _ _ (.ife (.tr (.blt _ _ (.cons e .nil) _)) _ _ _) _ => e
  | _ => .non 0 ⟨0, 0, 0, 0⟩
theorem one_den {D : Dn} {l : List W} (q : NDs l) (h50 : 50 < l.length) (hl : l.length ≤ 1000) {v o : Sl} : lc21.den D true [v, .val (.lst l), .non] h = .ok (.lst ((l.take 50).map fun w => .bl (one w))) h := by
  have cc := (cut50 l h50).1
  have l3 : lineN 3 = true := lineN_small (by omega)
  refine lcMap (D := D) (σ := [v, .val (.lst l), .non]) (i := 2) (ws := l.take 50) (g := fun w => .bl (one w)) ?_ ?_ rfl (by simp only [List.length_take]; omega)
  · simp [slcW, cc, Df.run, Ss.den, S.den, E.den, Es.den, Es.bo, Es.bt, Eo.den, Eo.tst, E.tst, It.den, R.bind, R.out, R.opt, startS, slotV, slotP, W.now, cmpW, intsW, idxW, L2.atI, L2.ixN, bltW, on1, on2, ifB, Tg.den, Tgs.den, tgo, binW, addW, intW, absW, lenW, truW, tyW, isTy, E.give, E.fresh, W.isNon, lineN_small, cstV, mulW, W.items]
  · intro w hw
    obtain ⟨s, t, ws, rfl, _⟩ := nd_get (q w (List.mem_of_mem_take hw))
    simp [wipeS, one, l3, inW, inD, W.dat, W.dats, PyData.depth, PyData.depthAll, eqvS, eqvN, Df.run, Ss.den, S.den, E.den, Es.den, Es.bo, Es.bt, Eo.den, Eo.tst, E.tst, It.den, R.bind, R.out, R.opt, startS, slotV, slotP, W.now, cmpW, intsW, idxW, L2.atI, L2.ixN, bltW, on1, on2, ifB, Tg.den, Tgs.den, tgo, binW, addW, intW, absW, lenW, truW, tyW, isTy, E.give, E.fresh, W.isNon, lineN_small, cstV, mulW]
theorem b21d {D : Dn} {l : List W} (q : NDs l) (h50 : 50 < l.length) (hl : l.length ≤ 1000) {v : Sl} : (whlB w21).den D [v, .val (.lst l), .non] h = .nx [v, .val (.lst (nx1 l)), .non] h := by
  obtain ⟨c1, c2, c3⟩ := cut50 l h50
  have elc := one_den (D := D) (h := h) q h50 hl (v := v) (o := .non)
  simp only [lc21, w21, nth, whlB, unfrz, b21] at elc
  have ha := allW_map one (l.take 50)
  cases hh : (l.take 50).all one with
  | true =>
    have en : nx1 l = l.drop 50 := by unfold nx1; rw [if_pos hh]
    rw [en]
    simp [w21, nth, whlB, unfrz, b21, ↓elc, ha, hh, slcW, c2, -List.map_take, -List.all_eq_true, -List.all_map, Df.run, Ss.den, S.den, E.den, Es.den, Es.bo, Es.bt, Eo.den, Eo.tst, E.tst, It.den, R.bind, R.out, R.opt, startS, slotV, slotP, W.now, cmpW, intsW, idxW, L2.atI, L2.ixN, bltW, on1, on2, ifB, Tg.den, Tgs.den, tgo, binW, addW, intW, absW, lenW, truW, tyW, isTy, E.give, E.fresh, W.isNon, lineN_small, cstV, mulW]
  | false =>
    have en : nx1 l = l.drop 1 := by unfold nx1; rw [if_neg (by rw [hh]; exact Bool.false_ne_true)]
    rw [en]
    simp [w21, nth, whlB, unfrz, b21, ↓elc, ha, hh, slcW, c3, -List.map_take, -List.all_eq_true, -List.all_eq_false, -List.all_map, Df.run, Ss.den, S.den, E.den, Es.den, Es.bo, Es.bt, Eo.den, Eo.tst, E.tst, It.den, R.bind, R.out, R.opt, startS, slotV, slotP, W.now, cmpW, intsW, idxW, L2.atI, L2.ixN, bltW, on1, on2, ifB, Tg.den, Tgs.den, tgo, binW, addW, intW, absW, lenW, truW, tyW, isTy, E.give, E.fresh, W.isNon, lineN_small, cstV, mulW]
theorem l21 {D : Dn} {v : Sl} : ∀ (m : Nat) (l : List W), NDs l → l.length ≤ 1000 → l.length < m → ∃ l', whlGo (fun σ h => (whlC w21).tst D σ h) (fun σ h => (whlB w21).den D σ h) m [v, .val (.lst l), .non] h = .nx [v, .val (.lst l'), .non] h ∧
    (∃ p, l = p ++ l') ∧ need l' 1 = need l 1 ∧ (l'.length ≤ 50 ∨ hd1 l' = false)
  | 0, l, _, _, h => by omega
  | m + 1, l, q, hl, hm => by
    have c := c21 (D := D) (v := v) (o := .non) (h := h) q
    cases hc : decide (50 < l.length) && hd1 l with
    | false =>
      refine ⟨l, ?_, ⟨[], rfl⟩, rfl, ?_⟩
      · unfold whlGo
        rw [c, hc]
      · rcases Bool.and_eq_false_iff.mp hc with z | z
        · exact .inl (by have := of_decide_eq_false z; omega)
        · exact .inr z
    | true =>
      obtain ⟨z1, z2⟩ := Bool.and_eq_true_iff.mp hc
      have h50 : 50 < l.length := of_decide_eq_true z1
      obtain ⟨p, hp⟩ := nx1_suf l
      have hlen := nx1_len h50
      obtain ⟨l', e, ⟨p', hp'⟩, e2, e3⟩ := l21 (D := D) (v := v) m (nx1 l) (fun w hw => q w (by rw [hp]; exact List.mem_append_right _ hw)) (by omega) (by omega)
      refine ⟨l', ?_, ⟨p ++ p', by rw [List.append_assoc, ← hp', ← hp]⟩, by rw [e2, nx1_need h50 z2], e3⟩
      unfold whlGo
      rw [c, hc]
      simp only
      rw [b21d q h50 hl]
      exact e
/-- rows that _law_due can walk -/
def Short (l : List W) : Prop := ∀ p s, l = p ++ s → s.length ≤ 180 ∨ hd1 s = true
theorem t21 (p : PV w) (hl : ∀ ns, parts w = some ns → ns.length ≤ 1000 ∧ Short ns) : ∃ h1, pg.T (k + 184) 21 [w] h = .ok (.bl (tm w)) h1 := by
  have run0 : pg.T (k + 184) 21 [w] h = Df.run ⟨"_law_due", ["_law_value", "_law_rest", "_law_node"], 1, b21⟩ ⟨pg.T (k + 183), pg.cst, pg.par⟩ [w] h := rfl
  rw [run0]
  cases hp : parts w with
  | none =>
    have zt : tm w = false := by unfold tm; rw [hp]
    refine ⟨h, ?_⟩
    rw [zt]
    cases p with
    | tup ws _ => cases hp
    | lst ws _ => cases hp
    | _ => simp [b21, Df.run, Ss.den, S.den, E.den, Es.den, Es.bo, Es.bt, Eo.den, Eo.tst, E.tst, It.den, R.bind, R.out, R.opt, startS, slotV, slotP, W.now, cmpW, intsW, idxW, L2.atI, L2.ixN, bltW, on1, on2, ifB, Tg.den, Tgs.den, tgo, binW, addW, intW, absW, lenW, truW, tyW, isTy, E.give, E.fresh, W.isNon, lineN_small, cstV, mulW]
  | some ns =>
    obtain ⟨hl, hs⟩ := hl ns hp
    have hw : w = .lst ns ∨ w = .tup ns := by cases w <;> first | (cases hp; simp) | cases hp
    have pn : ∀ x ∈ ns, PV x := by
      rcases hw with rfl | rfl
      · cases p with | lst _ q => exact q
      · cases p with | tup _ q => exact q
    have zt : tm w = (decide (1 ≤ ns.length) && (decide (ns.length ≤ 300) && (ns.all nd && full (need ns 1)))) := by unfold tm; rw [hp]
    rw [zt]
    have hln : lineN ns.length = true := lineN_small hl
    have i1 : (1 : Int) ≤ (ns.length : Int) ↔ 1 ≤ ns.length := by omega
    have i2 : (ns.length : Int) ≤ 300 ↔ ns.length ≤ 300 := by omega
    by_cases h1 : 1 ≤ ns.length
    · by_cases h2 : ns.length ≤ 300
      · have elc := fun x p1 p2 p3 y p4 z p5 sc p6 => lcCall (D := ⟨pg.T (k + 183), pg.cst, pg.par⟩) (σ := [.val w, .non, .non]) (h := h) (b := true) (f := 19) (i := 2) (j := 0) (ws := ns) (g := fun w => W.bl (nd w)) x p1 p2 p3 y p4 z p5 sc p6 (by rcases hw with rfl | rfl; exact .inl rfl; exact .inr rfl) (fun x hx => t19 (k := k + 177) (pn x hx)) rfl (Nat.lt_succ_self 2) (by omega)
        have hal := allW_map nd ns
        cases ha : ns.all nd with
        | true =>
          have q : NDs ns := fun w hw => List.all_eq_true.mp ha w hw
          have s0 : (nth b21 0).den ⟨pg.T (k + 183), pg.cst, pg.par⟩ [.val w, .non, .non] h = .nx [.val w, .non, .non] h := by
            rcases hw with rfl | rfl <;> simp [nth, b21, h1, h2, i1, i2, hln, ↓elc, hal, ha, -List.all_eq_true, -List.all_map, Df.run, Ss.den, S.den, E.den, Es.den, Es.bo, Es.bt, Eo.den, Eo.tst, E.tst, It.den, R.bind, R.out, R.opt, startS, slotV, slotP, W.now, cmpW, intsW, idxW, L2.atI, L2.ixN, bltW, on1, on2, ifB, Tg.den, Tgs.den, tgo, binW, addW, intW, absW, lenW, truW, tyW, isTy, E.give, E.fresh, W.isNon, lineN_small, cstV, mulW]
          have s1 : (nth b21 1).den ⟨pg.T (k + 183), pg.cst, pg.par⟩ [.val w, .non, .non] h = .nx [.val w, .val (.lst ns), .non] h := by
            rcases hw with rfl | rfl <;> simp [nth, b21, listW, Df.run, Ss.den, S.den, E.den, Es.den, Es.bo, Es.bt, Eo.den, Eo.tst, E.tst, It.den, R.bind, R.out, R.opt, startS, slotV, slotP, W.now, cmpW, intsW, idxW, L2.atI, L2.ixN, bltW, on1, on2, ifB, Tg.den, Tgs.den, tgo, binW, addW, intW, absW, lenW, truW, tyW, isTy, E.give, E.fresh, W.isNon, lineN_small, cstV, mulW]
          obtain ⟨l', e, ⟨u, hu⟩, e2, e3⟩ := l21 (D := ⟨pg.T (k + 183), pg.cst, pg.par⟩) (h := h) (v := .val w) whlMost ns q hl (by unfold whlMost; omega)
          have s2 : (nth b21 2).den ⟨pg.T (k + 183), pg.cst, pg.par⟩ [.val w, .val (.lst ns), .non] h = .nx [.val w, .val (.lst l'), .non] h := e
          have hl2 : l'.length ≤ 180 := by
            rcases hs u l' hu with z | z
            · exact z
            · rcases e3 with y | y
              · omega
              · rw [y] at z; cases z
          obtain ⟨h1', e20⟩ := t20 (ns := l') (fun w hw => q w (by rw [hu]; exact List.mem_append_right _ hw)) (k + 181) l' h (by omega) ⟨[], rfl⟩
          rw [Nat.sub_self] at e20
          refine ⟨h1', ?_⟩
          have run : Df.run ⟨"_law_due", ["_law_value", "_law_rest", "_law_node"], 1, b21⟩ ⟨pg.T (k + 183), pg.cst, pg.par⟩ [w] h = (match Ss.den ⟨pg.T (k + 183), pg.cst, pg.par⟩ (.cons (nth b21 0) (.cons (nth b21 1) (.cons (nth b21 2) (.cons (nth b21 3) .nil)))) [.val w, .non, .non] h with
            | .nx _ h => .ok .non h
            | .rt w h => .ok w h
            | .exc x _ h => .exc x h
            | _ => .bad) := rfl
          rw [run, seq s0, seq s1, seq s2]
          have e20 : pg.T (k + 183) 20 [.lst l', .int 0] h = .ok (enc2 l'.length (need ns 1)) h1' := by rw [← e2]; exact e20
          have eq : eqW (enc2 l'.length (need ns 1)) (.int l'.length) = some (full (need ns 1)) := by
            cases z : need ns 1 with
            | none => rfl
            | some r =>
              rw [z] at e2
              have y := need_len _ _ _ e2
              cases r with
              | nil => simp [enc2, eqN, full]
              | cons a r =>
                simp only [List.length_cons] at y
                simp only [enc2, eqN, full]
                rw [decide_eq_false (by simp only [List.length_cons]; omega)]
          have d1 : decide (1 ≤ ns.length) = true := decide_eq_true h1
          have d2 : decide (ns.length ≤ 300) = true := decide_eq_true h2
          rw [d1, d2]
          cases z : need ns 1 with
          | none =>
            rw [z] at e20 eq
            simp only [enc2] at e20 eq
            simp [nth, b21, e20, eq, Df.run, Ss.den, S.den, E.den, Es.den, Es.bo, Es.bt, Eo.den, Eo.tst, E.tst, It.den, R.bind, R.out, R.opt, startS, slotV, slotP, W.now, cmpW, intsW, idxW, L2.atI, L2.ixN, bltW, on1, on2, ifB, Tg.den, Tgs.den, tgo, binW, addW, intW, absW, lenW, truW, tyW, isTy, E.give, E.fresh, W.isNon, lineN_small, cstV, mulW]
          | some r =>
            rw [z] at e20 eq
            simp only [enc2] at e20 eq
            simp [nth, b21, e20, eq, Df.run, Ss.den, S.den, E.den, Es.den, Es.bo, Es.bt, Eo.den, Eo.tst, E.tst, It.den, R.bind, R.out, R.opt, startS, slotV, slotP, W.now, cmpW, intsW, idxW, L2.atI, L2.ixN, bltW, on1, on2, ifB, Tg.den, Tgs.den, tgo, binW, addW, intW, absW, lenW, truW, tyW, isTy, E.give, E.fresh, W.isNon, lineN_small, cstV, mulW]
        | false =>
          refine ⟨h, ?_⟩
          rcases hw with rfl | rfl <;> simp [b21, h1, h2, i1, i2, hln, ↓elc, hal, ha, -List.all_eq_true, -List.all_map, -List.all_eq_false, Df.run, Ss.den, S.den, E.den, Es.den, Es.bo, Es.bt, Eo.den, Eo.tst, E.tst, It.den, R.bind, R.out, R.opt, startS, slotV, slotP, W.now, cmpW, intsW, idxW, L2.atI, L2.ixN, bltW, on1, on2, ifB, Tg.den, Tgs.den, tgo, binW, addW, intW, absW, lenW, truW, tyW, isTy, E.give, E.fresh, W.isNon, lineN_small, cstV, mulW]
      · refine ⟨h, ?_⟩
        rcases hw with rfl | rfl <;> simp [b21, h1, h2, i1, i2, hln, Df.run, Ss.den, S.den, E.den, Es.den, Es.bo, Es.bt, Eo.den, Eo.tst, E.tst, It.den, R.bind, R.out, R.opt, startS, slotV, slotP, W.now, cmpW, intsW, idxW, L2.atI, L2.ixN, bltW, on1, on2, ifB, Tg.den, Tgs.den, tgo, binW, addW, intW, absW, lenW, truW, tyW, isTy, E.give, E.fresh, W.isNon, lineN_small, cstV, mulW]
    · refine ⟨h, ?_⟩
      rcases hw with rfl | rfl <;> simp [b21, h1, i1, hln, Df.run, Ss.den, S.den, E.den, Es.den, Es.bo, Es.bt, Eo.den, Eo.tst, E.tst, It.den, R.bind, R.out, R.opt, startS, slotV, slotP, W.now, cmpW, intsW, idxW, L2.atI, L2.ixN, bltW, on1, on2, ifB, Tg.den, Tgs.den, tgo, binW, addW, intW, absW, lenW, truW, tyW, isTy, E.give, E.fresh, W.isNon, lineN_small, cstV, mulW]
end K14

set_option maxHeartbeats 4000000
namespace K14
open PySem Ev Mx
variable {k : Nat} {w : W} {t : Obs}
/-! ## the pot, draws, kinds, terms (values: c0 the cell without a script, cd the draw's number, ca, cm; x0 the pot without a script) -/
theorem pot_new (c : Int) : Vd (if c - 1000000000000000000 > 0 then c - 1000000000000000000 else 0) ((c % 2147483549 * 48271 + 17) % 2147483563 + 1) := by
  refine ⟨?_, ?_, ?_⟩
  · split <;> omega
  · omega
  · omega
theorem t11 (ns : List Int) : ∃ a b, pg.T (k+1) 11 [.scr ns, .int 0] [] = .ok (.ref 0) (PT a b []) ∧ Vd a b := by
  have run : ∀ x, pg.T (k+1) 11 x [] = Df.run ⟨"_law_pot", ["_law_script", "_law_k", "_law_cell"], 2, b11⟩ ⟨pg.T k, pg.cst, pg.par⟩ x [] := fun _ => rfl
  rw [run]
  have sm : ∀ x : Int, small (x % 2147483549) = true := fun x => by
    unfold small
    rw [decide_eq_true (show (-(2 ^ 64) : Int) < x % 2147483549 by omega), decide_eq_true (show x % 2147483549 < (2 ^ 64 : Int) by omega)]
    rfl
  have s0 : small 499 = true := by decide
  have s1 : small 3593 = true := by decide
  have s2 : small 48271 = true := by decide
  have l2 : lineN 2 = true := lineN_small (by omega)
  cases ns with
  | nil => exact ⟨0, 16267345, by simp [b11, sm, s0, s1, s2, l2, Df.run, Ss.den, S.den, E.den, Es.den, Es.bo, Es.bt, Eo.den, Eo.tst, E.tst, It.den, R.bind, R.out, R.opt, startS, slotV, slotP, W.now, cmpW, intsW, idxW, L2.atI, L2.ixN, bltW, on1, on2, ifB, Tg.den, Tgs.den, tgo, binW, addW, intW, absW, lenW, truW, tyW, isTy, E.give, E.fresh, W.isNon, lineN_small, cstV, mulW], by constructor <;> decide⟩
  | cons n r =>
    have z : (0 : Int) < (r.length : Int) + 1 := by omega
    refine ⟨_, _, ?_, pot_new (if n < 0 then -n else n)⟩
    simp [b11, sm, s0, s1, s2, l2, z, Df.run, Ss.den, S.den, E.den, Es.den, Es.bo, Es.bt, Eo.den, Eo.tst, E.tst, It.den, R.bind, R.out, R.opt, startS, slotV, slotP, W.now, cmpW, intsW, idxW, L2.atI, L2.ixN, bltW, on1, on2, ifB, Tg.den, Tgs.den, tgo, binW, addW, intW, absW, lenW, truW, tyW, isTy, E.give, E.fresh, W.isNon, lineN_small, cstV, mulW]
theorem t12 {a b n : Int} (v : Vd a b) (hn : 0 < n) (hn2 : n ≤ 1000) : ∃ d a1 b1, pg.T (k+1) 12 [.ref 0, .int n] (PT a b t) = .ok (.int d) (PT a1 b1 t) ∧ 0 ≤ d ∧ d < n ∧ Vd a1 b1 := by
  have run : ∀ x h, pg.T (k+1) 12 x h = Df.run ⟨"_law_draw", ["_law_pot_here", "_law_size", "_law_digit"], 2, b12⟩ ⟨pg.T k, pg.cst, pg.par⟩ x h := fun _ _ => rfl
  rw [run]
  have hn3 : n < 1073741824 := by omega
  obtain ⟨va, vb, vc⟩ := v
  by_cases ha : 0 < a
  · refine ⟨a % n, a / n, b, by simp [b12, ha, hn, hn3, Df.run, Ss.den, S.den, E.den, Es.den, Es.bo, Es.bt, Eo.den, Eo.tst, E.tst, It.den, R.bind, R.out, R.opt, startS, slotV, slotP, W.now, cmpW, intsW, idxW, L2.atI, L2.ixN, bltW, on1, on2, ifB, Tg.den, Tgs.den, tgo, binW, addW, intW, absW, lenW, truW, tyW, isTy, E.give, E.fresh, W.isNon, lineN_small, cstV, mulW], Int.emod_nonneg _ (by omega), Int.emod_lt_of_pos _ hn, Int.ediv_nonneg va (by omega), vb, vc⟩
  · have sm : small b = true := by
      unfold small
      rw [decide_eq_true (show (-(2 ^ 64) : Int) < b by omega), decide_eq_true (show b < (2 ^ 64 : Int) by omega)]
      rfl
    have sm2 : small ((b * 39373 + 3593) % 2147483587) = true := by
      unfold small
      rw [decide_eq_true (show (-(2 ^ 64) : Int) < (b * 39373 + 3593) % 2147483587 by omega), decide_eq_true (show (b * 39373 + 3593) % 2147483587 < (2 ^ 64 : Int) by omega)]
      rfl
    refine ⟨(b * 39373 + 3593) % 2147483587 * ((b * 39373 + 3593) % 2147483587) % 2147483563 / 17 % n, a, (b * 39373 + 3593) % 2147483587, by simp [b12, ha, hn, hn3, sm, sm2, Df.run, Ss.den, S.den, E.den, Es.den, Es.bo, Es.bt, Eo.den, Eo.tst, E.tst, It.den, R.bind, R.out, R.opt, startS, slotV, slotP, W.now, cmpW, intsW, idxW, L2.atI, L2.ixN, bltW, on1, on2, ifB, Tg.den, Tgs.den, tgo, binW, addW, intW, absW, lenW, truW, tyW, isTy, E.give, E.fresh, W.isNon, lineN_small, cstV, mulW], Int.emod_nonneg _ (by omega), Int.emod_lt_of_pos _ hn, va, by omega, by omega⟩
theorem t13 {a b : Int} (v : Vd a b) {ws : List W} (hn : ws ≠ []) (hl : ws.length ≤ 1000) : ∃ w a1 b1, pg.T (k+2) 13 [.ref 0, .lst ws] (PT a b t) = .ok w (PT a1 b1 t) ∧ w ∈ ws ∧ Vd a1 b1 := by
  have run : ∀ x h, pg.T (k+2) 13 x h = Df.run ⟨"_law_pick", ["_law_pot_here", "_law_some"], 2, b13⟩ ⟨pg.T (k+1), pg.cst, pg.par⟩ x h := fun _ _ => rfl
  rw [run]
  have hp : 0 < ws.length := List.length_pos_iff.mpr hn
  obtain ⟨d, a1, b1, e, h0, h3, v1⟩ := t12 (k := k) (t := t) (n := ws.length) v (by omega) (by omega)
  obtain ⟨i, rfl⟩ : ∃ i : Nat, d = i := ⟨d.toNat, by omega⟩
  have hi : i < ws.length := by omega
  have ea : L2.atI ws (i : Int) = some ws[i] := by
    unfold L2.atI L2.ixN
    rw [if_pos h0, if_pos h3]
    simp [hi]
  refine ⟨ws[i], a1, b1, ?_, List.getElem_mem hi, v1⟩
  simp [b13, e, ea, Df.run, Ss.den, S.den, E.den, Es.den, Es.bo, Es.bt, Eo.den, Eo.tst, E.tst, It.den, R.bind, R.out, R.opt, startS, slotV, slotP, W.now, cmpW, intsW, idxW, bltW, on1, on2, ifB, Tg.den, Tgs.den, tgo, binW, addW, intW, absW, lenW, truW, tyW, isTy, E.give, E.fresh, W.isNon, lineN_small, cstV, mulW]
theorem t14 : ∀ (n : Nat) {a b : Int} (v : Vd a b), ∃ (w : Kd) (a1 b1 : Int), pg.T (k+n+2) 14 [.ref 0, .int n] (PT a b t) = .ok w.w (PT a1 b1 t) ∧ w.deep ≤ n + 1 ∧ w.lw 2 = true ∧ Vd a1 b1 := by
  have l2 : lineN 2 = true := lineN_small (by omega)
  have l1 : lineN 1 = true := lineN_small (by omega)
  have l3 : lineN 3 = true := lineN_small (by omega)
  intro n
  induction n with
  | zero =>
    intro a b v
    have run : ∀ x h, pg.T (k+0+2) 14 x h = Df.run ⟨"_law_kind", ["_law_pot_here", "_law_deep", "_law_way", "_law_near"], 2, b14⟩ ⟨pg.T (k+1), pg.cst, pg.par⟩ x h := fun _ _ => rfl
    rw [run]
    obtain ⟨d, a1, b1, e, h0, h3, v1⟩ := t12 (k := k) (t := t) (n := 3) v (by omega) (by omega)
    by_cases hd : d < 2
    · obtain ⟨i, rfl⟩ : ∃ i : Nat, d = i := ⟨d.toNat, by omega⟩
      exact ⟨.ltr i, a1, b1, by simp [b14, e, h3, hd, l2, Kd.w, Df.run, Ss.den, S.den, E.den, Es.den, Es.bo, Es.bt, Eo.den, Eo.tst, E.tst, It.den, R.bind, R.out, R.opt, startS, slotV, slotP, W.now, cmpW, intsW, idxW, L2.atI, L2.ixN, bltW, on1, on2, ifB, Tg.den, Tgs.den, tgo, binW, addW, intW, absW, lenW, truW, tyW, isTy, E.give, E.fresh, W.isNon, lineN_small, cstV, mulW], by simp [Kd.deep], by simp [Kd.lw]; omega, v1⟩
    · exact ⟨.cnt, a1, b1, by simp [b14, e, h3, hd, l1, Kd.w, Df.run, Ss.den, S.den, E.den, Es.den, Es.bo, Es.bt, Eo.den, Eo.tst, E.tst, It.den, R.bind, R.out, R.opt, startS, slotV, slotP, W.now, cmpW, intsW, idxW, L2.atI, L2.ixN, bltW, on1, on2, ifB, Tg.den, Tgs.den, tgo, binW, addW, intW, absW, lenW, truW, tyW, isTy, E.give, E.fresh, W.isNon, lineN_small, cstV, mulW], by simp [Kd.deep], by simp [Kd.lw], v1⟩
  | succ n ih =>
    intro a b v
    have run : ∀ x h, pg.T (k+(n+1)+2) 14 x h = Df.run ⟨"_law_kind", ["_law_pot_here", "_law_deep", "_law_way", "_law_near"], 2, b14⟩ ⟨pg.T (k+n+2), pg.cst, pg.par⟩ x h := fun _ _ => rfl
    rw [run]
    have hn : (0 : Int) < (n : Int) + 1 := by omega
    obtain ⟨d, a1, b1, e, h0, h6, v1⟩ := t12 (k := k + n + 1) (t := t) (n := 6) v (by omega) (by omega)
    by_cases h3 : d < 3
    · by_cases hd : d < 2
      · obtain ⟨i, rfl⟩ : ∃ i : Nat, d = i := ⟨d.toNat, by omega⟩
        exact ⟨.ltr i, a1, b1, by simp [b14, e, hn, h3, hd, l2, Kd.w, Df.run, Ss.den, S.den, E.den, Es.den, Es.bo, Es.bt, Eo.den, Eo.tst, E.tst, It.den, R.bind, R.out, R.opt, startS, slotV, slotP, W.now, cmpW, intsW, idxW, L2.atI, L2.ixN, bltW, on1, on2, ifB, Tg.den, Tgs.den, tgo, binW, addW, intW, absW, lenW, truW, tyW, isTy, E.give, E.fresh, W.isNon, lineN_small, cstV, mulW], by simp [Kd.deep], by simp [Kd.lw]; omega, v1⟩
      · exact ⟨.cnt, a1, b1, by simp [b14, e, hn, h3, hd, l1, Kd.w, Df.run, Ss.den, S.den, E.den, Es.den, Es.bo, Es.bt, Eo.den, Eo.tst, E.tst, It.den, R.bind, R.out, R.opt, startS, slotV, slotP, W.now, cmpW, intsW, idxW, L2.atI, L2.ixN, bltW, on1, on2, ifB, Tg.den, Tgs.den, tgo, binW, addW, intW, absW, lenW, truW, tyW, isTy, E.give, E.fresh, W.isNon, lineN_small, cstV, mulW], by simp [Kd.deep], by simp [Kd.lw], v1⟩
    · obtain ⟨x, a2, b2, e2, dx, lx, v2⟩ := ih v1
      obtain ⟨y, a3, b3, e3, dy, ly, v3⟩ := ih v2
      have hd : d = 3 ∨ d = 4 ∨ d = 5 := by omega
      rcases hd with rfl | rfl | rfl
      · exact ⟨.pair x y, a3, b3, by simp [b14, e, e2, e3, hn, l3, Kd.w, Df.run, Ss.den, S.den, E.den, Es.den, Es.bo, Es.bt, Eo.den, Eo.tst, E.tst, It.den, R.bind, R.out, R.opt, startS, slotV, slotP, W.now, cmpW, intsW, idxW, L2.atI, L2.ixN, bltW, on1, on2, ifB, Tg.den, Tgs.den, tgo, binW, addW, intW, absW, lenW, truW, tyW, isTy, E.give, E.fresh, W.isNon, lineN_small, cstV, mulW], by simp only [Kd.deep]; omega, by simp [Kd.lw, lx, ly], v3⟩
      · exact ⟨.sum x y, a3, b3, by simp [b14, e, e2, e3, hn, l3, Kd.w, Df.run, Ss.den, S.den, E.den, Es.den, Es.bo, Es.bt, Eo.den, Eo.tst, E.tst, It.den, R.bind, R.out, R.opt, startS, slotV, slotP, W.now, cmpW, intsW, idxW, L2.atI, L2.ixN, bltW, on1, on2, ifB, Tg.den, Tgs.den, tgo, binW, addW, intW, absW, lenW, truW, tyW, isTy, E.give, E.fresh, W.isNon, lineN_small, cstV, mulW], by simp only [Kd.deep]; omega, by simp [Kd.lw, lx, ly], v3⟩
      · exact ⟨.fn x y, a3, b3, by simp [b14, e, e2, e3, hn, l3, Kd.w, Df.run, Ss.den, S.den, E.den, Es.den, Es.bo, Es.bt, Eo.den, Eo.tst, E.tst, It.den, R.bind, R.out, R.opt, startS, slotV, slotP, W.now, cmpW, intsW, idxW, L2.atI, L2.ixN, bltW, on1, on2, ifB, Tg.den, Tgs.den, tgo, binW, addW, intW, absW, lenW, truW, tyW, isTy, E.give, E.fresh, W.isNon, lineN_small, cstV, mulW], by simp only [Kd.deep]; omega, by simp [Kd.lw, lx, ly], v3⟩
end K14

set_option maxHeartbeats 4000000
namespace K14
open PySem Ev Mx
/-! ## drawn terms -/
structure Dr (D : Dn) : Prop where
  draw : ∀ {a b : Int} (n : Int) (t : Obs), Vd a b → 0 < n → n ≤ 1000 → ∃ d a1 b1, D.call 12 [.ref 0, .int n] (PT a b t) = .ok (.int d) (PT a1 b1 t) ∧ 0 ≤ d ∧ d < n ∧ Vd a1 b1
  pick : ∀ {a b : Int} (t : Obs) {ws : List W}, Vd a b → ws ≠ [] → ws.length ≤ 1000 → ∃ w a1 b1, D.call 13 [.ref 0, .lst ws] (PT a b t) = .ok w (PT a1 b1 t) ∧ w ∈ ws ∧ Vd a1 b1
  kind : ∀ {a b : Int} (n : Nat) (t : Obs), n ≤ 3 → Vd a b → ∃ (w : Kd) (a1 b1 : Int), D.call 14 [.ref 0, .int n] (PT a b t) = .ok w.w (PT a1 b1 t) ∧ w.deep ≤ n + 1 ∧ w.lw 2 = true ∧ Vd a1 b1
theorem dr (k : Nat) : Dr ⟨pg.T (k + 6), pg.cst, pg.par⟩ where
  draw := fun n t v h1 h2 => t12 (k := k + 5) v h1 h2
  pick := fun t ws v h1 h2 => t13 (k := k + 4) v h1 h2
  kind := fun n t hn v => by
    have e := t14 (k := k + 4 - n) (t := t) n v
    have z : k + 4 - n + n + 2 = k + 6 := by omega
    rw [z] at e
    exact e
/-- names around -/
structure Gd (Γ : List Kd) : Prop where
  a : ∀ A ∈ Γ, A.deep ≤ 3 ∧ A.lw 2 = true
  l0 : .ltr 0 ∈ Γ
  l1 : .ltr 1 ∈ Γ
theorem Gd.cons {Γ : List Kd} {A : Kd} (g : Gd Γ) (h : A.deep ≤ 3) (l : A.lw 2 = true) : Gd (A :: Γ) where
  a := fun B hB => by
    rcases List.mem_cons.mp hB with rfl | hB
    · exact ⟨h, l⟩
    · exact g.a B hB
  l0 := List.mem_cons_of_mem _ g.l0
  l1 := List.mem_cons_of_mem _ g.l1
/-- what is asked of a drawn term -/
structure Dn2 (Γ : List Kd) (K : Kd) (d : Int) (q : Nat) (u : Tm) : Prop where
  kd : u.kd Γ = some K
  len : u.ws.length ≤ M d.toNat q
  lim : u.lim 100 9 3 2 = true
def Made (D : Dn) (f : Nat) : Prop := ∀ (q : Nat) (d : Int) (K : Kd) (Γ : List Kd) (a b : Int) (t : Obs), 2 * d.toNat + q ≤ f → K.deep ≤ q + 1 → q ≤ 2 → d.toNat ≤ 3 → Gd Γ → Γ.length + f ≤ 100 → K.lw 2 = true → Vd a b →
  ∃ (u : Tm) (a1 b1 : Int), D.call 16 [.ref 0, K.w, .lst (Γ.map Kd.w), .int d] (PT a b t) = .ok (.lst u.ws) (PT a1 b1 t) ∧ Dn2 Γ K d q u ∧ Vd a1 b1
def Cuts (D : Dn) (f : Nat) : Prop := ∀ (q : Nat) (d : Nat) (K : Kd) (Γ : List Kd) (a b : Int) (t : Obs), 2 * (d + 1) + q ≤ f → K.deep ≤ q + 1 → q ≤ 2 → d + 1 ≤ 3 → Gd Γ → Γ.length + f ≤ 100 → K.lw 2 = true → Vd a b →
  ∃ (u : Tm) (a1 b1 : Int), D.call 15 [.ref 0, K.w, .lst (Γ.map Kd.w), .int (d + 1 : Nat)] (PT a b t) = .ok (.lst u.ws) (PT a1 b1 t) ∧ Dn2 Γ K (d + 1 : Nat) q u ∧ Vd a1 b1
theorem okd_small {A : Kd} (h : A.deep ≤ 5) : Tm.okd A = some A := by
  unfold Tm.okd
  rw [if_pos ⟨by have := Kd.signs_deep A 5 h; omega, by omega⟩]
theorem M_le {d q : Nat} (hd : d ≤ 3) (hq : q ≤ 2) : M d q ≤ 209 := by
  have h1 : d = 0 ∨ d = 1 ∨ d = 2 ∨ d = 3 := by omega
  have h2 : q = 0 ∨ q = 1 ∨ q = 2 := by omega
  rcases h1 with rfl | rfl | rfl | rfl <;> rcases h2 with rfl | rfl | rfl <;> simp [M]
theorem cut_ok {D : Dn} (dr : Dr D) {f : Nat} (mk : Made D f) (q d : Nat) (K : Kd) (Γ : List Kd) (a b : Int) (t : Obs) (hr : 2 * (d + 1) + q ≤ f + 1) (hk : K.deep ≤ q + 1) (hq : q ≤ 2) (hd : d + 1 ≤ 3) (g : Gd Γ) (hl : Γ.length + f + 1 ≤ 100) (kl : K.lw 2 = true) (v : Vd a b) :
    ∃ (u : Tm) (a1 b1 : Int), Df.run ⟨"_law_cut", ["_law_pot_here", "_law_kind_here", "_law_names", "_law_deep", "_law_way", "_law_other", "_law_body", "_law_what", "_law_near", "_law_far", "_law_more", "_law_arm", "_law_step"], 4, b15⟩ D [.ref 0, K.w, .lst (Γ.map Kd.w), .int (d + 1 : Nat)] (PT a b t) = .ok (.lst u.ws) (PT a1 b1 t) ∧ Dn2 Γ K (d + 1 : Nat) q u ∧ Vd a1 b1 := by
  have hM := M_le (d := d) (q := q) (by omega) hq
  have hM1 := M_le (d := d) (q := 1) (by omega) (by omega)
  have hM0 := M_le (d := d) (q := 0) (by omega) (by omega)
  have hMM : M (d + 1) q = 2 + M d 1 + 2 * M d q := by simp only [M]
  have hM01 : M d 0 ≤ M d 1 := M_mono d (by omega)
  have hM2 := M_two d q
  have tn : ((d : Int)).toNat = d := by omega
  have tn1 : (((d + 1 : Nat) : Int)).toNat = d + 1 := by omega
  have ec : ((d : Int) + 1 - 1) = d := by omega
  have mk' : ∀ (q : Nat) (K : Kd) (Γ : List Kd) (a b : Int), 2 * d + q ≤ f → K.deep ≤ q + 1 → q ≤ 2 → Gd Γ → Γ.length + f ≤ 100 → K.lw 2 = true → Vd a b →
      ∃ (u : Tm) (a1 b1 : Int), D.call 16 [.ref 0, K.w, .lst (Γ.map Kd.w), .int d] (PT a b t) = .ok (.lst u.ws) (PT a1 b1 t) ∧ u.kd Γ = some K ∧ u.ws.length ≤ M d q ∧ u.lim 100 9 3 2 = true ∧ Vd a1 b1 := fun q K Γ a b h1 h2 h3 h4 h5 h6 h7 => by
    obtain ⟨u, a1, b1, e, ⟨x, y, z⟩, w⟩ := mk q d K Γ a b t (by omega) h2 h3 (by omega) h4 h5 h6 h7
    rw [tn] at y
    exact ⟨u, a1, b1, e, x, y, z, w⟩
  obtain ⟨way, a1, b1, ew, w0, w5, v1⟩ := dr.draw 5 t v (by omega) (by omega)
  obtain ⟨o, a2, b2, eo, od, ol, v2⟩ := dr.kind 1 t (by omega) v1
  have eo : D.call 14 [.ref 0, .int 1] (PT a1 b1 t) = .ok o.w (PT a2 b2 t) := eo
  have hw : way = 0 ∨ way = 1 ∨ way = 2 ∨ way = 3 ∨ way = 4 := by omega
  have lg : (Γ.map Kd.w).length ≤ 100 := by rw [List.length_map]; omega
  rcases hw with rfl | rfl | rfl | rfl | rfl
  · obtain ⟨ub, a3, b3, e3, k3, l3, i3, v3⟩ := mk' q K (o :: Γ) _ _ (by omega) hk hq (g.cons (by omega) ol) (by simp only [List.length_cons]; omega) kl v2
    obtain ⟨ua, a4, b4, e4, k4, l4, i4, v4⟩ := mk' 1 o Γ _ _ (by omega) od (by omega) g (by omega) ol v3
    simp only [List.map_cons] at e3
    refine ⟨.call (.fn o ub) ua, a4, b4, ?_, ⟨?_, ?_, ?_⟩, v4⟩
    · simp (disch := first | (show (_ : Nat) ≤ 1000; omega) | simp) [b15, ew, eo, e3, e4, eqN, ec, Tm.ws, Df.run, Ss.den, S.den, E.den, Es.den, Es.bo, Es.bt, Eo.den, Eo.tst, E.tst, It.den, R.bind, R.out, R.opt, startS, slotV, slotP, W.now, cmpW, intsW, idxW, L2.atI, L2.ixN, bltW, on1, on2, ifB, Tg.den, Tgs.den, tgo, binW, addW, intW, absW, lenW, truW, tyW, isTy, E.give, E.fresh, W.isNon, lineN_small, cstV, mulW]
    · simp [Tm.kd, k3, k4, okd_small (show (Kd.fn o K).deep ≤ 5 by simp only [Kd.deep]; omega)]
    · rw [tn1]; simp [Tm.ws]; omega
    · simp [Tm.lim, i3, i4, ol]; omega
  · obtain ⟨ua, a3, b3, e3, k3, l3, i3, v3⟩ := mk' 1 o Γ _ _ (by omega) od (by omega) g (by omega) ol v2
    obtain ⟨ub, a4, b4, e4, k4, l4, i4, v4⟩ := mk' q K (o :: Γ) _ _ (by omega) hk hq (g.cons (by omega) ol) (by simp only [List.length_cons]; omega) kl v3
    simp only [List.map_cons] at e4
    refine ⟨.let_ ua ub, a4, b4, ?_, ⟨?_, ?_, ?_⟩, v4⟩
    · simp (disch := first | (show (_ : Nat) ≤ 1000; omega) | simp) [b15, ew, eo, e3, e4, eqN, ec, Tm.ws, Df.run, Ss.den, S.den, E.den, Es.den, Es.bo, Es.bt, Eo.den, Eo.tst, E.tst, It.den, R.bind, R.out, R.opt, startS, slotV, slotP, W.now, cmpW, intsW, idxW, L2.atI, L2.ixN, bltW, on1, on2, ifB, Tg.den, Tgs.den, tgo, binW, addW, intW, absW, lenW, truW, tyW, isTy, E.give, E.fresh, W.isNon, lineN_small, cstV, mulW]
    · simp [Tm.kd, k3, k4]
    · rw [tn1]; simp [Tm.ws]; omega
    · simp [Tm.lim, i3, i4]
  · obtain ⟨ua, a3, b3, e3, k3, l3, i3, v3⟩ := mk' q K Γ _ _ (by omega) hk hq g (by omega) kl v2
    obtain ⟨ub, a4, b4, e4, k4, l4, i4, v4⟩ := mk' 1 o Γ _ _ (by omega) od (by omega) g (by omega) ol v3
    obtain ⟨x, a5, b5, e5, x0, x2, v5⟩ := dr.draw 2 t v4 (by omega) (by omega)
    by_cases hx : x = 0
    · subst hx
      refine ⟨.first (.both ua ub), a5, b5, ?_, ⟨?_, ?_, ?_⟩, v5⟩
      · simp (disch := first | (show (_ : Nat) ≤ 1000; omega) | simp) [b15, ew, eo, e3, e4, e5, eqN, ec, Tm.ws, Df.run, Ss.den, S.den, E.den, Es.den, Es.bo, Es.bt, Eo.den, Eo.tst, E.tst, It.den, R.bind, R.out, R.opt, startS, slotV, slotP, W.now, cmpW, intsW, idxW, L2.atI, L2.ixN, bltW, on1, on2, ifB, Tg.den, Tgs.den, tgo, binW, addW, intW, absW, lenW, truW, tyW, isTy, E.give, E.fresh, W.isNon, lineN_small, cstV, mulW]
      · simp [Tm.kd, k3, k4, okd_small (show (Kd.pair K o).deep ≤ 5 by simp only [Kd.deep]; omega)]
      · rw [tn1]; simp [Tm.ws]; omega
      · simp [Tm.lim, i3, i4]
    · refine ⟨.second (.both ub ua), a5, b5, ?_, ⟨?_, ?_, ?_⟩, v5⟩
      · simp (disch := first | (show (_ : Nat) ≤ 1000; omega) | simp) [b15, ew, eo, e3, e4, e5, eqN, ec, hx, Tm.ws, Df.run, Ss.den, S.den, E.den, Es.den, Es.bo, Es.bt, Eo.den, Eo.tst, E.tst, It.den, R.bind, R.out, R.opt, startS, slotV, slotP, W.now, cmpW, intsW, idxW, L2.atI, L2.ixN, bltW, on1, on2, ifB, Tg.den, Tgs.den, tgo, binW, addW, intW, absW, lenW, truW, tyW, isTy, E.give, E.fresh, W.isNon, lineN_small, cstV, mulW]
      · simp [Tm.kd, k3, k4, okd_small (show (Kd.pair o K).deep ≤ 5 by simp only [Kd.deep]; omega)]
      · rw [tn1]; simp [Tm.ws]; omega
      · simp [Tm.lim, i3, i4]
  · obtain ⟨m, a3, b3, em, md, ml, v3⟩ := dr.kind 0 t (by omega) v2
    have em : D.call 14 [.ref 0, .int 0] (PT a2 b2 t) = .ok m.w (PT a3 b3 t) := em
    obtain ⟨us, a4, b4, e4, k4, l4, i4, v4⟩ := mk' 1 o Γ _ _ (by omega) od (by omega) g (by omega) ol v3
    obtain ⟨x, a5, b5, e5, x0, x2, v5⟩ := dr.draw 2 t v4 (by omega) (by omega)
    by_cases hx : x = 0
    · subst hx
      obtain ⟨ur, a6, b6, e6, k6, l6, i6, v6⟩ := mk' 0 m Γ _ _ (by omega) md (by omega) g (by omega) ml v5
      obtain ⟨ua, a7, b7, e7, k7, l7, i7, v7⟩ := mk' q K (o :: Γ) _ _ (by omega) hk hq (g.cons (by omega) ol) (by simp only [List.length_cons]; omega) kl v6
      obtain ⟨ub, a8, b8, e8, k8, l8, i8, v8⟩ := mk' q K (m :: Γ) _ _ (by omega) hk hq (g.cons (by omega) ml) (by simp only [List.length_cons]; omega) kl v7
      simp only [List.map_cons] at e7 e8
      refine ⟨.which (.right o ur) ua ub, a8, b8, ?_, ⟨?_, ?_, ?_⟩, v8⟩
      · simp (disch := first | (show (_ : Nat) ≤ 1000; omega) | simp) [b15, ew, eo, em, e4, e5, e6, e7, e8, eqN, ec, Tm.ws, Df.run, Ss.den, S.den, E.den, Es.den, Es.bo, Es.bt, Eo.den, Eo.tst, E.tst, It.den, R.bind, R.out, R.opt, startS, slotV, slotP, W.now, cmpW, intsW, idxW, L2.atI, L2.ixN, bltW, on1, on2, ifB, Tg.den, Tgs.den, tgo, binW, addW, intW, absW, lenW, truW, tyW, isTy, E.give, E.fresh, W.isNon, lineN_small, cstV, mulW]
      · simp [Tm.kd, k6, k7, k8, okd_small (show (Kd.sum o m).deep ≤ 5 by simp only [Kd.deep]; omega)]
      · rw [tn1]; simp [Tm.ws]; omega
      · simp [Tm.lim, i6, i7, i8, ol]; omega
    · obtain ⟨ua, a7, b7, e7, k7, l7, i7, v7⟩ := mk' q K (o :: Γ) _ _ (by omega) hk hq (g.cons (by omega) ol) (by simp only [List.length_cons]; omega) kl v5
      obtain ⟨ub, a8, b8, e8, k8, l8, i8, v8⟩ := mk' q K (m :: Γ) _ _ (by omega) hk hq (g.cons (by omega) ml) (by simp only [List.length_cons]; omega) kl v7
      simp only [List.map_cons] at e7 e8
      refine ⟨.which (.left m us) ua ub, a8, b8, ?_, ⟨?_, ?_, ?_⟩, v8⟩
      · simp (disch := first | (show (_ : Nat) ≤ 1000; omega) | simp) [b15, ew, eo, em, e4, e5, e7, e8, eqN, ec, hx, Tm.ws, Df.run, Ss.den, S.den, E.den, Es.den, Es.bo, Es.bt, Eo.den, Eo.tst, E.tst, It.den, R.bind, R.out, R.opt, startS, slotV, slotP, W.now, cmpW, intsW, idxW, L2.atI, L2.ixN, bltW, on1, on2, ifB, Tg.den, Tgs.den, tgo, binW, addW, intW, absW, lenW, truW, tyW, isTy, E.give, E.fresh, W.isNon, lineN_small, cstV, mulW]
      · simp [Tm.kd, k4, k7, k8, okd_small (show (Kd.sum o m).deep ≤ 5 by simp only [Kd.deep]; omega)]
      · rw [tn1]; simp [Tm.ws]; omega
      · simp [Tm.lim, i4, i7, i8, ml]; omega
  · obtain ⟨ua, a3, b3, e3, k3, l3, i3, v3⟩ := mk' q K (K :: Γ) _ _ (by omega) hk hq (g.cons (by omega) kl) (by simp only [List.length_cons]; omega) kl v2
    obtain ⟨x, a4, b4, e4, x0, x3, v4⟩ := dr.draw 3 t v3 (by omega) (by omega)
    obtain ⟨ub, a5, b5, e5, k5, l5, i5, v5⟩ := mk' q K Γ _ _ (by omega) hk hq g (by omega) kl v4
    obtain ⟨x, rfl⟩ : ∃ y : Nat, x = y := ⟨x.toNat, by omega⟩
    simp only [List.map_cons] at e3
    refine ⟨.turns K (.told x) ua ub, a5, b5, ?_, ⟨?_, ?_, ?_⟩, v5⟩
    · simp (disch := first | (show (_ : Nat) ≤ 1000; omega) | simp) [b15, ew, eo, e3, e4, e5, eqN, ec, Tm.ws, Df.run, Ss.den, S.den, E.den, Es.den, Es.bo, Es.bt, Eo.den, Eo.tst, E.tst, It.den, R.bind, R.out, R.opt, startS, slotV, slotP, W.now, cmpW, intsW, idxW, L2.atI, L2.ixN, bltW, on1, on2, ifB, Tg.den, Tgs.den, tgo, binW, addW, intW, absW, lenW, truW, tyW, isTy, E.give, E.fresh, W.isNon, lineN_small, cstV, mulW]
    · simp [Tm.kd, k3, k5]
    · rw [tn1]; simp [Tm.ws]; omega
    · simp [Tm.lim, i3, i5, kl]; omega
end K14

set_option maxHeartbeats 4000000
namespace K14
open PySem Ev Mx
def lcOf : S → E
  | .asg _ _ _ e _ => e
  | _ => .non 0 ⟨0, 0, 0, 0⟩
def lcE : E → E
  | .lc e _ _ _ _ _ _ => e
  | e => e
def lcT : E → Tg
  | .lc _ t _ _ _ _ _ => t
  | _ => .tup .nil 0 ⟨0, 0, 0, 0⟩
def lcC : E → Eo
  | .lc _ _ _ c _ _ _ => c
  | _ => .non
abbrev hE : E := lcOf (nth b16 0)
abbrev nms (is : List Nat) : List W := is.map fun (i : Nat) => W.int (i : Int)
/-- the names of a kind -/
theorem here_go {D : Dn} {h : Obs} {K : Kd} {r n d : Sl} (hk : K.deep ≤ 60) : ∀ (Γ : List Kd) (o : Nat) (acc : List W), acc.length + Γ.length ≤ 1000 → ∃ is : List Nat,
    lcGo (fun x => (lcT hE).put x (wipeS [r, .val K.w, n, d, .non, .non, .non, .non] [6, 7])) (fun σ h => (lcC hE).tst D σ h) (fun σ h => (lcE hE).den D false σ h) (enumW o (Γ.map Kd.w)) acc h = .ok (acc ++ nms is) h ∧
      (∀ i ∈ is, o ≤ i ∧ Γ[i - o]? = some K) ∧ (K ∈ Γ → is ≠ []) ∧ is.length ≤ Γ.length
  | [], o, acc, _ => ⟨[], by simp [enumW, lcGo, nms], ⟨(fun i hi => absurd hi (by simp)), (fun h => absurd h (by simp)), by simp⟩⟩
  | A :: Γ, o, acc, hl => by
    simp only [List.length_cons] at hl
    have z : decide (acc.length < sizeLine) = true := decide_eq_true (sl_small (by omega))
    have put : (lcT hE).put (.tup [.int o, A.w]) (wipeS [r, .val K.w, n, d, .non, .non, .non, .non] [6, 7]) = some [r, .val K.w, n, d, .non, .non, .val (.int o), .val A.w] := rfl
    have tst : (lcC hE).tst D [r, .val K.w, n, d, .non, .non, .val (.int o), .val A.w] h = .ok (decide (A = K)) h := by
      have e := Kd.eq A K (.inr (by omega))
      have n1 : ∀ h, W.now h A.w = A.w := fun h => by cases A <;> rfl
      have n2 : ∀ h, W.now h K.w = K.w := fun h => by cases K <;> rfl
      simp [lcC, hE, lcOf, nth, b16, e, n1, n2, Eo.tst, E.tst, E.den, R.bind, R.opt, slotV, cmpW]
    have val : (lcE hE).den D false [r, .val K.w, n, d, .non, .non, .val (.int o), .val A.w] h = .ok (.int o) h := rfl
    show ∃ is : List Nat, lcGo _ _ _ (.tup [.int o, A.w] :: enumW (o + 1) (Γ.map Kd.w)) acc h = _ ∧ _
    by_cases hA : A = K
    · obtain ⟨is, e, p, q, ql⟩ := here_go (D := D) (h := h) (r := r) (n := n) (d := d) hk Γ (o + 1) (acc ++ [.int o]) (by simp only [List.length_append, List.length_cons, List.length_nil]; omega)
      refine ⟨o :: is, ?_, ?_, fun _ => by simp, by simp only [List.length_cons]; omega⟩
      · unfold lcGo
        simp only [put, tst, val, decide_eq_true hA, z]
        rw [e]
        simp
      · intro i hi
        rcases List.mem_cons.mp hi with rfl | hi
        · exact ⟨Nat.le_refl _, by rw [Nat.sub_self]; simp [hA]⟩
        · obtain ⟨p1, p2⟩ := p i hi
          refine ⟨by omega, ?_⟩
          have ei : i - o = (i - (o + 1)) + 1 := by omega
          rw [ei, List.getElem?_cons_succ]
          exact p2
    · obtain ⟨is, e, p, q, ql⟩ := here_go (D := D) (h := h) (r := r) (n := n) (d := d) hk Γ (o + 1) acc (by omega)
      refine ⟨is, ?_, ?_, fun hm => q ?_, by simp only [List.length_cons]; omega⟩
      · unfold lcGo
        simp only [put, tst, decide_eq_false hA]
        rw [e]
      · intro i hi
        obtain ⟨p1, p2⟩ := p i hi
        refine ⟨by omega, ?_⟩
        have ei : i - o = (i - (o + 1)) + 1 := by omega
        rw [ei, List.getElem?_cons_succ]
        exact p2
      · rcases List.mem_cons.mp hm with y | y
        · exact absurd y.symm hA
        · exact y
theorem here_ok {D : Dn} {h : Obs} {K : Kd} {r d : Sl} {Γ : List Kd} (hk : K.deep ≤ 60) (hl : Γ.length ≤ 1000) (hr : ∀ ws, r ≠ .own ws) (hd : ∀ ws, d ≠ .own ws) : ∃ is : List Nat,
    (nth b16 0).den D [r, .val K.w, .val (.lst (Γ.map Kd.w)), d, .non, .non, .non, .non] h = .nx [r, .val K.w, .val (.lst (Γ.map Kd.w)), d, .val (.lst (nms is)), .non, .non, .non] h ∧
      (∀ i ∈ is, Γ[i]? = some K) ∧ (K ∈ Γ → is ≠ []) ∧ is.length ≤ Γ.length := by
  obtain ⟨is, e, p, q, ql⟩ := here_go (D := D) (h := h) (r := r) (n := .val (.lst (Γ.map Kd.w))) (d := d) hk Γ 0 [] (by simpa using hl)
  refine ⟨is, ?_, fun i hi => (p i hi).2, q, ql⟩
  have u : (nth b16 0).den D [r, .val K.w, .val (.lst (Γ.map Kd.w)), d, .non, .non, .non, .non] h =
      ((lcGo (fun x => (lcT hE).put x (wipeS [r, .val K.w, .val (.lst (Γ.map Kd.w)), d, .non, .non, .non, .non] [6, 7])) (fun σ h => (lcC hE).tst D σ h) (fun σ h => (lcE hE).den D false σ h) (enumW 0 (Γ.map Kd.w)) [] h).bind fun ys h => R.ok (W.lst ys) h).out [r, .val K.w, .val (.lst (Γ.map Kd.w)), d, .non, .non, .non, .non] fun w h => .nx ([r, .val K.w, .val (.lst (Γ.map Kd.w)), d, .non, .non, .non, .non].set 4 (.val w)) h := rfl
  rw [u, e]
  rfl
abbrev St (K : Kd) (Γ : List Kd) (d : Int) (is : List Nat) : Sls := [.val (.ref 0), .val K.w, .val (.lst (Γ.map Kd.w)), .val (.int d), .val (.lst (nms is)), .non, .non, .non]
theorem pick_here {D : Dn} (dr : Dr D) {is : List Nat} {Γ : List Kd} {K : Kd} (hp : ∀ i ∈ is, Γ[i]? = some K) (hn : is ≠ []) (hl : is.length ≤ 1000) {a b : Int} {t : Obs} (v : Vd a b) : ∃ (i : Nat) (a1 b1 : Int), D.call 13 [.ref 0, .lst (nms is)] (PT a b t) = .ok (.int i) (PT a1 b1 t) ∧ Γ[i]? = some K ∧ Vd a1 b1 := by
  obtain ⟨w, a1, b1, e, hw, v1⟩ := dr.pick t (ws := nms is) v (by simpa [nms] using hn) (by simpa [nms] using hl)
  obtain ⟨i, hi, rfl⟩ := List.mem_map.mp hw
  exact ⟨i, a1, b1, e, hp i hi, v1⟩
theorem len_here {is : List Nat} {Γ : List Kd} {K : Kd} (hp : ∀ i ∈ is, Γ[i]? = some K) : ∀ i ∈ is, i < Γ.length := fun i hi => (List.getElem?_eq_some_iff.mp (hp i hi)).1
theorem name_ok {Γ : List Kd} {K : Kd} {i : Nat} {d : Int} {q : Nat} (h : Γ[i]? = some K) (hl : Γ.length ≤ 100) : Dn2 Γ K d q (.name i) where
  kd := h
  len := by have := M_two d.toNat q; simp [Tm.ws]; omega
  lim := by
    have := (List.getElem?_eq_some_iff.mp h).1
    simp [Tm.lim]
    omega
theorem kcase {D : Dn} (dr : Dr D) {f : Nat} {q : Nat} {d : Int} {K : Kd} {Γ : List Kd} {is : List Nat} {a b : Int} {t : Obs} (mk : 1 ≤ f → Made D (f - 1)) (hr : 2 * d.toNat + q ≤ f) (hk : K.deep ≤ q + 1) (hq : q ≤ 2) (hd : d.toNat ≤ 3) (g : Gd Γ) (hl : Γ.length + f ≤ 100) (kl : K.lw 2 = true) (v : Vd a b)
    (hp : ∀ i ∈ is, Γ[i]? = some K) (hin : K ∈ Γ → is ≠ []) (hil : is.length ≤ 1000) :
    ∃ (u : Tm) (a1 b1 : Int), Ss.den D (dropS b16 3) (St K Γ d is) (PT a b t) = .rt (.lst u.ws) (PT a1 b1 t) ∧ Dn2 Γ K d q u ∧ Vd a1 b1 := by
  have lg : (Γ.map Kd.w).length ≤ 100 := by rw [List.length_map]; omega
  have td : (d - 1).toNat = d.toNat - 1 := by omega
  have mk' : ∀ (q' : Nat) (K : Kd) (Γ : List Kd) (a b : Int), q = q' + 1 → K.deep ≤ q' + 1 → Gd Γ → Γ.length + f ≤ 101 → K.lw 2 = true → Vd a b →
      ∃ (u : Tm) (a1 b1 : Int), D.call 16 [.ref 0, K.w, .lst (Γ.map Kd.w), .int (d - 1)] (PT a b t) = .ok (.lst u.ws) (PT a1 b1 t) ∧ u.kd Γ = some K ∧ u.ws.length ≤ M (d.toNat - 1) q' ∧ u.lim 100 9 3 2 = true ∧ Vd a1 b1 := fun q' K Γ a b h1 h2 h4 h5 h6 h7 => by
    obtain ⟨u, a1, b1, e, ⟨x, y, z⟩, w⟩ := mk (by omega) q' (d - 1) K Γ a b t (by omega) h2 (by omega) (by omega) h4 (by omega) h6 h7
    rw [td] at y
    exact ⟨u, a1, b1, e, x, y, z, w⟩
  have hMs : ∀ q', M (d.toNat - 1) q' ≤ 209 ∨ 3 ≤ q' := fun q' => by
    by_cases h : q' ≤ 2
    · exact .inl (M_le (by omega) h)
    · exact .inr (by omega)
  have hM2 := M_two d.toNat q
  have wd := Kd.words
  cases K with
  | ltr i =>
    have hmem : Kd.ltr i ∈ Γ := by
      have hi : i < 2 := of_decide_eq_true kl
      have hi : i = 0 ∨ i = 1 := by omega
      rcases hi with rfl | rfl
      · exact g.l0
      · exact g.l1
    obtain ⟨j, a1, b1, e, hj, v1⟩ := pick_here dr hp (hin hmem) hil (t := t) v
    refine ⟨.name j, a1, b1, ?_, name_ok hj (by omega), v1⟩
    simp (disch := first | (show (_ : Nat) ≤ 1000; omega) | simp) [dropS, b16, St, Kd.w, eqS, e, Tm.ws, Df.run, Ss.den, S.den, E.den, Es.den, Es.bo, Es.bt, Eo.den, Eo.tst, E.tst, It.den, R.bind, R.out, R.opt, startS, slotV, slotP, W.now, cmpW, intsW, idxW, L2.atI, L2.ixN, bltW, on1, on2, ifB, Tg.den, Tgs.den, tgo, binW, addW, intW, absW, lenW, truW, tyW, isTy, E.give, E.fresh, W.isNon, lineN_small, cstV, mulW]
  | cnt =>
    obtain ⟨x, a1, b1, e, x0, x3, v1⟩ := dr.draw 3 t v (by omega) (by omega)
    obtain ⟨y, a2, b2, e2, y0, y9, v2⟩ := dr.draw 9 t v1 (by omega) (by omega)
    obtain ⟨y, rfl⟩ : ∃ z : Nat, y = z := ⟨y.toNat, by omega⟩
    by_cases hx : 0 < x
    · refine ⟨.told y, a2, b2, ?_, ⟨rfl, by simp [Tm.ws]; omega, by simp [Tm.lim]; omega⟩, v2⟩
      simp (disch := first | (show (_ : Nat) ≤ 1000; omega) | simp) [dropS, b16, St, Kd.w, eqS, e, e2, hx, wd, Tm.ws, Df.run, Ss.den, S.den, E.den, Es.den, Es.bo, Es.bt, Eo.den, Eo.tst, E.tst, It.den, R.bind, R.out, R.opt, startS, slotV, slotP, W.now, cmpW, intsW, idxW, L2.atI, L2.ixN, bltW, on1, on2, ifB, Tg.den, Tgs.den, tgo, binW, addW, intW, absW, lenW, truW, tyW, isTy, E.give, E.fresh, W.isNon, lineN_small, cstV, mulW]
    · refine ⟨.next (.told y), a2, b2, ?_, ⟨rfl, by simp [Tm.ws]; omega, by simp [Tm.lim]; omega⟩, v2⟩
      simp (disch := first | (show (_ : Nat) ≤ 1000; omega) | simp) [dropS, b16, St, Kd.w, eqS, e, e2, hx, wd, Tm.ws, Df.run, Ss.den, S.den, E.den, Es.den, Es.bo, Es.bt, Eo.den, Eo.tst, E.tst, It.den, R.bind, R.out, R.opt, startS, slotV, slotP, W.now, cmpW, intsW, idxW, L2.atI, L2.ixN, bltW, on1, on2, ifB, Tg.den, Tgs.den, tgo, binW, addW, intW, absW, lenW, truW, tyW, isTy, E.give, E.fresh, W.isNon, lineN_small, cstV, mulW]
  | pair A B =>
    simp only [Kd.deep] at hk
    obtain ⟨l1, l2⟩ := Bool.and_eq_true_iff.mp kl
    obtain ⟨q', rfl⟩ : ∃ q', q = q' + 1 := ⟨q - 1, by
      have : 1 ≤ A.deep := by cases A <;> simp [Kd.deep] <;> omega
      omega⟩
    obtain ⟨ua, a1, b1, e1, k1, n1, i1, v1⟩ := mk' q' A Γ _ _ rfl (by omega) g (by omega) l1 v
    obtain ⟨ub, a2, b2, e2, k2, n2, i2, v2⟩ := mk' q' B Γ _ _ rfl (by omega) g (by omega) l2 v1
    have hMM := M_str d.toNat q'
    have hMq := hMs q'
    refine ⟨.both ua ub, a2, b2, ?_, ⟨?_, ?_, ?_⟩, v2⟩
    · simp (disch := first | (show (_ : Nat) ≤ 1000; omega) | simp) [dropS, b16, St, Kd.w, eqS, e1, e2, wd, Tm.ws, Df.run, Ss.den, S.den, E.den, Es.den, Es.bo, Es.bt, Eo.den, Eo.tst, E.tst, It.den, R.bind, R.out, R.opt, startS, slotV, slotP, W.now, cmpW, intsW, idxW, L2.atI, L2.ixN, bltW, on1, on2, ifB, Tg.den, Tgs.den, tgo, binW, addW, intW, absW, lenW, truW, tyW, isTy, E.give, E.fresh, W.isNon, lineN_small, cstV, mulW]
    · simp [Tm.kd, k1, k2, okd_small (show (Kd.pair A B).deep ≤ 5 by simp only [Kd.deep]; omega)]
    · simp [Tm.ws]; omega
    · simp [Tm.lim, i1, i2]
  | sum A B =>
    simp only [Kd.deep] at hk
    obtain ⟨l1, l2⟩ := Bool.and_eq_true_iff.mp kl
    obtain ⟨q', rfl⟩ : ∃ q', q = q' + 1 := ⟨q - 1, by
      have : 1 ≤ A.deep := by cases A <;> simp [Kd.deep] <;> omega
      omega⟩
    obtain ⟨x, a1, b1, e, x0, x3, v1⟩ := dr.draw 2 t v (by omega) (by omega)
    have hMM := M_str d.toNat q'
    have hMq := hMs q'
    by_cases hx : x = 0
    · subst hx
      obtain ⟨ua, a2, b2, e2, k2, n2, i2, v2⟩ := mk' q' A Γ _ _ rfl (by omega) g (by omega) l1 v1
      refine ⟨.left B ua, a2, b2, ?_, ⟨?_, ?_, ?_⟩, v2⟩
      · simp (disch := first | (show (_ : Nat) ≤ 1000; omega) | simp) [dropS, b16, St, Kd.w, eqS, eqN, e, e2, wd, Tm.ws, Df.run, Ss.den, S.den, E.den, Es.den, Es.bo, Es.bt, Eo.den, Eo.tst, E.tst, It.den, R.bind, R.out, R.opt, startS, slotV, slotP, W.now, cmpW, intsW, idxW, L2.atI, L2.ixN, bltW, on1, on2, ifB, Tg.den, Tgs.den, tgo, binW, addW, intW, absW, lenW, truW, tyW, isTy, E.give, E.fresh, W.isNon, lineN_small, cstV, mulW]
      · simp [Tm.kd, k2, okd_small (show (Kd.sum A B).deep ≤ 5 by simp only [Kd.deep]; omega)]
      · simp [Tm.ws]; omega
      · simp [Tm.lim, i2, l2]; omega
    · obtain ⟨ua, a2, b2, e2, k2, n2, i2, v2⟩ := mk' q' B Γ _ _ rfl (by omega) g (by omega) l2 v1
      refine ⟨.right A ua, a2, b2, ?_, ⟨?_, ?_, ?_⟩, v2⟩
      · simp (disch := first | (show (_ : Nat) ≤ 1000; omega) | simp) [dropS, b16, St, Kd.w, eqS, eqN, e, e2, hx, wd, Tm.ws, Df.run, Ss.den, S.den, E.den, Es.den, Es.bo, Es.bt, Eo.den, Eo.tst, E.tst, It.den, R.bind, R.out, R.opt, startS, slotV, slotP, W.now, cmpW, intsW, idxW, L2.atI, L2.ixN, bltW, on1, on2, ifB, Tg.den, Tgs.den, tgo, binW, addW, intW, absW, lenW, truW, tyW, isTy, E.give, E.fresh, W.isNon, lineN_small, cstV, mulW]
      · simp [Tm.kd, k2, okd_small (show (Kd.sum A B).deep ≤ 5 by simp only [Kd.deep]; omega)]
      · simp [Tm.ws]; omega
      · simp [Tm.lim, i2, l1]; omega
  | fn A B =>
    simp only [Kd.deep] at hk
    obtain ⟨l1, l2⟩ := Bool.and_eq_true_iff.mp kl
    obtain ⟨q', rfl⟩ : ∃ q', q = q' + 1 := ⟨q - 1, by
      have : 1 ≤ A.deep := by cases A <;> simp [Kd.deep] <;> omega
      omega⟩
    have hMM := M_str d.toNat q'
    have hMq := hMs q'
    obtain ⟨ua, a2, b2, e2, k2, n2, i2, v2⟩ := mk' q' B (A :: Γ) _ _ rfl (by omega) (g.cons (by omega) l1) (by simp only [List.length_cons]; omega) l2 v
    simp only [List.map_cons] at e2
    refine ⟨.fn A ua, a2, b2, ?_, ⟨?_, ?_, ?_⟩, v2⟩
    · simp (disch := first | (show (_ : Nat) ≤ 1000; omega) | simp) [dropS, b16, St, Kd.w, eqS, e2, wd, Tm.ws, Df.run, Ss.den, S.den, E.den, Es.den, Es.bo, Es.bt, Eo.den, Eo.tst, E.tst, It.den, R.bind, R.out, R.opt, startS, slotV, slotP, W.now, cmpW, intsW, idxW, L2.atI, L2.ixN, bltW, on1, on2, ifB, Tg.den, Tgs.den, tgo, binW, addW, intW, absW, lenW, truW, tyW, isTy, E.give, E.fresh, W.isNon, lineN_small, cstV, mulW]
    · simp [Tm.kd, k2, okd_small (show (Kd.fn A B).deep ≤ 5 by simp only [Kd.deep]; omega)]
    · simp [Tm.ws]; omega
    · simp [Tm.lim, i2, l1]; omega
end K14

set_option maxHeartbeats 4000000
namespace K14
open PySem Ev Mx
theorem tail_ok {D : Dn} (dr : Dr D) {f : Nat} {q : Nat} {d : Int} {K : Kd} {Γ : List Kd} {is : List Nat} {a b : Int} {t : Obs} (mk : 1 ≤ f → Made D (f - 1)) (ct : Cuts D f) (hr : 2 * d.toNat + q ≤ f) (hk : K.deep ≤ q + 1) (hq : q ≤ 2) (hd : d.toNat ≤ 3) (g : Gd Γ) (hl : Γ.length + f ≤ 100) (kl : K.lw 2 = true) (v : Vd a b)
    (hp : ∀ i ∈ is, Γ[i]? = some K) (hin : K ∈ Γ → is ≠ []) (hil : is.length ≤ 1000) :
    ∃ (u : Tm) (a1 b1 : Int), Ss.den D (dropS b16 2) (St K Γ d is) (PT a b t) = .rt (.lst u.ws) (PT a1 b1 t) ∧ Dn2 Γ K d q u ∧ Vd a1 b1 := by
  have sp : ∀ h, Ss.den D (dropS b16 2) (St K Γ d is) h = (match (nth b16 2).den D (St K Γ d is) h with | .nx σ h => Ss.den D (dropS b16 3) σ h | o => o) := fun _ => rfl
  rw [sp]
  by_cases h0 : 0 < d
  · obtain ⟨x, a1, b1, e, x0, x2, v1⟩ := dr.draw 2 t v (by omega) (by omega)
    by_cases hx : x = 0
    · subst hx
      obtain ⟨n, rfl⟩ : ∃ n : Nat, d = (n + 1 : Nat) := ⟨(d - 1).toNat, by omega⟩
      obtain ⟨u, a2, b2, e2, z, v2⟩ := ct q n K Γ a1 b1 t (by omega) hk hq (by omega) g hl kl v1
      refine ⟨u, a2, b2, ?_, z, v2⟩
      have e2 : D.call 15 [.ref 0, K.w, .lst (Γ.map Kd.w), .int ((n : Int) + 1)] (PT a1 b1 t) = .ok (.lst u.ws) (PT a2 b2 t) := e2
      have h0 : (0 : Int) < (n : Int) + 1 := by omega
      simp [nth, b16, St, e, e2, h0, eqN, Df.run, Ss.den, S.den, E.den, Es.den, Es.bo, Es.bt, Eo.den, Eo.tst, E.tst, It.den, R.bind, R.out, R.opt, startS, slotV, slotP, W.now, cmpW, intsW, idxW, L2.atI, L2.ixN, bltW, on1, on2, ifB, Tg.den, Tgs.den, tgo, binW, addW, intW, absW, lenW, truW, tyW, isTy, E.give, E.fresh, W.isNon, lineN_small, cstV, mulW]
    · obtain ⟨u, a2, b2, e2, z, v2⟩ := kcase dr mk hr hk hq hd g hl kl v1 hp hin hil (t := t)
      refine ⟨u, a2, b2, ?_, z, v2⟩
      have s : (nth b16 2).den D (St K Γ d is) (PT a b t) = .nx (St K Γ d is) (PT a1 b1 t) := by
        simp [nth, b16, St, e, hx, h0, eqN, Df.run, Ss.den, S.den, E.den, Es.den, Es.bo, Es.bt, Eo.den, Eo.tst, E.tst, It.den, R.bind, R.out, R.opt, startS, slotV, slotP, W.now, cmpW, intsW, idxW, L2.atI, L2.ixN, bltW, on1, on2, ifB, Tg.den, Tgs.den, tgo, binW, addW, intW, absW, lenW, truW, tyW, isTy, E.give, E.fresh, W.isNon, lineN_small, cstV, mulW]
      rw [s]
      exact e2
  · obtain ⟨u, a2, b2, e2, z, v2⟩ := kcase dr mk hr hk hq hd g hl kl v hp hin hil (t := t)
    refine ⟨u, a2, b2, ?_, z, v2⟩
    have s : (nth b16 2).den D (St K Γ d is) (PT a b t) = .nx (St K Γ d is) (PT a b t) := by
      simp [nth, b16, St, h0, Df.run, Ss.den, S.den, E.den, Es.den, Es.bo, Es.bt, Eo.den, Eo.tst, E.tst, It.den, R.bind, R.out, R.opt, startS, slotV, slotP, W.now, cmpW, intsW, idxW, L2.atI, L2.ixN, bltW, on1, on2, ifB, Tg.den, Tgs.den, tgo, binW, addW, intW, absW, lenW, truW, tyW, isTy, E.give, E.fresh, W.isNon, lineN_small, cstV, mulW]
    rw [s]
    exact e2
theorem dats_nms : ∀ is : List Nat, W.dats (nms is) = some (is.map fun (i : Nat) => PyData.int i)
  | [] => by simp [nms, W.dats]
  | i :: is => by
    have e := dats_nms is
    simp only [nms] at e
    simp [nms, W.dats, W.dat, e]
theorem eq_nil (is : List Nat) : eqW (.lst (nms is)) (.lst []) = some is.isEmpty := by
  have e := dats_nms is
  cases is with
  | nil => rfl
  | cons i is =>
    simp only [eqW, W.dat, e, W.dats, Option.map_some, PyData.depth, PyData.depthAll]
    simp [PyData.eqv, PyData.eqvAll]
theorem made_ok {D : Dn} (dr : Dr D) {f : Nat} {q : Nat} {d : Int} {K : Kd} {Γ : List Kd} {a b : Int} {t : Obs} (mk : 1 ≤ f → Made D (f - 1)) (ct : Cuts D f) (hr : 2 * d.toNat + q ≤ f) (hk : K.deep ≤ q + 1) (hq : q ≤ 2) (hd : d.toNat ≤ 3) (g : Gd Γ) (hl : Γ.length + f ≤ 100) (kl : K.lw 2 = true) (v : Vd a b) :
    ∃ (u : Tm) (a1 b1 : Int), Df.run ⟨"_law_made", ["_law_pot_here", "_law_kind_here", "_law_names", "_law_deep", "_law_here", "_law_near", "_law_at", "_law_one"], 4, b16⟩ D [.ref 0, K.w, .lst (Γ.map Kd.w), .int d] (PT a b t) = .ok (.lst u.ws) (PT a1 b1 t) ∧ Dn2 Γ K d q u ∧ Vd a1 b1 := by
  obtain ⟨is, e0, hp, hin, hlen⟩ := here_ok (D := D) (h := PT a b t) (K := K) (r := .val (.ref 0)) (d := .val (.int d)) (Γ := Γ) (by omega) (by omega) (fun _ z => by cases z) (fun _ z => by cases z)
  have hil : is.length ≤ 1000 := by omega
  have run : ∀ h, Df.run ⟨"_law_made", ["_law_pot_here", "_law_kind_here", "_law_names", "_law_deep", "_law_here", "_law_near", "_law_at", "_law_one"], 4, b16⟩ D [.ref 0, K.w, .lst (Γ.map Kd.w), .int d] h = (match Ss.den D (.cons (nth b16 0) (.cons (nth b16 1) (dropS b16 2))) [.val (.ref 0), .val K.w, .val (.lst (Γ.map Kd.w)), .val (.int d), .non, .non, .non, .non] h with
    | .nx _ h => .ok .non h
    | .rt w h => .ok w h
    | .exc x _ h => .exc x h
    | _ => .bad) := fun _ => rfl
  rw [run, seq e0]
  have en := eq_nil is
  have n2 := K.now (PT a b t)
  have kx := K.ix0
  have kw := K.word_l
  have go : (∃ a1 b1, (nth b16 1).den D (St K Γ d is) (PT a b t) = .nx (St K Γ d is) (PT a1 b1 t) ∧ Vd a1 b1) → ∃ (u : Tm) (a1 b1 : Int), (match Ss.den D (.cons (nth b16 1) (dropS b16 2)) (St K Γ d is) (PT a b t) with
    | .nx _ h => R.ok W.non h
    | .rt w h => .ok w h
    | .exc x _ h => .exc x h
    | _ => .bad) = .ok (.lst u.ws) (PT a1 b1 t) ∧ Dn2 Γ K d q u ∧ Vd a1 b1 := fun ⟨a1, b1, e1, v1⟩ => by
    obtain ⟨u, a2, b2, e2, z, v2⟩ := tail_ok dr mk ct hr hk hq hd g hl kl v1 hp hin hil (t := t)
    refine ⟨u, a2, b2, ?_, z, v2⟩
    rw [seq e1, e2]
  have pk : is ≠ [] → (∃ a1 b1, Vd a1 b1 ∧ ∀ (i : Nat) (a2 b2 : Int), D.call 13 [.ref 0, .lst (nms is)] (PT a1 b1 t) = .ok (.int i) (PT a2 b2 t) → (nth b16 1).den D (St K Γ d is) (PT a b t) = .rt (.lst (Tm.name i).ws) (PT a2 b2 t)) → ∃ (u : Tm) (a1 b1 : Int), (match Ss.den D (.cons (nth b16 1) (dropS b16 2)) (St K Γ d is) (PT a b t) with
    | .nx _ h => R.ok W.non h
    | .rt w h => .ok w h
    | .exc x _ h => .exc x h
    | _ => .bad) = .ok (.lst u.ws) (PT a1 b1 t) ∧ Dn2 Γ K d q u ∧ Vd a1 b1 := fun hn ⟨a1, b1, v1, e1⟩ => by
    obtain ⟨i, a2, b2, e, hi, v2⟩ := pick_here dr hp hn hil (t := t) v1
    refine ⟨.name i, a2, b2, ?_, name_ok hi (by omega), v2⟩
    have sp : Ss.den D (.cons (nth b16 1) (dropS b16 2)) (St K Γ d is) (PT a b t) = (match (nth b16 1).den D (St K Γ d is) (PT a b t) with | .nx σ h => Ss.den D (dropS b16 2) σ h | o => o) := rfl
    rw [sp, e1 i a2 b2 e]
  have l0 : lineN 0 = true := lineN_small (by omega)
  have l1 : lineN 1 = true := lineN_small (by omega)
  have l2 : lineN 2 = true := lineN_small (by omega)
  by_cases hn : is = []
  · refine go ⟨a, b, ?_, v⟩
    have en : eqW (.lst (nms is)) (.lst []) = some true := by rw [en, hn]; rfl
    simp [nth, b16, St, en, l0, Df.run, Ss.den, S.den, E.den, Es.den, Es.bo, Es.bt, Eo.den, Eo.tst, E.tst, It.den, R.bind, R.out, R.opt, startS, slotV, slotP, nwN, nwB, nwI, nwS, nwT, nwL, nwE, nwR, Kd.now, cmpW, intsW, bltW, on1, on2, ifB, Tg.den, Tgs.den, tgo, binW, addW, intW, absW, lenW, truW, tyW, isTy, E.give, E.fresh, W.isNon, lineN_small, cstV, mulW]
  · have en : eqW (.lst (nms is)) (.lst []) = some false := by
      rw [en]
      cases is with
      | nil => exact absurd rfl hn
      | cons _ _ => rfl
    by_cases hc : K.isL = true ∧ d < 1
    · refine pk hn ⟨a, b, v, fun i a2 b2 e => ?_⟩
      simp [nth, b16, St, en, l0, l1, l2, n2, kx, kw, eqS, hc.1, hc.2, e, Tm.ws, Df.run, Ss.den, S.den, E.den, Es.den, Es.bo, Es.bt, Eo.den, Eo.tst, E.tst, It.den, R.bind, R.out, R.opt, startS, slotV, slotP, nwN, nwB, nwI, nwS, nwT, nwL, nwE, nwR, Kd.now, cmpW, intsW, bltW, on1, on2, ifB, Tg.den, Tgs.den, tgo, binW, addW, intW, absW, lenW, truW, tyW, isTy, E.give, E.fresh, W.isNon, lineN_small, cstV, mulW]
    · obtain ⟨x, a1, b1, e, x0, x4, v1⟩ := dr.draw 4 t v (by omega) (by omega)
      have go2 : ∀ (c : Bool), K.isL = c → (c = false ∨ ¬ d < 1) → ∃ (u : Tm) (a1 b1 : Int), (match Ss.den D (.cons (nth b16 1) (dropS b16 2)) (St K Γ d is) (PT a b t) with
        | .nx _ h => R.ok W.non h
        | .rt w h => .ok w h
        | .exc x _ h => .exc x h
        | _ => .bad) = .ok (.lst u.ws) (PT a1 b1 t) ∧ Dn2 Γ K d q u ∧ Vd a1 b1 := fun c hc hcd => by
        by_cases hx : x = 0
        · subst hx
          refine pk hn ⟨a1, b1, v1, fun i a2 b2 e2 => ?_⟩
          rcases hcd with rfl | hcd
          · simp [nth, b16, St, en, l0, l1, l2, n2, kx, kw, eqS, eqN, hc, e, e2, Tm.ws, Df.run, Ss.den, S.den, E.den, Es.den, Es.bo, Es.bt, Eo.den, Eo.tst, E.tst, It.den, R.bind, R.out, R.opt, startS, slotV, slotP, nwN, nwB, nwI, nwS, nwT, nwL, nwE, nwR, Kd.now, cmpW, intsW, bltW, on1, on2, ifB, Tg.den, Tgs.den, tgo, binW, addW, intW, absW, lenW, truW, tyW, isTy, E.give, E.fresh, W.isNon, lineN_small, cstV, mulW]
          · cases c <;> simp [nth, b16, St, en, l0, l1, l2, n2, kx, kw, eqS, eqN, hc, hcd, e, e2, Tm.ws, Df.run, Ss.den, S.den, E.den, Es.den, Es.bo, Es.bt, Eo.den, Eo.tst, E.tst, It.den, R.bind, R.out, R.opt, startS, slotV, slotP, nwN, nwB, nwI, nwS, nwT, nwL, nwE, nwR, Kd.now, cmpW, intsW, bltW, on1, on2, ifB, Tg.den, Tgs.den, tgo, binW, addW, intW, absW, lenW, truW, tyW, isTy, E.give, E.fresh, W.isNon, lineN_small, cstV, mulW]
        · refine go ⟨a1, b1, ?_, v1⟩
          rcases hcd with rfl | hcd
          · simp [nth, b16, St, en, l0, l1, l2, n2, kx, kw, eqS, eqN, hc, e, hx, Tm.ws, Df.run, Ss.den, S.den, E.den, Es.den, Es.bo, Es.bt, Eo.den, Eo.tst, E.tst, It.den, R.bind, R.out, R.opt, startS, slotV, slotP, nwN, nwB, nwI, nwS, nwT, nwL, nwE, nwR, Kd.now, cmpW, intsW, bltW, on1, on2, ifB, Tg.den, Tgs.den, tgo, binW, addW, intW, absW, lenW, truW, tyW, isTy, E.give, E.fresh, W.isNon, lineN_small, cstV, mulW]
          · cases c <;> simp [nth, b16, St, en, l0, l1, l2, n2, kx, kw, eqS, eqN, hc, hcd, e, hx, Tm.ws, Df.run, Ss.den, S.den, E.den, Es.den, Es.bo, Es.bt, Eo.den, Eo.tst, E.tst, It.den, R.bind, R.out, R.opt, startS, slotV, slotP, nwN, nwB, nwI, nwS, nwT, nwL, nwE, nwR, Kd.now, cmpW, intsW, bltW, on1, on2, ifB, Tg.den, Tgs.den, tgo, binW, addW, intW, absW, lenW, truW, tyW, isTy, E.give, E.fresh, W.isNon, lineN_small, cstV, mulW]
      refine go2 K.isL rfl ?_
      cases hi : K.isL with
      | false => exact .inl rfl
      | true => exact .inr (fun z => hc ⟨hi, z⟩)
theorem made_all : ∀ (f k : Nat), Made ⟨pg.T (k + 2 * f + 7), pg.cst, pg.par⟩ f := by
  have bs : ∀ (f k : Nat), (1 ≤ f → Made ⟨pg.T (k + 2 * f + 6), pg.cst, pg.par⟩ (f - 1)) → Cuts ⟨pg.T (k + 2 * f + 6), pg.cst, pg.par⟩ f → Made ⟨pg.T (k + 2 * f + 7), pg.cst, pg.par⟩ f := fun f k mk ct q d K Γ a b t hr hk hq hd g hl kl v =>
    made_ok (D := ⟨pg.T (k + 2 * f + 6), pg.cst, pg.par⟩) (dr (k + 2 * f)) mk ct hr hk hq hd g hl kl v
  intro f
  induction f with
  | zero =>
    intro k
    refine bs 0 k (fun h => by omega) (fun q d K Γ a b t hr => by omega)
  | succ f ih =>
    intro k
    refine bs (f + 1) k (fun _ => ?_) (fun q d K Γ a b t hr hk hq hd g hl kl v => ?_)
    · have e : k + 2 * (f + 1) + 6 = (k + 1) + 2 * f + 7 := by omega
      rw [e]
      exact ih (k + 1)
    · have e : k + 2 * (f + 1) + 6 = (k + 2 * f + 7) + 1 := by omega
      rw [e]
      exact cut_ok (D := ⟨pg.T (k + 2 * f + 7), pg.cst, pg.par⟩) (dr (k + 2 * f + 1)) (ih k) q d K Γ a b t (by omega) hk hq hd g (by omega) kl v
end K14

set_option maxHeartbeats 4000000
namespace K14
open PySem Ev Mx
variable {k : Nat}
/-! ## the law -/
def OKV (x : W) : Prop := PV x ∧ ∀ ns, parts x = some ns → ns.length ≤ 1000 ∧ Short ns
theorem short_of {l : List W} (h : l.length ≤ 180) : Short l := fun p s e => .inl (by rw [e] at h; simp only [List.length_append] at h; omega)
theorem OKV.lst {l : List W} (p : PVs l) (h : l.length ≤ 180) : OKV (.lst l) := ⟨.lst _ p, fun ns e => by cases e; exact ⟨by omega, short_of h⟩⟩
theorem OKV.tup {l : List W} (p : PVs l) (h : l.length ≤ 180) : OKV (.tup l) := ⟨.tup _ p, fun ns e => by cases e; exact ⟨by omega, short_of h⟩⟩
theorem OKV.flat {x : W} (p : PV x) (h : parts x = none) : OKV x := ⟨p, fun ns e => by rw [h] at e; cases e⟩
theorem short_rep {x : W} (h1 : one x = true) (n : Nat) (r : List W) (hr : r.length ≤ 180) : Short (List.replicate n x ++ r) := fun p s e => by
  by_cases h : s.length ≤ 180
  · exact .inl h
  · right
    have e2 := congrArg (List.drop p.length) e
    rw [List.drop_left] at e2
    have hl := congrArg List.length e
    simp only [List.length_append, List.length_replicate] at hl
    have hp : p.length < n := by omega
    rw [← e2, List.drop_append_of_le_length (by simp; omega), List.drop_replicate]
    obtain ⟨m, hm⟩ : ∃ m, n - p.length = m + 1 := ⟨n - p.length - 1, by omega⟩
    rw [hm, List.replicate_succ]
    exact h1
theorem OKV.rep {x : W} (px : PV x) (h1 : one x = true) {n : Nat} (hn : n ≤ 400) {r : List W} (pr : PVs r) (hr : r.length ≤ 180) : OKV (.lst (List.replicate n x ++ r)) :=
  ⟨.lst _ ((PVs.rep px n).app pr), fun ns e => by
    cases e
    exact ⟨by simp only [List.length_append, List.length_replicate]; omega, short_rep h1 n r hr⟩⟩
theorem cut_len {α : Type} (l : List α) (lo hi : Option Int) : (cut l lo hi).length ≤ l.length := by
  unfold cut
  simp only [List.length_take, List.length_drop]
  omega
theorem cut_pv {l : List W} (p : PVs l) (lo hi : Option Int) : PVs (cut l lo hi) := fun w hw => p w (List.mem_of_mem_drop (List.mem_of_mem_take hw))
abbrev D22 (k : Nat) : Dn := ⟨pg.T (k + 190), pg.cst, pg.par⟩
abbrev s22 (n : Nat) : S := nth b22 n
abbrev lets : List Kd := [.ltr 0, .ltr 1]
theorem st0 {a b : Int} (v : Vd a b) : ∃ (u : List W) (a1 b1 : Int), (s22 0).den (D22 k) (startS 8 [.ref 0]) (PT a b []) = .nx [.val (.ref 0), .val (.lst u), .non, .non, .non, .non, .non, .non] (PT a1 b1 []) ∧ PVs u ∧ u.length ≤ 77 ∧ 0 < u.length ∧ Vd a1 b1 := by
  have d := dr (k + 184)
  obtain ⟨K, a1, b1, e1, h1, l1, v1⟩ := d.kind 2 [] (by omega) v
  obtain ⟨A, a2, b2, e2, h2, l2, v2⟩ := d.kind 1 [] (by omega) v1
  have m := made_all 6 (k + 171) 2 2 K (A :: lets) a2 b2 [] (by omega) h1 (by omega) (by omega) ⟨fun B hB => by
    rcases List.mem_cons.mp hB with rfl | hB
    · exact ⟨by omega, l2⟩
    · rcases List.mem_cons.mp hB with rfl | hB
      · exact ⟨by simp [Kd.deep], rfl⟩
      · have e := List.mem_singleton.mp hB
        subst e
        exact ⟨by simp [Kd.deep], rfl⟩, by simp, by simp⟩ (by simp) l1 v2
  obtain ⟨u, a3, b3, e3, z, v3⟩ := m
  have e1 : pg.T (k + 190) 14 [.ref 0, .int 2] (PT a b []) = .ok K.w (PT a1 b1 []) := e1
  have e2 : pg.T (k + 190) 14 [.ref 0, .int 1] (PT a1 b1 []) = .ok A.w (PT a2 b2 []) := e2
  have e3 : pg.T (k + 190) 16 [.ref 0, K.w, .lst (A.w :: [.tup [.str "letter", .int 0], .tup [.str "letter", .int 1]]), .int 2] (PT a2 b2 []) = .ok (.lst u.ws) (PT a3 b3 []) := e3
  have q2 : lineN 2 = true := lineN_small (by omega)
  have q3 : lineN 3 = true := lineN_small (by omega)
  refine ⟨u.ws, a3, b3, ?_, u.pvs, ?_, ?_, v3⟩
  · simp [s22, nth, b22, e1, e2, e3, q2, q3, Df.run, Ss.den, S.den, E.den, Es.den, Es.bo, Es.bt, Eo.den, Eo.tst, E.tst, It.den, R.bind, R.out, R.opt, startS, slotV, slotP, W.now, cmpW, intsW, idxW, L2.atI, L2.ixN, bltW, on1, on2, ifB, Tg.den, Tgs.den, tgo, binW, addW, intW, absW, lenW, truW, tyW, isTy, E.give, E.fresh, W.isNon, lineN_small, cstV, mulW]
  · have := z.len
    have e : M (Int.toNat 2) 2 = 77 := by simp [M]
    omega
  · cases u <;> simp [Tm.ws]
theorem st1 {a b : Int} {u : List W} (v : Vd a b) (hl : u.length ≤ 77) (hp : 0 < u.length) : ∃ (i : Int) (a1 b1 : Int), (s22 1).den (D22 k) [.val (.ref 0), .val (.lst u), .non, .non, .non, .non, .non, .non] (PT a b []) = .nx [.val (.ref 0), .val (.lst u), .val (.int i), .own [], .non, .non, .non, .non] (PT a1 b1 []) := by
  have d := dr (k + 184)
  obtain ⟨i, a1, b1, e1, _⟩ := d.draw u.length [] v (by omega) (by omega)
  have e1 : pg.T (k + 190) 12 [.ref 0, .int u.length] (PT a b []) = .ok (.int i) (PT a1 b1 []) := e1
  have q0 : lineN 0 = true := lineN_small (by omega)
  refine ⟨i, a1, b1, ?_⟩
  simp [s22, nth, b22, e1, q0, Df.run, Ss.den, S.den, E.den, Es.den, Es.bo, Es.bt, Eo.den, Eo.tst, E.tst, It.den, R.bind, R.out, R.opt, startS, slotV, slotP, W.now, cmpW, intsW, idxW, L2.atI, L2.ixN, bltW, on1, on2, ifB, Tg.den, Tgs.den, tgo, binW, addW, intW, absW, lenW, truW, tyW, isTy, E.give, E.fresh, W.isNon, lineN_small, cstV, mulW]
def OKs (l : List W) : Prop := ∀ x ∈ l, OKV x
theorem OKs.app {a b : List W} (p : OKs a) (q : OKs b) : OKs (a ++ b) := fun w hw => (List.mem_append.mp hw).elim (p w) (q w)
theorem OKs.cons {w : W} {b : List W} (p : OKV w) (q : OKs b) : OKs (w :: b) := fun x hx => (List.mem_cons.mp hx).elim (fun e => e ▸ p) (q x)
theorem OKs.nil : OKs [] := fun _ h => by cases h
/-- a node put in place of one, or between two -/
theorem body2 {u odd : List W} {i : Int} {x : W} {s5 s6 s7 o : Sl} {h : Obs} (pu : PVs u) (hu : u.length ≤ 77) (px : PV x) (ho : odd.length ≤ 100) (n : Nat) (hn : n = 2 ∨ n = 3) : ∃ y, (forB (s22 n)).den (D22 k) [.val (.ref 0), .val (.lst u), .val (.int i), .own odd, .val x, s5, s6, s7] h = .nx [.val (.ref 0), .val (.lst u), .val (.int i), .own (odd ++ [y]), .val x, s5, s6, s7] h ∧ OKV y := by
  have sl : odd.length < sizeLine := sl_small (by omega)
  have q1 : lineN 1 = true := lineN_small (by omega)
  have c1 := cut_len u none (some i)
  have c2 := cut_len u (some (i + 1)) none
  have c3 := cut_len u (some i) none
  rcases hn with rfl | rfl
  · refine ⟨.lst (cut u none (some i) ++ [x] ++ cut u (some (i + 1)) none), ?_, .lst (((cut_pv pu _ _).app (.cons px .nil)).app (cut_pv pu _ _)) (by simp only [List.length_append, List.length_cons, List.length_nil]; omega)⟩
    have z1 : lineN ((cut u none (some i)).length + 1) = true := lineN_small (by omega)
    have z2 : lineN ((cut u none (some i)).length + 1 + (cut u (some (i + 1)) none).length) = true := lineN_small (by omega)
    have z3 : lineN ((cut u none (some i)).length + ((cut u (some (i + 1)) none).length + 1)) = true := lineN_small (by omega)
    simp [s22, nth, forB, unfrz, b22, slcW, q1, z1, z2, z3, sl, Df.run, Ss.den, S.den, E.den, Es.den, Es.bo, Es.bt, Eo.den, Eo.tst, E.tst, It.den, R.bind, R.out, R.opt, startS, slotV, slotP, W.now, cmpW, intsW, idxW, L2.atI, L2.ixN, bltW, on1, on2, ifB, Tg.den, Tgs.den, tgo, binW, addW, intW, absW, lenW, truW, tyW, isTy, E.give, E.fresh, W.isNon, lineN_small, cstV, mulW]
  · refine ⟨.lst (cut u none (some i) ++ [x] ++ cut u (some i) none), ?_, .lst (((cut_pv pu _ _).app (.cons px .nil)).app (cut_pv pu _ _)) (by simp only [List.length_append, List.length_cons, List.length_nil]; omega)⟩
    have z1 : lineN ((cut u none (some i)).length + 1) = true := lineN_small (by omega)
    have z2 : lineN ((cut u none (some i)).length + 1 + (cut u (some i) none).length) = true := lineN_small (by omega)
    have z3 : lineN ((cut u none (some i)).length + ((cut u (some i) none).length + 1)) = true := lineN_small (by omega)
    simp [s22, nth, forB, unfrz, b22, slcW, q1, z1, z2, z3, sl, Df.run, Ss.den, S.den, E.den, Es.den, Es.bo, Es.bt, Eo.den, Eo.tst, E.tst, It.den, R.bind, R.out, R.opt, startS, slotV, slotP, W.now, cmpW, intsW, idxW, L2.atI, L2.ixN, bltW, on1, on2, ifB, Tg.den, Tgs.den, tgo, binW, addW, intW, absW, lenW, truW, tyW, isTy, E.give, E.fresh, W.isNon, lineN_small, cstV, mulW]
theorem loop2 {u : List W} {i : Int} {s5 s6 s7 : Sl} {h : Obs} (pu : PVs u) (hu : u.length ≤ 77) (n : Nat) (hn : n = 2 ∨ n = 3) : ∀ (xs odd : List W) (o : Sl), PVs xs → OKs odd → odd.length + xs.length ≤ 100 → ∃ odd1 o1, forGo (fun w σ h => (forT (s22 n)).den (D22 k) w σ h) (fun σ h => (forB (s22 n)).den (D22 k) σ h) xs [.val (.ref 0), .val (.lst u), .val (.int i), .own odd, o, s5, s6, s7] h =
    .nx [.val (.ref 0), .val (.lst u), .val (.int i), .own odd1, o1, s5, s6, s7] h ∧ OKs odd1 ∧ odd1.length = odd.length + xs.length
  | [], odd, o, _, po, _ => ⟨odd, o, rfl, po, rfl⟩
  | x :: xs, odd, o, px, po, hl => by
    simp only [List.length_cons] at hl
    obtain ⟨y, e, oy⟩ := body2 (k := k) (i := i) (s5 := s5) (s6 := s6) (s7 := s7) (o := o) (h := h) pu hu (px x List.mem_cons_self) (odd := odd) (by omega) n hn
    obtain ⟨odd1, o1, e2, p2, l2⟩ := loop2 pu hu n hn xs (odd ++ [y]) (.val x) (fun w hw => px w (List.mem_cons_of_mem _ hw)) (po.app (.cons oy .nil)) (by simp only [List.length_append, List.length_cons, List.length_nil]; omega) (i := i) (s5 := s5) (s6 := s6) (s7 := s7) (h := h)
    refine ⟨odd1, o1, ?_, p2, by rw [l2]; simp only [List.length_append, List.length_cons, List.length_nil]; omega⟩
    have put : (forT (s22 n)).den (D22 k) x [.val (.ref 0), .val (.lst u), .val (.int i), .own odd, o, s5, s6, s7] h = .ok [.val (.ref 0), .val (.lst u), .val (.int i), .own odd, .val x, s5, s6, s7] h := by
      rcases hn with rfl | rfl <;> rfl
    unfold forGo
    simp only [put, e]
    exact e2
theorem w1 {s : Str} : PV (.tup [.str s]) := .tup _ (PVs.cons (.str _) PVs.nil)
theorem w2 {s : Str} {x : W} (p : PV x) : PV (.tup [.str s, x]) := .tup _ (PVs.cons (.str _) (PVs.cons p PVs.nil))
theorem st2 {u : List W} {i : Int} {s5 s6 s7 : Sl} {h : Obs} (pu : PVs u) (hu : u.length ≤ 77) : ∃ odd1 o1, (s22 2).den (D22 k) [.val (.ref 0), .val (.lst u), .val (.int i), .own [], .non, s5, s6, s7] h = .nx [.val (.ref 0), .val (.lst u), .val (.int i), .own odd1, o1, s5, s6, s7] h ∧ OKs odd1 ∧ odd1.length = 10 := by
  have q1 : lineN 1 = true := lineN_small (by omega)
  have q2 : lineN 2 = true := lineN_small (by omega)
  have q10 : lineN 10 = true := lineN_small (by omega)
  obtain ⟨odd1, o1, e, p, l⟩ := loop2 (k := k) (i := i) (s5 := s5) (s6 := s6) (s7 := s7) (h := h) pu hu 2 (.inl rfl) [.non, .tup [.str "told", .bl true], .tup [.str "told", .int (-1)], .tup [.str "told", .int 1000001], .tup [.str "told", .int 1000000], .tup [.str "name", .int 300], .tup [.str "name", .int 299], .tup [.str "name"], .tup [.str "fun", .non], .tup [.str "fun"]] [] .non
    (.cons .non (.cons (w2 (.bl _)) (.cons (w2 (.int _)) (.cons (w2 (.int _)) (.cons (w2 (.int _)) (.cons (w2 (.int _)) (.cons (w2 (.int _)) (.cons w1 (.cons (w2 .non) (.cons w1 .nil)))))))))) .nil (by simp)
  refine ⟨odd1, o1, ?_, p, l⟩
  have it : (forI (s22 2)).den (D22 k) [.val (.ref 0), .val (.lst u), .val (.int i), .own [], .non, s5, s6, s7] h = .ok [.non, .tup [.str "told", .bl true], .tup [.str "told", .int (-1)], .tup [.str "told", .int 1000001], .tup [.str "told", .int 1000000], .tup [.str "name", .int 300], .tup [.str "name", .int 299], .tup [.str "name"], .tup [.str "fun", .non], .tup [.str "fun"]] h := by
    simp [s22, nth, forI, unfrz, b22, q1, q2, q10, W.items, Df.run, Ss.den, S.den, E.den, Es.den, Es.bo, Es.bt, Eo.den, Eo.tst, E.tst, It.den, R.bind, R.out, R.opt, startS, slotV, slotP, W.now, cmpW, intsW, idxW, L2.atI, L2.ixN, bltW, on1, on2, ifB, Tg.den, Tgs.den, tgo, binW, addW, intW, absW, lenW, truW, tyW, isTy, E.give, E.fresh, W.isNon, lineN_small, cstV, mulW]
  have sp : (s22 2).den (D22 k) [.val (.ref 0), .val (.lst u), .val (.int i), .own [], .non, s5, s6, s7] h = (match (forI (s22 2)).den (D22 k) [.val (.ref 0), .val (.lst u), .val (.int i), .own [], .non, s5, s6, s7] h with
    | .ok xs h => forGo (fun w σ h => (forT (s22 2)).den (D22 k) w σ h) (fun σ h => (forB (s22 2)).den (D22 k) σ h) xs [.val (.ref 0), .val (.lst u), .val (.int i), .own [], .non, s5, s6, s7] h
    | .exc x h => .exc x [.val (.ref 0), .val (.lst u), .val (.int i), .own [], .non, s5, s6, s7] h
    | .bad => .bad) := rfl
  rw [sp, it]
  exact e
theorem st3 {u odd : List W} {i : Int} {o s5 s6 s7 : Sl} {h : Obs} (pu : PVs u) (hu : u.length ≤ 77) (po : OKs odd) (ho : odd.length = 10) : ∃ odd1 o1, (s22 3).den (D22 k) [.val (.ref 0), .val (.lst u), .val (.int i), .own odd, o, s5, s6, s7] h = .nx [.val (.ref 0), .val (.lst u), .val (.int i), .own odd1, o1, s5, s6, s7] h ∧ OKs odd1 ∧ odd1.length = 22 := by
  have q0 : lineN 0 = true := lineN_small (by omega)
  have q1 : lineN 1 = true := lineN_small (by omega)
  have q2 : lineN 2 = true := lineN_small (by omega)
  have q12 : lineN 12 = true := lineN_small (by omega)
  obtain ⟨odd1, o1, e, p, l⟩ := loop2 (k := k) (i := i) (s5 := s5) (s6 := s6) (s7 := s7) (h := h) pu hu 3 (.inr rfl) [.tup [.str "call", .int 1], .lst [.str "call"], .tup [.str "Call"], .tup [.str "call"], .tup [.str "which"], .tup [.str "let"], .str "next", .tup [.str "next"], .tup [.int 1], .tup [], .tup [.str "left", .tup [.str "letter", .int 6]], .tup [.str "turns", .tup [.str "count"]]] odd o
    (.cons (w2 (.int _)) (.cons (.lst _ (PVs.cons (.str _) PVs.nil)) (.cons w1 (.cons w1 (.cons w1 (.cons w1 (.cons (.str _) (.cons w1 (.cons (.tup _ (PVs.cons (.int _) PVs.nil)) (.cons (.tup _ PVs.nil) (.cons (w2 (w2 (.int _))) (.cons (w2 w1) .nil)))))))))))) po (by simp [ho])
  refine ⟨odd1, o1, ?_, p, by rw [l, ho]; rfl⟩
  have it : (forI (s22 3)).den (D22 k) [.val (.ref 0), .val (.lst u), .val (.int i), .own odd, o, s5, s6, s7] h = .ok [.tup [.str "call", .int 1], .lst [.str "call"], .tup [.str "Call"], .tup [.str "call"], .tup [.str "which"], .tup [.str "let"], .str "next", .tup [.str "next"], .tup [.int 1], .tup [], .tup [.str "left", .tup [.str "letter", .int 6]], .tup [.str "turns", .tup [.str "count"]]] h := by
    simp [s22, nth, forI, unfrz, b22, q0, q1, q2, q12, W.items, Df.run, Ss.den, S.den, E.den, Es.den, Es.bo, Es.bt, Eo.den, Eo.tst, E.tst, It.den, R.bind, R.out, R.opt, startS, slotV, slotP, W.now, cmpW, intsW, idxW, L2.atI, L2.ixN, bltW, on1, on2, ifB, Tg.den, Tgs.den, tgo, binW, addW, intW, absW, lenW, truW, tyW, isTy, E.give, E.fresh, W.isNon, lineN_small, cstV, mulW]
  have sp : (s22 3).den (D22 k) [.val (.ref 0), .val (.lst u), .val (.int i), .own odd, o, s5, s6, s7] h = (match (forI (s22 3)).den (D22 k) [.val (.ref 0), .val (.lst u), .val (.int i), .own odd, o, s5, s6, s7] h with
    | .ok xs h => forGo (fun w σ h => (forT (s22 3)).den (D22 k) w σ h) (fun σ h => (forB (s22 3)).den (D22 k) σ h) xs [.val (.ref 0), .val (.lst u), .val (.int i), .own odd, o, s5, s6, s7] h
    | .exc x h => .exc x [.val (.ref 0), .val (.lst u), .val (.int i), .own odd, o, s5, s6, s7] h
    | .bad => .bad) := rfl
  rw [sp, it]
  exact e
end K14

set_option maxHeartbeats 4000000
namespace K14
open PySem Ev Mx
variable {k : Nat}
theorem rep_flat (x : W) : ∀ n : Nat, (List.replicate n [x]).flatten = List.replicate n x
  | 0 => rfl
  | n + 1 => by rw [List.replicate_succ, List.flatten_cons, rep_flat x n]; rfl
theorem ifB_t {α : Type} {b : Bool} (h : b = true) (a : α) : ifB b a = some a := by rw [h]; rfl
theorem mul_rep (x : W) (n : Nat) (hn : n ≤ 1000) : mulW (.lst [x]) (.int (n : Int)) = some (.lst (List.replicate n x)) := by
  have h3 : lineN ([x].length * ((n : Int)).toNat) = true := lineN_small (by rw [Int.toNat_natCast]; simp only [List.length_cons, List.length_nil]; omega)
  unfold mulW
  refine (ifB_t (Bool.and_eq_true_iff.mpr ⟨decide_eq_true ?_, Bool.and_eq_true_iff.mpr ⟨decide_eq_true ?_, h3⟩⟩) _).trans ?_
  · omega
  · omega
  · rw [Int.toNat_natCast, rep_flat]
def vals (u : List W) : List W := [.lst u, .tup u, .lst (cut u (some 1) none), .lst (cut u none (some (-1))), .lst (cut (u ++ u) none (some 400)), .lst (cut (.tup [.str "both"] :: (u ++ u)) none (some 400)), .lst [.lst u], .lst [], .tup [], .non, .int 5, .str "told", .emp, .bl true, .lst [.tup [.str "told", .int 1]], .tup [.str "told", .int 1]]
theorem vals_ok {u : List W} (pu : PVs u) (hu : u.length ≤ 77) : OKs (vals u) := by
  have c1 := cut_len u (some 1) none
  have c2 := cut_len u none (some (-1))
  have c3 := cut_len (u ++ u) none (some 400)
  have c4 := cut_len (.tup [.str "both"] :: (u ++ u)) none (some 400)
  simp only [List.length_append, List.length_cons] at c3 c4
  exact .cons (.lst pu (by omega)) (.cons (.tup pu (by omega)) (.cons (.lst (cut_pv pu _ _) (by omega)) (.cons (.lst (cut_pv pu _ _) (by omega)) (.cons (.lst (cut_pv (pu.app pu) _ _) (by omega)) (.cons (.lst (cut_pv (PVs.cons w1 (pu.app pu)) _ _) (by omega))
    (.cons (.lst (PVs.cons (.lst _ pu) PVs.nil) (by simp)) (.cons (.lst PVs.nil (by simp)) (.cons (.tup PVs.nil (by simp)) (.cons (.flat .non rfl) (.cons (.flat (.int _) rfl) (.cons (.flat (.str _) rfl) (.cons (.flat .emp rfl) (.cons (.flat (.bl _) rfl)
    (.cons (.lst (PVs.cons (w2 (.int _)) PVs.nil) (by simp)) (.cons (.tup (PVs.cons (.str _) (PVs.cons (.int _) PVs.nil)) (by simp)) .nil)))))))))))))))
theorem st4 {u odd : List W} {i : Int} {o s6 s7 : Sl} {h : Obs} (hu : u.length ≤ 77) : (s22 4).den (D22 k) [.val (.ref 0), .val (.lst u), .val (.int i), .own odd, o, .non, s6, s7] h = .nx [.val (.ref 0), .val (.lst u), .val (.int i), .own odd, o, .own (vals u), s6, s7] h := by
  have q0 : lineN 0 = true := lineN_small (by omega)
  have q1 : lineN 1 = true := lineN_small (by omega)
  have q2 : lineN 2 = true := lineN_small (by omega)
  have q16 : lineN 16 = true := lineN_small (by omega)
  have z1 : lineN (u.length + u.length) = true := lineN_small (by omega)
  have z2 : lineN (1 + u.length) = true := lineN_small (by omega)
  have z3 : lineN (u.length + 1) = true := lineN_small (by omega)
  have z4 : lineN (u.length + 1 + u.length) = true := lineN_small (by omega)
  simp [s22, nth, b22, slcW, tupleW, q0, q1, q2, q16, z1, z2, z3, z4, vals, Df.run, Ss.den, S.den, E.den, Es.den, Es.bo, Es.bt, Eo.den, Eo.tst, E.tst, It.den, R.bind, R.out, R.opt, startS, slotV, slotP, W.now, cmpW, intsW, idxW, L2.atI, L2.ixN, bltW, on1, on2, ifB, Tg.den, Tgs.den, tgo, binW, addW, intW, absW, lenW, truW, tyW, isTy, E.give, E.fresh, W.isNon, lineN_small, cstV, mulW]
theorem st5 {u odd vs : List W} {i : Int} {o s6 s7 : Sl} {h : Obs} (pv : OKs vs) (hv : vs.length = 16) : ∃ vs1, (s22 5).den (D22 k) [.val (.ref 0), .val (.lst u), .val (.int i), .own odd, o, .own vs, s6, s7] h = .nx [.val (.ref 0), .val (.lst u), .val (.int i), .own odd, o, .own vs1, s6, s7] h ∧ OKs vs1 ∧ vs1.length = 20 := by
  have q1 : lineN 1 = true := lineN_small (by omega)
  have q2 : lineN 2 = true := lineN_small (by omega)
  have q4 : lineN 4 = true := lineN_small (by omega)
  have q20 : lineN 20 = true := lineN_small (by omega)
  have q300 : lineN 300 = true := lineN_small (by omega)
  have q301 : lineN 301 = true := lineN_small (by omega)
  have q121 : lineN 121 = true := lineN_small (by omega)
  obtain ⟨a, ha⟩ : ∃ r, r = List.replicate 299 (W.tup [.str "next"]) := ⟨_, rfl⟩
  obtain ⟨b, hb⟩ : ∃ r, r = List.replicate 300 (W.tup [.str "next"]) := ⟨_, rfl⟩
  obtain ⟨c, hc⟩ : ∃ r, r = List.replicate 120 (W.tup [.str "fun", .tup [.str "count"]]) := ⟨_, rfl⟩
  obtain ⟨d, hd⟩ : ∃ r, r = List.replicate 120 (W.tup [.str "next"]) := ⟨_, rfl⟩
  have la : a.length = 299 := by rw [ha, List.length_replicate]
  have lb : b.length = 300 := by rw [hb, List.length_replicate]
  have lc : c.length = 120 := by rw [hc, List.length_replicate]
  have ld : d.length = 120 := by rw [hd, List.length_replicate]
  have ma : mulW (.lst [.tup [.str "next"]]) (.int 299) = some (.lst a) := by rw [ha]; exact mul_rep _ 299 (by omega)
  have mb : mulW (.lst [.tup [.str "next"]]) (.int 300) = some (.lst b) := by rw [hb]; exact mul_rep _ 300 (by omega)
  have mc : mulW (.lst [.tup [.str "fun", .tup [.str "count"]]]) (.int 120) = some (.lst c) := by rw [hc]; exact mul_rep _ 120 (by omega)
  have md : mulW (.lst [.tup [.str "next"]]) (.int 120) = some (.lst d) := by rw [hd]; exact mul_rep _ 120 (by omega)
  refine ⟨vs ++ [.lst (a ++ [.tup [.str "told", .int 0]]), .lst (b ++ [.tup [.str "told", .int 0]]), .lst (c ++ [.tup [.str "name", .int 0]]), .lst d], ?_, ?_, by simp [hv]⟩
  · simp [s22, nth, b22, q1, q2, q4, q20, q300, q301, q121, la, lb, lc, ma, mb, mc, md, hv, Df.run, Ss.den, S.den, E.den, Es.den, Es.bo, Es.bt, Eo.den, Eo.tst, E.tst, It.den, R.bind, R.out, R.opt, startS, slotV, slotP, W.now, cmpW, intsW, idxW, L2.atI, L2.ixN, bltW, on1, on2, ifB, Tg.den, Tgs.den, tgo, binW, addW, intW, absW, lenW, truW, tyW, isTy, E.give, E.fresh, W.isNon, lineN_small, cstV]
  · have n1 : one (.tup [.str "next"]) = true := by decide +kernel
    have n2 : one (.tup [.str "fun", .tup [.str "count"]]) = true := by decide +kernel
    rw [ha, hb, hc, hd]
    refine pv.app (.cons (.rep w1 n1 (by omega) (PVs.cons (w2 (.int _)) PVs.nil) (by simp)) (.cons (.rep w1 n1 (by omega) (PVs.cons (w2 (.int _)) PVs.nil) (by simp)) (.cons (.rep (w2 w1) n2 (by omega) (PVs.cons (w2 (.int _)) PVs.nil) (by simp)) (.cons ?_ .nil))))
    exact .lst (PVs.rep w1 _) (by simp)
theorem body6 {u x : W} {s2 s3 s4 s5 s7 : Sl} {h : Obs} (ox : OKV x) : ∃ t7 h1, (forB (s22 6)).den (D22 k) [.val (.ref 0), .val u, s2, s3, s4, s5, .val x, s7] h = .nx [.val (.ref 0), .val u, s2, s3, s4, s5, .val x, t7] h1 := by
  obtain ⟨px, hx⟩ := ox
  obtain ⟨h1, e1⟩ := t21 (k := k + 6) (h := h) px hx
  have e1 : pg.T (k + 190) 21 [x] h = .ok (.bl (tm x)) h1 := e1
  have e2 : pg.T (k + 190) 10 [x] h1 = .ok (.bl (tm x)) h1 := t10 (k := k + 183) (h := h1) px (fun ns e => (hx ns e).1)
  have l2 : lineN 2 = true := lineN_small (by omega)
  have par : pg.par 10 = (["value"] : List Str) := rfl
  obtain ⟨s, r2⟩ := rep2 (tm x) (tm x)
  refine ⟨.val (.bl (tm x)), h1, ?_⟩
  simp [s22, nth, forB, unfrz, b22, e1, e2, par, kwPut, kwAll, Ks.den, l2, r2, eqS, Df.run, Ss.den, S.den, E.den, Es.den, Es.bo, Es.bt, Eo.den, Eo.tst, E.tst, It.den, R.bind, R.out, R.opt, startS, slotV, slotP, W.now, cmpW, intsW, idxW, L2.atI, L2.ixN, bltW, on1, on2, ifB, Tg.den, Tgs.den, tgo, binW, addW, intW, absW, lenW, truW, tyW, isTy, E.give, E.fresh, W.isNon, lineN_small, cstV, mulW]
theorem loop6 {u : W} {s2 s3 s4 s5 : Sl} : ∀ (xs : List W) (s6 s7 : Sl) (h : Obs), OKs xs → ∃ σ h1, forGo (fun w σ h => (forT (s22 6)).den (D22 k) w σ h) (fun σ h => (forB (s22 6)).den (D22 k) σ h) xs [.val (.ref 0), .val u, s2, s3, s4, s5, s6, s7] h = .nx σ h1
  | [], s6, s7, h, _ => ⟨_, _, rfl⟩
  | x :: xs, s6, s7, h, px => by
    obtain ⟨t7, h1, e⟩ := body6 (k := k) (u := u) (s2 := s2) (s3 := s3) (s4 := s4) (s5 := s5) (s7 := s7) (h := h) (px x List.mem_cons_self)
    obtain ⟨σ, h2, e2⟩ := loop6 (u := u) (s2 := s2) (s3 := s3) (s4 := s4) (s5 := s5) xs (.val x) t7 h1 (fun w hw => px w (List.mem_cons_of_mem _ hw))
    refine ⟨σ, h2, ?_⟩
    have put : (forT (s22 6)).den (D22 k) x [.val (.ref 0), .val u, s2, s3, s4, s5, s6, s7] h = .ok [.val (.ref 0), .val u, s2, s3, s4, s5, .val x, s7] h := rfl
    unfold forGo
    simp only [put, e]
    exact e2
theorem st6 {u odd vs : List W} {i : Int} {o : Sl} {h : Obs} (pv : OKs vs) (po : OKs odd) (hv : vs.length = 20) (ho : odd.length = 22) : ∃ σ h1, (s22 6).den (D22 k) [.val (.ref 0), .val (.lst u), .val (.int i), .own odd, o, .own vs, .non, .non] h = .nx σ h1 := by
  obtain ⟨σ, h1, e⟩ := loop6 (k := k) (u := .lst u) (s2 := .val (.int i)) (s3 := .own odd) (s4 := o) (s5 := .own vs) (vs ++ odd) .non .non h (pv.app po)
  refine ⟨σ, h1, ?_⟩
  have q : lineN 42 = true := lineN_small (by omega)
  have it : (forI (s22 6)).den (D22 k) [.val (.ref 0), .val (.lst u), .val (.int i), .own odd, o, .own vs, .non, .non] h = .ok (vs ++ odd) h := by
    simp [s22, nth, forI, unfrz, b22, hv, ho, q, W.items, Df.run, Ss.den, S.den, E.den, Es.den, Es.bo, Es.bt, Eo.den, Eo.tst, E.tst, It.den, R.bind, R.out, R.opt, startS, slotV, slotP, W.now, cmpW, intsW, idxW, L2.atI, L2.ixN, bltW, on1, on2, ifB, Tg.den, Tgs.den, tgo, binW, addW, intW, absW, lenW, truW, tyW, isTy, E.give, E.fresh, W.isNon, lineN_small, cstV, mulW]
  have sp : (s22 6).den (D22 k) [.val (.ref 0), .val (.lst u), .val (.int i), .own odd, o, .own vs, .non, .non] h = (match (forI (s22 6)).den (D22 k) [.val (.ref 0), .val (.lst u), .val (.int i), .own odd, o, .own vs, .non, .non] h with
    | .ok xs h => forGo (fun w σ h => (forT (s22 6)).den (D22 k) w σ h) (fun σ h => (forB (s22 6)).den (D22 k) σ h) xs [.val (.ref 0), .val (.lst u), .val (.int i), .own odd, o, .own vs, .non, .non] h
    | .exc x h => .exc x [.val (.ref 0), .val (.lst u), .val (.int i), .own odd, o, .own vs, .non, .non] h
    | .bad => .bad) := rfl
  rw [sp, it]
  exact e
theorem t22 {a b : Int} (v : Vd a b) : ∃ h, pg.T (k + 191) 22 [.ref 0] (PT a b []) = .ok (.bl true) h := by
  obtain ⟨u, a1, b1, e0, pu, lu, hp, v1⟩ := st0 (k := k) v
  obtain ⟨i, a2, b2, e1⟩ := st1 (k := k) v1 lu hp
  obtain ⟨odd, o, e2, po, lo⟩ := st2 (k := k) (i := i) (s5 := .non) (s6 := .non) (s7 := .non) (h := PT a2 b2 []) pu lu
  obtain ⟨odd3, o3, e3, po3, lo3⟩ := st3 (k := k) (i := i) (o := o) (s5 := .non) (s6 := .non) (s7 := .non) (h := PT a2 b2 []) pu lu po lo
  have e4 := st4 (k := k) (u := u) (odd := odd3) (i := i) (o := o3) (s6 := .non) (s7 := .non) (h := PT a2 b2 []) lu
  obtain ⟨vs, e5, pv, lv⟩ := st5 (k := k) (u := u) (odd := odd3) (i := i) (o := o3) (s6 := .non) (s7 := .non) (h := PT a2 b2 []) (vals_ok pu lu) rfl
  obtain ⟨σ, h6, e6⟩ := st6 (k := k) (u := u) (i := i) (o := o3) (h := PT a2 b2 []) pv po3 lv lo3
  refine ⟨h6, ?_⟩
  have run : pg.T (k + 191) 22 [.ref 0] (PT a b []) = (match Ss.den (D22 k) (.cons (s22 0) (.cons (s22 1) (.cons (s22 2) (.cons (s22 3) (.cons (s22 4) (.cons (s22 5) (.cons (s22 6) (.cons (s22 7) .nil)))))))) (startS 8 [.ref 0]) (PT a b []) with
    | .nx _ h => .ok .non h
    | .rt w h => .ok w h
    | .exc x _ h => .exc x h
    | _ => .bad) := rfl
  rw [run, seq e0, seq e1, seq e2, seq e3, seq e4, seq e5, seq e6]
  rfl
theorem law_all (ns : List Int) (hn : ns.length ≤ 63) : ∃ h, pg.T 200 23 [.scr ns] [] = .ok (.bl true) h := by
  obtain ⟨a, b, e, v⟩ := t11 (k := 198) ns
  obtain ⟨h, e2⟩ := t22 (k := 8) v
  refine ⟨h, ?_⟩
  have run : pg.T 200 23 [.scr ns] [] = Df.run ⟨"law", ["_law_script"], 1, b23⟩ ⟨pg.T 199, pg.cst, pg.par⟩ [.scr ns] [] := rfl
  rw [run]
  have e : pg.T 199 11 [.scr ns, .int 0] [] = .ok (.ref 0) (PT a b []) := e
  have e2 : pg.T 199 22 [.ref 0] (PT a b []) = .ok (.bl true) h := e2
  simp [b23, e, e2, Df.run, Ss.den, S.den, E.den, Es.den, Es.bo, Es.bt, Eo.den, Eo.tst, E.tst, It.den, R.bind, R.out, R.opt, startS, slotV, slotP, W.now, cmpW, intsW, idxW, L2.atI, L2.ixN, bltW, on1, on2, ifB, Tg.den, Tgs.den, tgo, binW, addW, intW, absW, lenW, truW, tyW, isTy, E.give, E.fresh, W.isNon, lineN_small, cstV, mulW]
end K14

set_option maxHeartbeats 0
namespace K14
open PySem PySem.Spec PyProof.Rows L2 Ev
abbrev row_ : PySem.W.OpenRow := PySem.W.OpenLaw.row PySem.Challenge.rw_selfprint_k14_any_value_as_term
def top (i : Nat) : Stmt := row_.prog.main.body.getD i (.Pass ⟨0, 0, 0, 0⟩)
def isDef : Stmt → Option Str
  | .FunctionDef n .. => some n
  | _ => none
def at_ (x : Str) : Stmt := (row_.prog.main.body.find? fun s => isDef s == some x).getD (.Pass ⟨0, 0, 0, 0⟩)
def kws_ : List (Nat × Nat × List Str) := [(10, 0, ["value"])]
def sts_ : List (Df × Stmt) := [(⟨"is_integer", ["value"], 1, b0⟩, at_ "is_integer"), (⟨"is_count", ["value"], 1, b1⟩, at_ "is_count"), (⟨"is_list", ["value"], 1, b2⟩, at_ "is_list"), (⟨"is_leaf", ["value"], 1, b3⟩, at_ "is_leaf"), (⟨"is_letter_word", ["value"], 1, b4⟩, at_ "is_letter_word"), (⟨"is_letter", ["value"], 1, b5⟩, at_ "is_letter"), (⟨"is_branch", ["value"], 1, b6⟩, at_ "is_branch"), (⟨"is_kind", ["value", "left", "signs", "one", "deep"], 1, b7⟩, at_ "is_kind"), (⟨"is_node", ["value"], 1, b8⟩, at_ "is_node"), (⟨"are_tree", ["nodes", "wanted", "node"], 1, b9⟩, at_ "are_tree"), (⟨"is_term", ["value", "node"], 1, b10⟩, at_ "is_term"), (⟨"_law_pot", ["_law_script", "_law_k", "_law_cell"], 2, b11⟩, at_ "_law_pot"), (⟨"_law_draw", ["_law_pot_here", "_law_size", "_law_digit"], 2, b12⟩, at_ "_law_draw"), (⟨"_law_pick", ["_law_pot_here", "_law_some"], 2, b13⟩, at_ "_law_pick"), (⟨"_law_kind", ["_law_pot_here", "_law_deep", "_law_way", "_law_near"], 2, b14⟩, at_ "_law_kind"), (⟨"_law_cut", ["_law_pot_here", "_law_kind_here", "_law_names", "_law_deep", "_law_way", "_law_other", "_law_body", "_law_what", "_law_near", "_law_far", "_law_more", "_law_arm", "_law_step"], 4, b15⟩, at_ "_law_cut"), (⟨"_law_made", ["_law_pot_here", "_law_kind_here", "_law_names", "_law_deep", "_law_here", "_law_near", "_law_at", "_law_one"], 4, b16⟩, at_ "_law_made"), (⟨"_law_binds", ["_law_word", "_law_some"], 1, b17⟩, at_ "_law_binds"), (⟨"_law_is_count", ["_law_value", "_law_most"], 2, b18⟩, at_ "_law_is_count"), (⟨"_law_is_node", ["_law_node"], 1, b19⟩, at_ "_law_is_node"), (⟨"_law_end", ["_law_nodes", "_law_begin", "_law_place", "_law_more"], 2, b20⟩, at_ "_law_end"), (⟨"_law_due", ["_law_value", "_law_rest", "_law_node"], 1, b21⟩, at_ "_law_due"), (⟨"_law_right", ["_law_pot_here", "_law_term", "_law_at", "_law_odd", "_law_node", "_law_values", "_law_value", "_law_due_here"], 1, b22⟩, at_ "_law_right"), (⟨"law", ["_law_script"], 1, b23⟩, at_ "law")]
def fn_ : List He.DefD := fnOf2 sts_
def fa_ : List He.Fa := faOf pg.defs
abbrev hk_ : PySem.W.Hook := He.hookX 6 fa_ fn_ (tabsOf csts) [] (cstsB csts)
def ob_ (s : PySem.W.SharedT) : He.AlX := He.obsX 6 fa_ fn_ (tabsOf csts) [] (cstsB csts) (HandSHeadRun.getT s)
theorem ob_eq_ (s : PySem.W.SharedT) : ob_ s = hk_.obs s.abs := He.obsX_eq (HandSHeadRun.getT_eq s)
def nm_ : Stmt → List Str
  | .FunctionDef n .. => [n]
  | .ClassDef n .. => [n]
  | .Assign [.Name n _] _ _ => [n]
  | _ => []
def lawIx_ : Nat := row_.prog.main.body.length - 1
def loose_ : List Str := (row_.prog.main.body.dropLast.flatMap nm_).eraseDups
theorem run_ (w : World) : HandSHeadRun.RunEq row_ (PySem.W.view row_.prog [lawIx_]) hk_ ob_ 6000 loose_ w :=
  PySem.W.byRow2 "special-get-raises" (P := fun w => HandSHeadRun.RunEq row_ (PySem.W.view row_.prog [lawIx_]) hk_ ob_ 6000 loose_ w) (fun w => by
    intro os
    kernel_rfl) (fun w => by
    intro os
    kernel_rfl) w
abbrev fs_ : Nat → Option Str := fun (i : Nat) => (pg.defs[i]?).map Df.nm
section
variable {K : PySem.W.Frag} {h : Heap} {mg : Str → Option Value}
theorem un_0 : defBody (at_ "is_integer") = Ss.un b0 := by kernel_rfl
theorem sc_0 : FnScope (["value"] : List Str) (List.take 1 (["value"] : List Str)) (defScope (at_ "is_integer")) := ⟨by kernel_rfl, by kernel_rfl, by kernel_rfl, by decide +kernel, by kernel_rfl, by decide +kernel, by decide +kernel⟩
theorem ok_0 : Ss.okS ⟨(["value"] : List Str), fs_, kws_⟩ (defScope (at_ "is_integer")) b0 = true := by kernel_rfl
theorem bd_0 (kV doc pm : Value) (an : Option Addr) (cdv ct : Value) (us : List Value) (hl : us.length = (List.take 1 (["value"] : List Str)).length) : bindArgs (PySem.W.fnOf "is_integer" "is_integer" (defArgs (at_ "is_integer")) (defBody (at_ "is_integer")) (defScope (at_ "is_integer")) .none kV doc pm an cdv ct) ⟨us, []⟩ = pure ((List.take 1 (["value"] : List Str)).zip us) := match us, hl with | [_], _ => rfl
theorem kw_0 (kV doc pm : Value) (an : Option Addr) (cdv ct : Value) : KwOk kws_ 0 (PySem.W.fnOf "is_integer" "is_integer" (defArgs (at_ "is_integer")) (defBody (at_ "is_integer")) (defScope (at_ "is_integer")) .none kV doc pm an cdv ct) (List.take 1 (["value"] : List Str)) := by
  intro n ks hm us zs h1 h2
  simp only [kws_, List.mem_cons, List.not_mem_nil, or_false, Prod.mk.injEq] at hm
  omega
theorem df_0 (X : K.In h) (G : h.Ns mainGlobals mg) (c : He.SaysD fa_ fn_ K) : DefOk K mg fs_ kws_ 0 ⟨"is_integer", (["value"] : List Str), 1, b0⟩ := by
  obtain ⟨fd, F⟩ := c.def_ 0 (d := dtD ⟨"is_integer", (["value"] : List Str), 1, b0⟩ (at_ "is_integer")) rfl
  exact def_of (st := at_ "is_integer") F (He.glo_ok X G (c.fact 0 (f := .glo "is_integer") rfl)) un_0 sc_0 ok_0 (by decide) bd_0 kw_0
end
section
variable {K : PySem.W.Frag} {h : Heap} {mg : Str → Option Value}
theorem un_1 : defBody (at_ "is_count") = Ss.un b1 := by kernel_rfl
theorem sc_1 : FnScope (["value"] : List Str) (List.take 1 (["value"] : List Str)) (defScope (at_ "is_count")) := ⟨by kernel_rfl, by kernel_rfl, by kernel_rfl, by decide +kernel, by kernel_rfl, by decide +kernel, by decide +kernel⟩
theorem ok_1 : Ss.okS ⟨(["value"] : List Str), fs_, kws_⟩ (defScope (at_ "is_count")) b1 = true := by kernel_rfl
theorem bd_1 (kV doc pm : Value) (an : Option Addr) (cdv ct : Value) (us : List Value) (hl : us.length = (List.take 1 (["value"] : List Str)).length) : bindArgs (PySem.W.fnOf "is_count" "is_count" (defArgs (at_ "is_count")) (defBody (at_ "is_count")) (defScope (at_ "is_count")) .none kV doc pm an cdv ct) ⟨us, []⟩ = pure ((List.take 1 (["value"] : List Str)).zip us) := match us, hl with | [_], _ => rfl
theorem kw_1 (kV doc pm : Value) (an : Option Addr) (cdv ct : Value) : KwOk kws_ 1 (PySem.W.fnOf "is_count" "is_count" (defArgs (at_ "is_count")) (defBody (at_ "is_count")) (defScope (at_ "is_count")) .none kV doc pm an cdv ct) (List.take 1 (["value"] : List Str)) := by
  intro n ks hm us zs h1 h2
  simp only [kws_, List.mem_cons, List.not_mem_nil, or_false, Prod.mk.injEq] at hm
  omega
theorem df_1 (X : K.In h) (G : h.Ns mainGlobals mg) (c : He.SaysD fa_ fn_ K) : DefOk K mg fs_ kws_ 1 ⟨"is_count", (["value"] : List Str), 1, b1⟩ := by
  obtain ⟨fd, F⟩ := c.def_ 1 (d := dtD ⟨"is_count", (["value"] : List Str), 1, b1⟩ (at_ "is_count")) rfl
  exact def_of (st := at_ "is_count") F (He.glo_ok X G (c.fact 1 (f := .glo "is_count") rfl)) un_1 sc_1 ok_1 (by decide) bd_1 kw_1
end
section
variable {K : PySem.W.Frag} {h : Heap} {mg : Str → Option Value}
theorem un_2 : defBody (at_ "is_list") = Ss.un b2 := by kernel_rfl
theorem sc_2 : FnScope (["value"] : List Str) (List.take 1 (["value"] : List Str)) (defScope (at_ "is_list")) := ⟨by kernel_rfl, by kernel_rfl, by kernel_rfl, by decide +kernel, by kernel_rfl, by decide +kernel, by decide +kernel⟩
theorem ok_2 : Ss.okS ⟨(["value"] : List Str), fs_, kws_⟩ (defScope (at_ "is_list")) b2 = true := by kernel_rfl
theorem bd_2 (kV doc pm : Value) (an : Option Addr) (cdv ct : Value) (us : List Value) (hl : us.length = (List.take 1 (["value"] : List Str)).length) : bindArgs (PySem.W.fnOf "is_list" "is_list" (defArgs (at_ "is_list")) (defBody (at_ "is_list")) (defScope (at_ "is_list")) .none kV doc pm an cdv ct) ⟨us, []⟩ = pure ((List.take 1 (["value"] : List Str)).zip us) := match us, hl with | [_], _ => rfl
theorem kw_2 (kV doc pm : Value) (an : Option Addr) (cdv ct : Value) : KwOk kws_ 2 (PySem.W.fnOf "is_list" "is_list" (defArgs (at_ "is_list")) (defBody (at_ "is_list")) (defScope (at_ "is_list")) .none kV doc pm an cdv ct) (List.take 1 (["value"] : List Str)) := by
  intro n ks hm us zs h1 h2
  simp only [kws_, List.mem_cons, List.not_mem_nil, or_false, Prod.mk.injEq] at hm
  omega
theorem df_2 (X : K.In h) (G : h.Ns mainGlobals mg) (c : He.SaysD fa_ fn_ K) : DefOk K mg fs_ kws_ 2 ⟨"is_list", (["value"] : List Str), 1, b2⟩ := by
  obtain ⟨fd, F⟩ := c.def_ 2 (d := dtD ⟨"is_list", (["value"] : List Str), 1, b2⟩ (at_ "is_list")) rfl
  exact def_of (st := at_ "is_list") F (He.glo_ok X G (c.fact 2 (f := .glo "is_list") rfl)) un_2 sc_2 ok_2 (by decide) bd_2 kw_2
end
section
variable {K : PySem.W.Frag} {h : Heap} {mg : Str → Option Value}
theorem un_3 : defBody (at_ "is_leaf") = Ss.un b3 := by kernel_rfl
theorem sc_3 : FnScope (["value"] : List Str) (List.take 1 (["value"] : List Str)) (defScope (at_ "is_leaf")) := ⟨by kernel_rfl, by kernel_rfl, by kernel_rfl, by decide +kernel, by kernel_rfl, by decide +kernel, by decide +kernel⟩
theorem ok_3 : Ss.okS ⟨(["value"] : List Str), fs_, kws_⟩ (defScope (at_ "is_leaf")) b3 = true := by kernel_rfl
theorem bd_3 (kV doc pm : Value) (an : Option Addr) (cdv ct : Value) (us : List Value) (hl : us.length = (List.take 1 (["value"] : List Str)).length) : bindArgs (PySem.W.fnOf "is_leaf" "is_leaf" (defArgs (at_ "is_leaf")) (defBody (at_ "is_leaf")) (defScope (at_ "is_leaf")) .none kV doc pm an cdv ct) ⟨us, []⟩ = pure ((List.take 1 (["value"] : List Str)).zip us) := match us, hl with | [_], _ => rfl
theorem kw_3 (kV doc pm : Value) (an : Option Addr) (cdv ct : Value) : KwOk kws_ 3 (PySem.W.fnOf "is_leaf" "is_leaf" (defArgs (at_ "is_leaf")) (defBody (at_ "is_leaf")) (defScope (at_ "is_leaf")) .none kV doc pm an cdv ct) (List.take 1 (["value"] : List Str)) := by
  intro n ks hm us zs h1 h2
  simp only [kws_, List.mem_cons, List.not_mem_nil, or_false, Prod.mk.injEq] at hm
  omega
theorem df_3 (X : K.In h) (G : h.Ns mainGlobals mg) (c : He.SaysD fa_ fn_ K) : DefOk K mg fs_ kws_ 3 ⟨"is_leaf", (["value"] : List Str), 1, b3⟩ := by
  obtain ⟨fd, F⟩ := c.def_ 3 (d := dtD ⟨"is_leaf", (["value"] : List Str), 1, b3⟩ (at_ "is_leaf")) rfl
  exact def_of (st := at_ "is_leaf") F (He.glo_ok X G (c.fact 3 (f := .glo "is_leaf") rfl)) un_3 sc_3 ok_3 (by decide) bd_3 kw_3
end
section
variable {K : PySem.W.Frag} {h : Heap} {mg : Str → Option Value}
theorem un_4 : defBody (at_ "is_letter_word") = Ss.un b4 := by kernel_rfl
theorem sc_4 : FnScope (["value"] : List Str) (List.take 1 (["value"] : List Str)) (defScope (at_ "is_letter_word")) := ⟨by kernel_rfl, by kernel_rfl, by kernel_rfl, by decide +kernel, by kernel_rfl, by decide +kernel, by decide +kernel⟩
theorem ok_4 : Ss.okS ⟨(["value"] : List Str), fs_, kws_⟩ (defScope (at_ "is_letter_word")) b4 = true := by kernel_rfl
theorem bd_4 (kV doc pm : Value) (an : Option Addr) (cdv ct : Value) (us : List Value) (hl : us.length = (List.take 1 (["value"] : List Str)).length) : bindArgs (PySem.W.fnOf "is_letter_word" "is_letter_word" (defArgs (at_ "is_letter_word")) (defBody (at_ "is_letter_word")) (defScope (at_ "is_letter_word")) .none kV doc pm an cdv ct) ⟨us, []⟩ = pure ((List.take 1 (["value"] : List Str)).zip us) := match us, hl with | [_], _ => rfl
theorem kw_4 (kV doc pm : Value) (an : Option Addr) (cdv ct : Value) : KwOk kws_ 4 (PySem.W.fnOf "is_letter_word" "is_letter_word" (defArgs (at_ "is_letter_word")) (defBody (at_ "is_letter_word")) (defScope (at_ "is_letter_word")) .none kV doc pm an cdv ct) (List.take 1 (["value"] : List Str)) := by
  intro n ks hm us zs h1 h2
  simp only [kws_, List.mem_cons, List.not_mem_nil, or_false, Prod.mk.injEq] at hm
  omega
theorem df_4 (X : K.In h) (G : h.Ns mainGlobals mg) (c : He.SaysD fa_ fn_ K) : DefOk K mg fs_ kws_ 4 ⟨"is_letter_word", (["value"] : List Str), 1, b4⟩ := by
  obtain ⟨fd, F⟩ := c.def_ 4 (d := dtD ⟨"is_letter_word", (["value"] : List Str), 1, b4⟩ (at_ "is_letter_word")) rfl
  exact def_of (st := at_ "is_letter_word") F (He.glo_ok X G (c.fact 4 (f := .glo "is_letter_word") rfl)) un_4 sc_4 ok_4 (by decide) bd_4 kw_4
end
section
variable {K : PySem.W.Frag} {h : Heap} {mg : Str → Option Value}
theorem un_5 : defBody (at_ "is_letter") = Ss.un b5 := by kernel_rfl
theorem sc_5 : FnScope (["value"] : List Str) (List.take 1 (["value"] : List Str)) (defScope (at_ "is_letter")) := ⟨by kernel_rfl, by kernel_rfl, by kernel_rfl, by decide +kernel, by kernel_rfl, by decide +kernel, by decide +kernel⟩
theorem ok_5 : Ss.okS ⟨(["value"] : List Str), fs_, kws_⟩ (defScope (at_ "is_letter")) b5 = true := by kernel_rfl
theorem bd_5 (kV doc pm : Value) (an : Option Addr) (cdv ct : Value) (us : List Value) (hl : us.length = (List.take 1 (["value"] : List Str)).length) : bindArgs (PySem.W.fnOf "is_letter" "is_letter" (defArgs (at_ "is_letter")) (defBody (at_ "is_letter")) (defScope (at_ "is_letter")) .none kV doc pm an cdv ct) ⟨us, []⟩ = pure ((List.take 1 (["value"] : List Str)).zip us) := match us, hl with | [_], _ => rfl
theorem kw_5 (kV doc pm : Value) (an : Option Addr) (cdv ct : Value) : KwOk kws_ 5 (PySem.W.fnOf "is_letter" "is_letter" (defArgs (at_ "is_letter")) (defBody (at_ "is_letter")) (defScope (at_ "is_letter")) .none kV doc pm an cdv ct) (List.take 1 (["value"] : List Str)) := by
  intro n ks hm us zs h1 h2
  simp only [kws_, List.mem_cons, List.not_mem_nil, or_false, Prod.mk.injEq] at hm
  omega
theorem df_5 (X : K.In h) (G : h.Ns mainGlobals mg) (c : He.SaysD fa_ fn_ K) : DefOk K mg fs_ kws_ 5 ⟨"is_letter", (["value"] : List Str), 1, b5⟩ := by
  obtain ⟨fd, F⟩ := c.def_ 5 (d := dtD ⟨"is_letter", (["value"] : List Str), 1, b5⟩ (at_ "is_letter")) rfl
  exact def_of (st := at_ "is_letter") F (He.glo_ok X G (c.fact 5 (f := .glo "is_letter") rfl)) un_5 sc_5 ok_5 (by decide) bd_5 kw_5
end
section
variable {K : PySem.W.Frag} {h : Heap} {mg : Str → Option Value}
theorem un_6 : defBody (at_ "is_branch") = Ss.un b6 := by kernel_rfl
theorem sc_6 : FnScope (["value"] : List Str) (List.take 1 (["value"] : List Str)) (defScope (at_ "is_branch")) := ⟨by kernel_rfl, by kernel_rfl, by kernel_rfl, by decide +kernel, by kernel_rfl, by decide +kernel, by decide +kernel⟩
theorem ok_6 : Ss.okS ⟨(["value"] : List Str), fs_, kws_⟩ (defScope (at_ "is_branch")) b6 = true := by kernel_rfl
theorem bd_6 (kV doc pm : Value) (an : Option Addr) (cdv ct : Value) (us : List Value) (hl : us.length = (List.take 1 (["value"] : List Str)).length) : bindArgs (PySem.W.fnOf "is_branch" "is_branch" (defArgs (at_ "is_branch")) (defBody (at_ "is_branch")) (defScope (at_ "is_branch")) .none kV doc pm an cdv ct) ⟨us, []⟩ = pure ((List.take 1 (["value"] : List Str)).zip us) := match us, hl with | [_], _ => rfl
theorem kw_6 (kV doc pm : Value) (an : Option Addr) (cdv ct : Value) : KwOk kws_ 6 (PySem.W.fnOf "is_branch" "is_branch" (defArgs (at_ "is_branch")) (defBody (at_ "is_branch")) (defScope (at_ "is_branch")) .none kV doc pm an cdv ct) (List.take 1 (["value"] : List Str)) := by
  intro n ks hm us zs h1 h2
  simp only [kws_, List.mem_cons, List.not_mem_nil, or_false, Prod.mk.injEq] at hm
  omega
theorem df_6 (X : K.In h) (G : h.Ns mainGlobals mg) (c : He.SaysD fa_ fn_ K) : DefOk K mg fs_ kws_ 6 ⟨"is_branch", (["value"] : List Str), 1, b6⟩ := by
  obtain ⟨fd, F⟩ := c.def_ 6 (d := dtD ⟨"is_branch", (["value"] : List Str), 1, b6⟩ (at_ "is_branch")) rfl
  exact def_of (st := at_ "is_branch") F (He.glo_ok X G (c.fact 6 (f := .glo "is_branch") rfl)) un_6 sc_6 ok_6 (by decide) bd_6 kw_6
end
section
variable {K : PySem.W.Frag} {h : Heap} {mg : Str → Option Value}
theorem un_7 : defBody (at_ "is_kind") = Ss.un b7 := by kernel_rfl
theorem sc_7 : FnScope (["value", "left", "signs", "one", "deep"] : List Str) (List.take 1 (["value", "left", "signs", "one", "deep"] : List Str)) (defScope (at_ "is_kind")) := ⟨by kernel_rfl, by kernel_rfl, by kernel_rfl, by decide +kernel, by kernel_rfl, by decide +kernel, by decide +kernel⟩
theorem ok_7 : Ss.okS ⟨(["value", "left", "signs", "one", "deep"] : List Str), fs_, kws_⟩ (defScope (at_ "is_kind")) b7 = true := by kernel_rfl
theorem bd_7 (kV doc pm : Value) (an : Option Addr) (cdv ct : Value) (us : List Value) (hl : us.length = (List.take 1 (["value", "left", "signs", "one", "deep"] : List Str)).length) : bindArgs (PySem.W.fnOf "is_kind" "is_kind" (defArgs (at_ "is_kind")) (defBody (at_ "is_kind")) (defScope (at_ "is_kind")) .none kV doc pm an cdv ct) ⟨us, []⟩ = pure ((List.take 1 (["value", "left", "signs", "one", "deep"] : List Str)).zip us) := match us, hl with | [_], _ => rfl
theorem kw_7 (kV doc pm : Value) (an : Option Addr) (cdv ct : Value) : KwOk kws_ 7 (PySem.W.fnOf "is_kind" "is_kind" (defArgs (at_ "is_kind")) (defBody (at_ "is_kind")) (defScope (at_ "is_kind")) .none kV doc pm an cdv ct) (List.take 1 (["value", "left", "signs", "one", "deep"] : List Str)) := by
  intro n ks hm us zs h1 h2
  simp only [kws_, List.mem_cons, List.not_mem_nil, or_false, Prod.mk.injEq] at hm
  omega
theorem df_7 (X : K.In h) (G : h.Ns mainGlobals mg) (c : He.SaysD fa_ fn_ K) : DefOk K mg fs_ kws_ 7 ⟨"is_kind", (["value", "left", "signs", "one", "deep"] : List Str), 1, b7⟩ := by
  obtain ⟨fd, F⟩ := c.def_ 7 (d := dtD ⟨"is_kind", (["value", "left", "signs", "one", "deep"] : List Str), 1, b7⟩ (at_ "is_kind")) rfl
  exact def_of (st := at_ "is_kind") F (He.glo_ok X G (c.fact 7 (f := .glo "is_kind") rfl)) un_7 sc_7 ok_7 (by decide) bd_7 kw_7
end
section
variable {K : PySem.W.Frag} {h : Heap} {mg : Str → Option Value}
theorem un_8 : defBody (at_ "is_node") = Ss.un b8 := by kernel_rfl
theorem sc_8 : FnScope (["value"] : List Str) (List.take 1 (["value"] : List Str)) (defScope (at_ "is_node")) := ⟨by kernel_rfl, by kernel_rfl, by kernel_rfl, by decide +kernel, by kernel_rfl, by decide +kernel, by decide +kernel⟩
theorem ok_8 : Ss.okS ⟨(["value"] : List Str), fs_, kws_⟩ (defScope (at_ "is_node")) b8 = true := by kernel_rfl
theorem bd_8 (kV doc pm : Value) (an : Option Addr) (cdv ct : Value) (us : List Value) (hl : us.length = (List.take 1 (["value"] : List Str)).length) : bindArgs (PySem.W.fnOf "is_node" "is_node" (defArgs (at_ "is_node")) (defBody (at_ "is_node")) (defScope (at_ "is_node")) .none kV doc pm an cdv ct) ⟨us, []⟩ = pure ((List.take 1 (["value"] : List Str)).zip us) := match us, hl with | [_], _ => rfl
theorem kw_8 (kV doc pm : Value) (an : Option Addr) (cdv ct : Value) : KwOk kws_ 8 (PySem.W.fnOf "is_node" "is_node" (defArgs (at_ "is_node")) (defBody (at_ "is_node")) (defScope (at_ "is_node")) .none kV doc pm an cdv ct) (List.take 1 (["value"] : List Str)) := by
  intro n ks hm us zs h1 h2
  simp only [kws_, List.mem_cons, List.not_mem_nil, or_false, Prod.mk.injEq] at hm
  omega
theorem df_8 (X : K.In h) (G : h.Ns mainGlobals mg) (c : He.SaysD fa_ fn_ K) : DefOk K mg fs_ kws_ 8 ⟨"is_node", (["value"] : List Str), 1, b8⟩ := by
  obtain ⟨fd, F⟩ := c.def_ 8 (d := dtD ⟨"is_node", (["value"] : List Str), 1, b8⟩ (at_ "is_node")) rfl
  exact def_of (st := at_ "is_node") F (He.glo_ok X G (c.fact 8 (f := .glo "is_node") rfl)) un_8 sc_8 ok_8 (by decide) bd_8 kw_8
end
section
variable {K : PySem.W.Frag} {h : Heap} {mg : Str → Option Value}
theorem un_9 : defBody (at_ "are_tree") = Ss.un b9 := by kernel_rfl
theorem sc_9 : FnScope (["nodes", "wanted", "node"] : List Str) (List.take 1 (["nodes", "wanted", "node"] : List Str)) (defScope (at_ "are_tree")) := ⟨by kernel_rfl, by kernel_rfl, by kernel_rfl, by decide +kernel, by kernel_rfl, by decide +kernel, by decide +kernel⟩
theorem ok_9 : Ss.okS ⟨(["nodes", "wanted", "node"] : List Str), fs_, kws_⟩ (defScope (at_ "are_tree")) b9 = true := by kernel_rfl
theorem bd_9 (kV doc pm : Value) (an : Option Addr) (cdv ct : Value) (us : List Value) (hl : us.length = (List.take 1 (["nodes", "wanted", "node"] : List Str)).length) : bindArgs (PySem.W.fnOf "are_tree" "are_tree" (defArgs (at_ "are_tree")) (defBody (at_ "are_tree")) (defScope (at_ "are_tree")) .none kV doc pm an cdv ct) ⟨us, []⟩ = pure ((List.take 1 (["nodes", "wanted", "node"] : List Str)).zip us) := match us, hl with | [_], _ => rfl
theorem kw_9 (kV doc pm : Value) (an : Option Addr) (cdv ct : Value) : KwOk kws_ 9 (PySem.W.fnOf "are_tree" "are_tree" (defArgs (at_ "are_tree")) (defBody (at_ "are_tree")) (defScope (at_ "are_tree")) .none kV doc pm an cdv ct) (List.take 1 (["nodes", "wanted", "node"] : List Str)) := by
  intro n ks hm us zs h1 h2
  simp only [kws_, List.mem_cons, List.not_mem_nil, or_false, Prod.mk.injEq] at hm
  omega
theorem df_9 (X : K.In h) (G : h.Ns mainGlobals mg) (c : He.SaysD fa_ fn_ K) : DefOk K mg fs_ kws_ 9 ⟨"are_tree", (["nodes", "wanted", "node"] : List Str), 1, b9⟩ := by
  obtain ⟨fd, F⟩ := c.def_ 9 (d := dtD ⟨"are_tree", (["nodes", "wanted", "node"] : List Str), 1, b9⟩ (at_ "are_tree")) rfl
  exact def_of (st := at_ "are_tree") F (He.glo_ok X G (c.fact 9 (f := .glo "are_tree") rfl)) un_9 sc_9 ok_9 (by decide) bd_9 kw_9
end
section
variable {K : PySem.W.Frag} {h : Heap} {mg : Str → Option Value}
theorem un_10 : defBody (at_ "is_term") = Ss.un b10 := by kernel_rfl
theorem sc_10 : FnScope (["value", "node"] : List Str) (List.take 1 (["value", "node"] : List Str)) (defScope (at_ "is_term")) := ⟨by kernel_rfl, by kernel_rfl, by kernel_rfl, by decide +kernel, by kernel_rfl, by decide +kernel, by decide +kernel⟩
theorem ok_10 : Ss.okS ⟨(["value", "node"] : List Str), fs_, kws_⟩ (defScope (at_ "is_term")) b10 = true := by kernel_rfl
theorem bd_10 (kV doc pm : Value) (an : Option Addr) (cdv ct : Value) (us : List Value) (hl : us.length = (List.take 1 (["value", "node"] : List Str)).length) : bindArgs (PySem.W.fnOf "is_term" "is_term" (defArgs (at_ "is_term")) (defBody (at_ "is_term")) (defScope (at_ "is_term")) .none kV doc pm an cdv ct) ⟨us, []⟩ = pure ((List.take 1 (["value", "node"] : List Str)).zip us) := match us, hl with | [_], _ => rfl
theorem kw_10 (kV doc pm : Value) (an : Option Addr) (cdv ct : Value) : KwOk kws_ 10 (PySem.W.fnOf "is_term" "is_term" (defArgs (at_ "is_term")) (defBody (at_ "is_term")) (defScope (at_ "is_term")) .none kV doc pm an cdv ct) (List.take 1 (["value", "node"] : List Str)) := by
  intro n ks hm us zs h1 h2
  simp only [kws_, List.mem_cons, List.not_mem_nil, or_false, Prod.mk.injEq] at hm
  rcases hm with ⟨h, rfl, rfl⟩
  · match us, h1, zs, h2 with | [], _, [_], _ => exact ⟨_, rfl, fun s => .of_eq rfl⟩
theorem df_10 (X : K.In h) (G : h.Ns mainGlobals mg) (c : He.SaysD fa_ fn_ K) : DefOk K mg fs_ kws_ 10 ⟨"is_term", (["value", "node"] : List Str), 1, b10⟩ := by
  obtain ⟨fd, F⟩ := c.def_ 10 (d := dtD ⟨"is_term", (["value", "node"] : List Str), 1, b10⟩ (at_ "is_term")) rfl
  exact def_of (st := at_ "is_term") F (He.glo_ok X G (c.fact 10 (f := .glo "is_term") rfl)) un_10 sc_10 ok_10 (by decide) bd_10 kw_10
end
section
variable {K : PySem.W.Frag} {h : Heap} {mg : Str → Option Value}
theorem un_11 : defBody (at_ "_law_pot") = Ss.un b11 := by kernel_rfl
theorem sc_11 : FnScope (["_law_script", "_law_k", "_law_cell"] : List Str) (List.take 2 (["_law_script", "_law_k", "_law_cell"] : List Str)) (defScope (at_ "_law_pot")) := ⟨by kernel_rfl, by kernel_rfl, by kernel_rfl, by decide +kernel, by kernel_rfl, by decide +kernel, by decide +kernel⟩
theorem ok_11 : Ss.okS ⟨(["_law_script", "_law_k", "_law_cell"] : List Str), fs_, kws_⟩ (defScope (at_ "_law_pot")) b11 = true := by kernel_rfl
theorem bd_11 (kV doc pm : Value) (an : Option Addr) (cdv ct : Value) (us : List Value) (hl : us.length = (List.take 2 (["_law_script", "_law_k", "_law_cell"] : List Str)).length) : bindArgs (PySem.W.fnOf "_law_pot" "_law_pot" (defArgs (at_ "_law_pot")) (defBody (at_ "_law_pot")) (defScope (at_ "_law_pot")) .none kV doc pm an cdv ct) ⟨us, []⟩ = pure ((List.take 2 (["_law_script", "_law_k", "_law_cell"] : List Str)).zip us) := match us, hl with | [_, _], _ => rfl
theorem kw_11 (kV doc pm : Value) (an : Option Addr) (cdv ct : Value) : KwOk kws_ 11 (PySem.W.fnOf "_law_pot" "_law_pot" (defArgs (at_ "_law_pot")) (defBody (at_ "_law_pot")) (defScope (at_ "_law_pot")) .none kV doc pm an cdv ct) (List.take 2 (["_law_script", "_law_k", "_law_cell"] : List Str)) := by
  intro n ks hm us zs h1 h2
  simp only [kws_, List.mem_cons, List.not_mem_nil, or_false, Prod.mk.injEq] at hm
  omega
theorem df_11 (X : K.In h) (G : h.Ns mainGlobals mg) (c : He.SaysD fa_ fn_ K) : DefOk K mg fs_ kws_ 11 ⟨"_law_pot", (["_law_script", "_law_k", "_law_cell"] : List Str), 2, b11⟩ := by
  obtain ⟨fd, F⟩ := c.def_ 11 (d := dtD ⟨"_law_pot", (["_law_script", "_law_k", "_law_cell"] : List Str), 2, b11⟩ (at_ "_law_pot")) rfl
  exact def_of (st := at_ "_law_pot") F (He.glo_ok X G (c.fact 11 (f := .glo "_law_pot") rfl)) un_11 sc_11 ok_11 (by decide) bd_11 kw_11
end
section
variable {K : PySem.W.Frag} {h : Heap} {mg : Str → Option Value}
theorem un_12 : defBody (at_ "_law_draw") = Ss.un b12 := by kernel_rfl
theorem sc_12 : FnScope (["_law_pot_here", "_law_size", "_law_digit"] : List Str) (List.take 2 (["_law_pot_here", "_law_size", "_law_digit"] : List Str)) (defScope (at_ "_law_draw")) := ⟨by kernel_rfl, by kernel_rfl, by kernel_rfl, by decide +kernel, by kernel_rfl, by decide +kernel, by decide +kernel⟩
theorem ok_12 : Ss.okS ⟨(["_law_pot_here", "_law_size", "_law_digit"] : List Str), fs_, kws_⟩ (defScope (at_ "_law_draw")) b12 = true := by kernel_rfl
theorem bd_12 (kV doc pm : Value) (an : Option Addr) (cdv ct : Value) (us : List Value) (hl : us.length = (List.take 2 (["_law_pot_here", "_law_size", "_law_digit"] : List Str)).length) : bindArgs (PySem.W.fnOf "_law_draw" "_law_draw" (defArgs (at_ "_law_draw")) (defBody (at_ "_law_draw")) (defScope (at_ "_law_draw")) .none kV doc pm an cdv ct) ⟨us, []⟩ = pure ((List.take 2 (["_law_pot_here", "_law_size", "_law_digit"] : List Str)).zip us) := match us, hl with | [_, _], _ => rfl
theorem kw_12 (kV doc pm : Value) (an : Option Addr) (cdv ct : Value) : KwOk kws_ 12 (PySem.W.fnOf "_law_draw" "_law_draw" (defArgs (at_ "_law_draw")) (defBody (at_ "_law_draw")) (defScope (at_ "_law_draw")) .none kV doc pm an cdv ct) (List.take 2 (["_law_pot_here", "_law_size", "_law_digit"] : List Str)) := by
  intro n ks hm us zs h1 h2
  simp only [kws_, List.mem_cons, List.not_mem_nil, or_false, Prod.mk.injEq] at hm
  omega
theorem df_12 (X : K.In h) (G : h.Ns mainGlobals mg) (c : He.SaysD fa_ fn_ K) : DefOk K mg fs_ kws_ 12 ⟨"_law_draw", (["_law_pot_here", "_law_size", "_law_digit"] : List Str), 2, b12⟩ := by
  obtain ⟨fd, F⟩ := c.def_ 12 (d := dtD ⟨"_law_draw", (["_law_pot_here", "_law_size", "_law_digit"] : List Str), 2, b12⟩ (at_ "_law_draw")) rfl
  exact def_of (st := at_ "_law_draw") F (He.glo_ok X G (c.fact 12 (f := .glo "_law_draw") rfl)) un_12 sc_12 ok_12 (by decide) bd_12 kw_12
end
section
variable {K : PySem.W.Frag} {h : Heap} {mg : Str → Option Value}
theorem un_13 : defBody (at_ "_law_pick") = Ss.un b13 := by kernel_rfl
theorem sc_13 : FnScope (["_law_pot_here", "_law_some"] : List Str) (List.take 2 (["_law_pot_here", "_law_some"] : List Str)) (defScope (at_ "_law_pick")) := ⟨by kernel_rfl, by kernel_rfl, by kernel_rfl, by decide +kernel, by kernel_rfl, by decide +kernel, by decide +kernel⟩
theorem ok_13 : Ss.okS ⟨(["_law_pot_here", "_law_some"] : List Str), fs_, kws_⟩ (defScope (at_ "_law_pick")) b13 = true := by kernel_rfl
theorem bd_13 (kV doc pm : Value) (an : Option Addr) (cdv ct : Value) (us : List Value) (hl : us.length = (List.take 2 (["_law_pot_here", "_law_some"] : List Str)).length) : bindArgs (PySem.W.fnOf "_law_pick" "_law_pick" (defArgs (at_ "_law_pick")) (defBody (at_ "_law_pick")) (defScope (at_ "_law_pick")) .none kV doc pm an cdv ct) ⟨us, []⟩ = pure ((List.take 2 (["_law_pot_here", "_law_some"] : List Str)).zip us) := match us, hl with | [_, _], _ => rfl
theorem kw_13 (kV doc pm : Value) (an : Option Addr) (cdv ct : Value) : KwOk kws_ 13 (PySem.W.fnOf "_law_pick" "_law_pick" (defArgs (at_ "_law_pick")) (defBody (at_ "_law_pick")) (defScope (at_ "_law_pick")) .none kV doc pm an cdv ct) (List.take 2 (["_law_pot_here", "_law_some"] : List Str)) := by
  intro n ks hm us zs h1 h2
  simp only [kws_, List.mem_cons, List.not_mem_nil, or_false, Prod.mk.injEq] at hm
  omega
theorem df_13 (X : K.In h) (G : h.Ns mainGlobals mg) (c : He.SaysD fa_ fn_ K) : DefOk K mg fs_ kws_ 13 ⟨"_law_pick", (["_law_pot_here", "_law_some"] : List Str), 2, b13⟩ := by
  obtain ⟨fd, F⟩ := c.def_ 13 (d := dtD ⟨"_law_pick", (["_law_pot_here", "_law_some"] : List Str), 2, b13⟩ (at_ "_law_pick")) rfl
  exact def_of (st := at_ "_law_pick") F (He.glo_ok X G (c.fact 13 (f := .glo "_law_pick") rfl)) un_13 sc_13 ok_13 (by decide) bd_13 kw_13
end
section
variable {K : PySem.W.Frag} {h : Heap} {mg : Str → Option Value}
theorem un_14 : defBody (at_ "_law_kind") = Ss.un b14 := by kernel_rfl
theorem sc_14 : FnScope (["_law_pot_here", "_law_deep", "_law_way", "_law_near"] : List Str) (List.take 2 (["_law_pot_here", "_law_deep", "_law_way", "_law_near"] : List Str)) (defScope (at_ "_law_kind")) := ⟨by kernel_rfl, by kernel_rfl, by kernel_rfl, by decide +kernel, by kernel_rfl, by decide +kernel, by decide +kernel⟩
theorem ok_14 : Ss.okS ⟨(["_law_pot_here", "_law_deep", "_law_way", "_law_near"] : List Str), fs_, kws_⟩ (defScope (at_ "_law_kind")) b14 = true := by kernel_rfl
theorem bd_14 (kV doc pm : Value) (an : Option Addr) (cdv ct : Value) (us : List Value) (hl : us.length = (List.take 2 (["_law_pot_here", "_law_deep", "_law_way", "_law_near"] : List Str)).length) : bindArgs (PySem.W.fnOf "_law_kind" "_law_kind" (defArgs (at_ "_law_kind")) (defBody (at_ "_law_kind")) (defScope (at_ "_law_kind")) .none kV doc pm an cdv ct) ⟨us, []⟩ = pure ((List.take 2 (["_law_pot_here", "_law_deep", "_law_way", "_law_near"] : List Str)).zip us) := match us, hl with | [_, _], _ => rfl
theorem kw_14 (kV doc pm : Value) (an : Option Addr) (cdv ct : Value) : KwOk kws_ 14 (PySem.W.fnOf "_law_kind" "_law_kind" (defArgs (at_ "_law_kind")) (defBody (at_ "_law_kind")) (defScope (at_ "_law_kind")) .none kV doc pm an cdv ct) (List.take 2 (["_law_pot_here", "_law_deep", "_law_way", "_law_near"] : List Str)) := by
  intro n ks hm us zs h1 h2
  simp only [kws_, List.mem_cons, List.not_mem_nil, or_false, Prod.mk.injEq] at hm
  omega
theorem df_14 (X : K.In h) (G : h.Ns mainGlobals mg) (c : He.SaysD fa_ fn_ K) : DefOk K mg fs_ kws_ 14 ⟨"_law_kind", (["_law_pot_here", "_law_deep", "_law_way", "_law_near"] : List Str), 2, b14⟩ := by
  obtain ⟨fd, F⟩ := c.def_ 14 (d := dtD ⟨"_law_kind", (["_law_pot_here", "_law_deep", "_law_way", "_law_near"] : List Str), 2, b14⟩ (at_ "_law_kind")) rfl
  exact def_of (st := at_ "_law_kind") F (He.glo_ok X G (c.fact 14 (f := .glo "_law_kind") rfl)) un_14 sc_14 ok_14 (by decide) bd_14 kw_14
end
section
variable {K : PySem.W.Frag} {h : Heap} {mg : Str → Option Value}
theorem un_15 : defBody (at_ "_law_cut") = Ss.un b15 := by kernel_rfl
theorem sc_15 : FnScope (["_law_pot_here", "_law_kind_here", "_law_names", "_law_deep", "_law_way", "_law_other", "_law_body", "_law_what", "_law_near", "_law_far", "_law_more", "_law_arm", "_law_step"] : List Str) (List.take 4 (["_law_pot_here", "_law_kind_here", "_law_names", "_law_deep", "_law_way", "_law_other", "_law_body", "_law_what", "_law_near", "_law_far", "_law_more", "_law_arm", "_law_step"] : List Str)) (defScope (at_ "_law_cut")) := ⟨by kernel_rfl, by kernel_rfl, by kernel_rfl, by decide +kernel, by kernel_rfl, by decide +kernel, by decide +kernel⟩
theorem ok_15 : Ss.okS ⟨(["_law_pot_here", "_law_kind_here", "_law_names", "_law_deep", "_law_way", "_law_other", "_law_body", "_law_what", "_law_near", "_law_far", "_law_more", "_law_arm", "_law_step"] : List Str), fs_, kws_⟩ (defScope (at_ "_law_cut")) b15 = true := by kernel_rfl
theorem bd_15 (kV doc pm : Value) (an : Option Addr) (cdv ct : Value) (us : List Value) (hl : us.length = (List.take 4 (["_law_pot_here", "_law_kind_here", "_law_names", "_law_deep", "_law_way", "_law_other", "_law_body", "_law_what", "_law_near", "_law_far", "_law_more", "_law_arm", "_law_step"] : List Str)).length) : bindArgs (PySem.W.fnOf "_law_cut" "_law_cut" (defArgs (at_ "_law_cut")) (defBody (at_ "_law_cut")) (defScope (at_ "_law_cut")) .none kV doc pm an cdv ct) ⟨us, []⟩ = pure ((List.take 4 (["_law_pot_here", "_law_kind_here", "_law_names", "_law_deep", "_law_way", "_law_other", "_law_body", "_law_what", "_law_near", "_law_far", "_law_more", "_law_arm", "_law_step"] : List Str)).zip us) := match us, hl with | [_, _, _, _], _ => rfl
theorem kw_15 (kV doc pm : Value) (an : Option Addr) (cdv ct : Value) : KwOk kws_ 15 (PySem.W.fnOf "_law_cut" "_law_cut" (defArgs (at_ "_law_cut")) (defBody (at_ "_law_cut")) (defScope (at_ "_law_cut")) .none kV doc pm an cdv ct) (List.take 4 (["_law_pot_here", "_law_kind_here", "_law_names", "_law_deep", "_law_way", "_law_other", "_law_body", "_law_what", "_law_near", "_law_far", "_law_more", "_law_arm", "_law_step"] : List Str)) := by
  intro n ks hm us zs h1 h2
  simp only [kws_, List.mem_cons, List.not_mem_nil, or_false, Prod.mk.injEq] at hm
  omega
theorem df_15 (X : K.In h) (G : h.Ns mainGlobals mg) (c : He.SaysD fa_ fn_ K) : DefOk K mg fs_ kws_ 15 ⟨"_law_cut", (["_law_pot_here", "_law_kind_here", "_law_names", "_law_deep", "_law_way", "_law_other", "_law_body", "_law_what", "_law_near", "_law_far", "_law_more", "_law_arm", "_law_step"] : List Str), 4, b15⟩ := by
  obtain ⟨fd, F⟩ := c.def_ 15 (d := dtD ⟨"_law_cut", (["_law_pot_here", "_law_kind_here", "_law_names", "_law_deep", "_law_way", "_law_other", "_law_body", "_law_what", "_law_near", "_law_far", "_law_more", "_law_arm", "_law_step"] : List Str), 4, b15⟩ (at_ "_law_cut")) rfl
  exact def_of (st := at_ "_law_cut") F (He.glo_ok X G (c.fact 15 (f := .glo "_law_cut") rfl)) un_15 sc_15 ok_15 (by decide) bd_15 kw_15
end
section
variable {K : PySem.W.Frag} {h : Heap} {mg : Str → Option Value}
theorem un_16 : defBody (at_ "_law_made") = Ss.un b16 := by kernel_rfl
theorem sc_16 : FnScope (["_law_pot_here", "_law_kind_here", "_law_names", "_law_deep", "_law_here", "_law_near", "_law_at", "_law_one"] : List Str) (List.take 4 (["_law_pot_here", "_law_kind_here", "_law_names", "_law_deep", "_law_here", "_law_near", "_law_at", "_law_one"] : List Str)) (defScope (at_ "_law_made")) := ⟨by kernel_rfl, by kernel_rfl, by kernel_rfl, by decide +kernel, by kernel_rfl, by decide +kernel, by decide +kernel⟩
theorem ok_16 : Ss.okS ⟨(["_law_pot_here", "_law_kind_here", "_law_names", "_law_deep", "_law_here", "_law_near", "_law_at", "_law_one"] : List Str), fs_, kws_⟩ (defScope (at_ "_law_made")) b16 = true := by kernel_rfl
theorem bd_16 (kV doc pm : Value) (an : Option Addr) (cdv ct : Value) (us : List Value) (hl : us.length = (List.take 4 (["_law_pot_here", "_law_kind_here", "_law_names", "_law_deep", "_law_here", "_law_near", "_law_at", "_law_one"] : List Str)).length) : bindArgs (PySem.W.fnOf "_law_made" "_law_made" (defArgs (at_ "_law_made")) (defBody (at_ "_law_made")) (defScope (at_ "_law_made")) .none kV doc pm an cdv ct) ⟨us, []⟩ = pure ((List.take 4 (["_law_pot_here", "_law_kind_here", "_law_names", "_law_deep", "_law_here", "_law_near", "_law_at", "_law_one"] : List Str)).zip us) := match us, hl with | [_, _, _, _], _ => rfl
theorem kw_16 (kV doc pm : Value) (an : Option Addr) (cdv ct : Value) : KwOk kws_ 16 (PySem.W.fnOf "_law_made" "_law_made" (defArgs (at_ "_law_made")) (defBody (at_ "_law_made")) (defScope (at_ "_law_made")) .none kV doc pm an cdv ct) (List.take 4 (["_law_pot_here", "_law_kind_here", "_law_names", "_law_deep", "_law_here", "_law_near", "_law_at", "_law_one"] : List Str)) := by
  intro n ks hm us zs h1 h2
  simp only [kws_, List.mem_cons, List.not_mem_nil, or_false, Prod.mk.injEq] at hm
  omega
theorem df_16 (X : K.In h) (G : h.Ns mainGlobals mg) (c : He.SaysD fa_ fn_ K) : DefOk K mg fs_ kws_ 16 ⟨"_law_made", (["_law_pot_here", "_law_kind_here", "_law_names", "_law_deep", "_law_here", "_law_near", "_law_at", "_law_one"] : List Str), 4, b16⟩ := by
  obtain ⟨fd, F⟩ := c.def_ 16 (d := dtD ⟨"_law_made", (["_law_pot_here", "_law_kind_here", "_law_names", "_law_deep", "_law_here", "_law_near", "_law_at", "_law_one"] : List Str), 4, b16⟩ (at_ "_law_made")) rfl
  exact def_of (st := at_ "_law_made") F (He.glo_ok X G (c.fact 16 (f := .glo "_law_made") rfl)) un_16 sc_16 ok_16 (by decide) bd_16 kw_16
end
section
variable {K : PySem.W.Frag} {h : Heap} {mg : Str → Option Value}
theorem un_17 : defBody (at_ "_law_binds") = Ss.un b17 := by kernel_rfl
theorem sc_17 : FnScope (["_law_word", "_law_some"] : List Str) (List.take 1 (["_law_word", "_law_some"] : List Str)) (defScope (at_ "_law_binds")) := ⟨by kernel_rfl, by kernel_rfl, by kernel_rfl, by decide +kernel, by kernel_rfl, by decide +kernel, by decide +kernel⟩
theorem ok_17 : Ss.okS ⟨(["_law_word", "_law_some"] : List Str), fs_, kws_⟩ (defScope (at_ "_law_binds")) b17 = true := by kernel_rfl
theorem bd_17 (kV doc pm : Value) (an : Option Addr) (cdv ct : Value) (us : List Value) (hl : us.length = (List.take 1 (["_law_word", "_law_some"] : List Str)).length) : bindArgs (PySem.W.fnOf "_law_binds" "_law_binds" (defArgs (at_ "_law_binds")) (defBody (at_ "_law_binds")) (defScope (at_ "_law_binds")) .none kV doc pm an cdv ct) ⟨us, []⟩ = pure ((List.take 1 (["_law_word", "_law_some"] : List Str)).zip us) := match us, hl with | [_], _ => rfl
theorem kw_17 (kV doc pm : Value) (an : Option Addr) (cdv ct : Value) : KwOk kws_ 17 (PySem.W.fnOf "_law_binds" "_law_binds" (defArgs (at_ "_law_binds")) (defBody (at_ "_law_binds")) (defScope (at_ "_law_binds")) .none kV doc pm an cdv ct) (List.take 1 (["_law_word", "_law_some"] : List Str)) := by
  intro n ks hm us zs h1 h2
  simp only [kws_, List.mem_cons, List.not_mem_nil, or_false, Prod.mk.injEq] at hm
  omega
theorem df_17 (X : K.In h) (G : h.Ns mainGlobals mg) (c : He.SaysD fa_ fn_ K) : DefOk K mg fs_ kws_ 17 ⟨"_law_binds", (["_law_word", "_law_some"] : List Str), 1, b17⟩ := by
  obtain ⟨fd, F⟩ := c.def_ 17 (d := dtD ⟨"_law_binds", (["_law_word", "_law_some"] : List Str), 1, b17⟩ (at_ "_law_binds")) rfl
  exact def_of (st := at_ "_law_binds") F (He.glo_ok X G (c.fact 17 (f := .glo "_law_binds") rfl)) un_17 sc_17 ok_17 (by decide) bd_17 kw_17
end
section
variable {K : PySem.W.Frag} {h : Heap} {mg : Str → Option Value}
theorem un_18 : defBody (at_ "_law_is_count") = Ss.un b18 := by kernel_rfl
theorem sc_18 : FnScope (["_law_value", "_law_most"] : List Str) (List.take 2 (["_law_value", "_law_most"] : List Str)) (defScope (at_ "_law_is_count")) := ⟨by kernel_rfl, by kernel_rfl, by kernel_rfl, by decide +kernel, by kernel_rfl, by decide +kernel, by decide +kernel⟩
theorem ok_18 : Ss.okS ⟨(["_law_value", "_law_most"] : List Str), fs_, kws_⟩ (defScope (at_ "_law_is_count")) b18 = true := by kernel_rfl
theorem bd_18 (kV doc pm : Value) (an : Option Addr) (cdv ct : Value) (us : List Value) (hl : us.length = (List.take 2 (["_law_value", "_law_most"] : List Str)).length) : bindArgs (PySem.W.fnOf "_law_is_count" "_law_is_count" (defArgs (at_ "_law_is_count")) (defBody (at_ "_law_is_count")) (defScope (at_ "_law_is_count")) .none kV doc pm an cdv ct) ⟨us, []⟩ = pure ((List.take 2 (["_law_value", "_law_most"] : List Str)).zip us) := match us, hl with | [_, _], _ => rfl
theorem kw_18 (kV doc pm : Value) (an : Option Addr) (cdv ct : Value) : KwOk kws_ 18 (PySem.W.fnOf "_law_is_count" "_law_is_count" (defArgs (at_ "_law_is_count")) (defBody (at_ "_law_is_count")) (defScope (at_ "_law_is_count")) .none kV doc pm an cdv ct) (List.take 2 (["_law_value", "_law_most"] : List Str)) := by
  intro n ks hm us zs h1 h2
  simp only [kws_, List.mem_cons, List.not_mem_nil, or_false, Prod.mk.injEq] at hm
  omega
theorem df_18 (X : K.In h) (G : h.Ns mainGlobals mg) (c : He.SaysD fa_ fn_ K) : DefOk K mg fs_ kws_ 18 ⟨"_law_is_count", (["_law_value", "_law_most"] : List Str), 2, b18⟩ := by
  obtain ⟨fd, F⟩ := c.def_ 18 (d := dtD ⟨"_law_is_count", (["_law_value", "_law_most"] : List Str), 2, b18⟩ (at_ "_law_is_count")) rfl
  exact def_of (st := at_ "_law_is_count") F (He.glo_ok X G (c.fact 18 (f := .glo "_law_is_count") rfl)) un_18 sc_18 ok_18 (by decide) bd_18 kw_18
end
section
variable {K : PySem.W.Frag} {h : Heap} {mg : Str → Option Value}
theorem un_19 : defBody (at_ "_law_is_node") = Ss.un b19 := by kernel_rfl
theorem sc_19 : FnScope (["_law_node"] : List Str) (List.take 1 (["_law_node"] : List Str)) (defScope (at_ "_law_is_node")) := ⟨by kernel_rfl, by kernel_rfl, by kernel_rfl, by decide +kernel, by kernel_rfl, by decide +kernel, by decide +kernel⟩
theorem ok_19 : Ss.okS ⟨(["_law_node"] : List Str), fs_, kws_⟩ (defScope (at_ "_law_is_node")) b19 = true := by kernel_rfl
theorem bd_19 (kV doc pm : Value) (an : Option Addr) (cdv ct : Value) (us : List Value) (hl : us.length = (List.take 1 (["_law_node"] : List Str)).length) : bindArgs (PySem.W.fnOf "_law_is_node" "_law_is_node" (defArgs (at_ "_law_is_node")) (defBody (at_ "_law_is_node")) (defScope (at_ "_law_is_node")) .none kV doc pm an cdv ct) ⟨us, []⟩ = pure ((List.take 1 (["_law_node"] : List Str)).zip us) := match us, hl with | [_], _ => rfl
theorem kw_19 (kV doc pm : Value) (an : Option Addr) (cdv ct : Value) : KwOk kws_ 19 (PySem.W.fnOf "_law_is_node" "_law_is_node" (defArgs (at_ "_law_is_node")) (defBody (at_ "_law_is_node")) (defScope (at_ "_law_is_node")) .none kV doc pm an cdv ct) (List.take 1 (["_law_node"] : List Str)) := by
  intro n ks hm us zs h1 h2
  simp only [kws_, List.mem_cons, List.not_mem_nil, or_false, Prod.mk.injEq] at hm
  omega
theorem df_19 (X : K.In h) (G : h.Ns mainGlobals mg) (c : He.SaysD fa_ fn_ K) : DefOk K mg fs_ kws_ 19 ⟨"_law_is_node", (["_law_node"] : List Str), 1, b19⟩ := by
  obtain ⟨fd, F⟩ := c.def_ 19 (d := dtD ⟨"_law_is_node", (["_law_node"] : List Str), 1, b19⟩ (at_ "_law_is_node")) rfl
  exact def_of (st := at_ "_law_is_node") F (He.glo_ok X G (c.fact 19 (f := .glo "_law_is_node") rfl)) un_19 sc_19 ok_19 (by decide) bd_19 kw_19
end
section
variable {K : PySem.W.Frag} {h : Heap} {mg : Str → Option Value}
theorem un_20 : defBody (at_ "_law_end") = Ss.un b20 := by kernel_rfl
theorem sc_20 : FnScope (["_law_nodes", "_law_begin", "_law_place", "_law_more"] : List Str) (List.take 2 (["_law_nodes", "_law_begin", "_law_place", "_law_more"] : List Str)) (defScope (at_ "_law_end")) := ⟨by kernel_rfl, by kernel_rfl, by kernel_rfl, by decide +kernel, by kernel_rfl, by decide +kernel, by decide +kernel⟩
theorem ok_20 : Ss.okS ⟨(["_law_nodes", "_law_begin", "_law_place", "_law_more"] : List Str), fs_, kws_⟩ (defScope (at_ "_law_end")) b20 = true := by kernel_rfl
theorem bd_20 (kV doc pm : Value) (an : Option Addr) (cdv ct : Value) (us : List Value) (hl : us.length = (List.take 2 (["_law_nodes", "_law_begin", "_law_place", "_law_more"] : List Str)).length) : bindArgs (PySem.W.fnOf "_law_end" "_law_end" (defArgs (at_ "_law_end")) (defBody (at_ "_law_end")) (defScope (at_ "_law_end")) .none kV doc pm an cdv ct) ⟨us, []⟩ = pure ((List.take 2 (["_law_nodes", "_law_begin", "_law_place", "_law_more"] : List Str)).zip us) := match us, hl with | [_, _], _ => rfl
theorem kw_20 (kV doc pm : Value) (an : Option Addr) (cdv ct : Value) : KwOk kws_ 20 (PySem.W.fnOf "_law_end" "_law_end" (defArgs (at_ "_law_end")) (defBody (at_ "_law_end")) (defScope (at_ "_law_end")) .none kV doc pm an cdv ct) (List.take 2 (["_law_nodes", "_law_begin", "_law_place", "_law_more"] : List Str)) := by
  intro n ks hm us zs h1 h2
  simp only [kws_, List.mem_cons, List.not_mem_nil, or_false, Prod.mk.injEq] at hm
  omega
theorem df_20 (X : K.In h) (G : h.Ns mainGlobals mg) (c : He.SaysD fa_ fn_ K) : DefOk K mg fs_ kws_ 20 ⟨"_law_end", (["_law_nodes", "_law_begin", "_law_place", "_law_more"] : List Str), 2, b20⟩ := by
  obtain ⟨fd, F⟩ := c.def_ 20 (d := dtD ⟨"_law_end", (["_law_nodes", "_law_begin", "_law_place", "_law_more"] : List Str), 2, b20⟩ (at_ "_law_end")) rfl
  exact def_of (st := at_ "_law_end") F (He.glo_ok X G (c.fact 20 (f := .glo "_law_end") rfl)) un_20 sc_20 ok_20 (by decide) bd_20 kw_20
end
section
variable {K : PySem.W.Frag} {h : Heap} {mg : Str → Option Value}
theorem un_21 : defBody (at_ "_law_due") = Ss.un b21 := by kernel_rfl
theorem sc_21 : FnScope (["_law_value", "_law_rest", "_law_node"] : List Str) (List.take 1 (["_law_value", "_law_rest", "_law_node"] : List Str)) (defScope (at_ "_law_due")) := ⟨by kernel_rfl, by kernel_rfl, by kernel_rfl, by decide +kernel, by kernel_rfl, by decide +kernel, by decide +kernel⟩
theorem ok_21 : Ss.okS ⟨(["_law_value", "_law_rest", "_law_node"] : List Str), fs_, kws_⟩ (defScope (at_ "_law_due")) b21 = true := by kernel_rfl
theorem bd_21 (kV doc pm : Value) (an : Option Addr) (cdv ct : Value) (us : List Value) (hl : us.length = (List.take 1 (["_law_value", "_law_rest", "_law_node"] : List Str)).length) : bindArgs (PySem.W.fnOf "_law_due" "_law_due" (defArgs (at_ "_law_due")) (defBody (at_ "_law_due")) (defScope (at_ "_law_due")) .none kV doc pm an cdv ct) ⟨us, []⟩ = pure ((List.take 1 (["_law_value", "_law_rest", "_law_node"] : List Str)).zip us) := match us, hl with | [_], _ => rfl
theorem kw_21 (kV doc pm : Value) (an : Option Addr) (cdv ct : Value) : KwOk kws_ 21 (PySem.W.fnOf "_law_due" "_law_due" (defArgs (at_ "_law_due")) (defBody (at_ "_law_due")) (defScope (at_ "_law_due")) .none kV doc pm an cdv ct) (List.take 1 (["_law_value", "_law_rest", "_law_node"] : List Str)) := by
  intro n ks hm us zs h1 h2
  simp only [kws_, List.mem_cons, List.not_mem_nil, or_false, Prod.mk.injEq] at hm
  omega
theorem df_21 (X : K.In h) (G : h.Ns mainGlobals mg) (c : He.SaysD fa_ fn_ K) : DefOk K mg fs_ kws_ 21 ⟨"_law_due", (["_law_value", "_law_rest", "_law_node"] : List Str), 1, b21⟩ := by
  obtain ⟨fd, F⟩ := c.def_ 21 (d := dtD ⟨"_law_due", (["_law_value", "_law_rest", "_law_node"] : List Str), 1, b21⟩ (at_ "_law_due")) rfl
  exact def_of (st := at_ "_law_due") F (He.glo_ok X G (c.fact 21 (f := .glo "_law_due") rfl)) un_21 sc_21 ok_21 (by decide) bd_21 kw_21
end
section
variable {K : PySem.W.Frag} {h : Heap} {mg : Str → Option Value}
theorem un_22 : defBody (at_ "_law_right") = Ss.un b22 := by kernel_rfl
theorem sc_22 : FnScope (["_law_pot_here", "_law_term", "_law_at", "_law_odd", "_law_node", "_law_values", "_law_value", "_law_due_here"] : List Str) (List.take 1 (["_law_pot_here", "_law_term", "_law_at", "_law_odd", "_law_node", "_law_values", "_law_value", "_law_due_here"] : List Str)) (defScope (at_ "_law_right")) := ⟨by kernel_rfl, by kernel_rfl, by kernel_rfl, by decide +kernel, by kernel_rfl, by decide +kernel, by decide +kernel⟩
theorem ok_22 : Ss.okS ⟨(["_law_pot_here", "_law_term", "_law_at", "_law_odd", "_law_node", "_law_values", "_law_value", "_law_due_here"] : List Str), fs_, kws_⟩ (defScope (at_ "_law_right")) b22 = true := by kernel_rfl
theorem bd_22 (kV doc pm : Value) (an : Option Addr) (cdv ct : Value) (us : List Value) (hl : us.length = (List.take 1 (["_law_pot_here", "_law_term", "_law_at", "_law_odd", "_law_node", "_law_values", "_law_value", "_law_due_here"] : List Str)).length) : bindArgs (PySem.W.fnOf "_law_right" "_law_right" (defArgs (at_ "_law_right")) (defBody (at_ "_law_right")) (defScope (at_ "_law_right")) .none kV doc pm an cdv ct) ⟨us, []⟩ = pure ((List.take 1 (["_law_pot_here", "_law_term", "_law_at", "_law_odd", "_law_node", "_law_values", "_law_value", "_law_due_here"] : List Str)).zip us) := match us, hl with | [_], _ => rfl
theorem kw_22 (kV doc pm : Value) (an : Option Addr) (cdv ct : Value) : KwOk kws_ 22 (PySem.W.fnOf "_law_right" "_law_right" (defArgs (at_ "_law_right")) (defBody (at_ "_law_right")) (defScope (at_ "_law_right")) .none kV doc pm an cdv ct) (List.take 1 (["_law_pot_here", "_law_term", "_law_at", "_law_odd", "_law_node", "_law_values", "_law_value", "_law_due_here"] : List Str)) := by
  intro n ks hm us zs h1 h2
  simp only [kws_, List.mem_cons, List.not_mem_nil, or_false, Prod.mk.injEq] at hm
  omega
theorem df_22 (X : K.In h) (G : h.Ns mainGlobals mg) (c : He.SaysD fa_ fn_ K) : DefOk K mg fs_ kws_ 22 ⟨"_law_right", (["_law_pot_here", "_law_term", "_law_at", "_law_odd", "_law_node", "_law_values", "_law_value", "_law_due_here"] : List Str), 1, b22⟩ := by
  obtain ⟨fd, F⟩ := c.def_ 22 (d := dtD ⟨"_law_right", (["_law_pot_here", "_law_term", "_law_at", "_law_odd", "_law_node", "_law_values", "_law_value", "_law_due_here"] : List Str), 1, b22⟩ (at_ "_law_right")) rfl
  exact def_of (st := at_ "_law_right") F (He.glo_ok X G (c.fact 22 (f := .glo "_law_right") rfl)) un_22 sc_22 ok_22 (by decide) bd_22 kw_22
end
section
variable {K : PySem.W.Frag} {h : Heap} {mg : Str → Option Value}
theorem un_23 : defBody (at_ "law") = Ss.un b23 := by kernel_rfl
theorem sc_23 : FnScope (["_law_script"] : List Str) (List.take 1 (["_law_script"] : List Str)) (defScope (at_ "law")) := ⟨by kernel_rfl, by kernel_rfl, by kernel_rfl, by decide +kernel, by kernel_rfl, by decide +kernel, by decide +kernel⟩
theorem ok_23 : Ss.okS ⟨(["_law_script"] : List Str), fs_, kws_⟩ (defScope (at_ "law")) b23 = true := by kernel_rfl
theorem bd_23 (kV doc pm : Value) (an : Option Addr) (cdv ct : Value) (us : List Value) (hl : us.length = (List.take 1 (["_law_script"] : List Str)).length) : bindArgs (PySem.W.fnOf "law" "law" (defArgs (at_ "law")) (defBody (at_ "law")) (defScope (at_ "law")) .none kV doc pm an cdv ct) ⟨us, []⟩ = pure ((List.take 1 (["_law_script"] : List Str)).zip us) := match us, hl with | [_], _ => rfl
theorem kw_23 (kV doc pm : Value) (an : Option Addr) (cdv ct : Value) : KwOk kws_ 23 (PySem.W.fnOf "law" "law" (defArgs (at_ "law")) (defBody (at_ "law")) (defScope (at_ "law")) .none kV doc pm an cdv ct) (List.take 1 (["_law_script"] : List Str)) := by
  intro n ks hm us zs h1 h2
  simp only [kws_, List.mem_cons, List.not_mem_nil, or_false, Prod.mk.injEq] at hm
  omega
theorem df_23 (X : K.In h) (G : h.Ns mainGlobals mg) (c : He.SaysD fa_ fn_ K) : DefOk K mg fs_ kws_ 23 ⟨"law", (["_law_script"] : List Str), 1, b23⟩ := by
  obtain ⟨fd, F⟩ := c.def_ 23 (d := dtD ⟨"law", (["_law_script"] : List Str), 1, b23⟩ (at_ "law")) rfl
  exact def_of (st := at_ "law") F (He.glo_ok X G (c.fact 23 (f := .glo "law") rfl)) un_23 sc_23 ok_23 (by decide) bd_23 kw_23
end
section
variable {K : PySem.W.Frag} {h : Heap} {mg : Str → Option Value}
theorem sys_ (X : K.In h) (G : h.Ns mainGlobals mg) {w : World} (c : He.SaysX fa_ fn_ (tabsOf csts) [] (cstsB csts) w h K) : Sys K w mg pg kws_ := by
  refine sys_of (cs := csts) X G c rfl fun i d e => ?_
  match i, e with
  | 0, e => cases e; exact df_0 X G c.t.d
  | 1, e => cases e; exact df_1 X G c.t.d
  | 2, e => cases e; exact df_2 X G c.t.d
  | 3, e => cases e; exact df_3 X G c.t.d
  | 4, e => cases e; exact df_4 X G c.t.d
  | 5, e => cases e; exact df_5 X G c.t.d
  | 6, e => cases e; exact df_6 X G c.t.d
  | 7, e => cases e; exact df_7 X G c.t.d
  | 8, e => cases e; exact df_8 X G c.t.d
  | 9, e => cases e; exact df_9 X G c.t.d
  | 10, e => cases e; exact df_10 X G c.t.d
  | 11, e => cases e; exact df_11 X G c.t.d
  | 12, e => cases e; exact df_12 X G c.t.d
  | 13, e => cases e; exact df_13 X G c.t.d
  | 14, e => cases e; exact df_14 X G c.t.d
  | 15, e => cases e; exact df_15 X G c.t.d
  | 16, e => cases e; exact df_16 X G c.t.d
  | 17, e => cases e; exact df_17 X G c.t.d
  | 18, e => cases e; exact df_18 X G c.t.d
  | 19, e => cases e; exact df_19 X G c.t.d
  | 20, e => cases e; exact df_20 X G c.t.d
  | 21, e => cases e; exact df_21 X G c.t.d
  | 22, e => cases e; exact df_22 X G c.t.d
  | 23, e => cases e; exact df_23 X G c.t.d
  | n + 24, e => cases e
end
theorem bindlaw_ {K : PySem.W.Frag} {h : Heap} {mg : Str → Option Value} {g : Addr} {pars : Arguments} {sc : Scope} {fd : FuncData} (c : He.SaysD fa_ fn_ K) (X : K.In h) (G : h.Ns mainGlobals mg) (hg : mg "law" = some (.ref g)) (F : FunD K "law" "law" pars (Ss.un b23) sc [] [] g fd) (s : Shared) (u : Value) : BindsTo s fd ⟨[u], []⟩ [("_law_script", u)] := by
  obtain ⟨fd2, F2⟩ := c.def_ 23 (d := dtD ⟨"law", (["_law_script"] : List Str), 1, b23⟩ (at_ "law")) rfl
  have e := He.glo_ok X G (c.fact 23 (f := .glo "law") rfl)
  rw [hg] at e
  cases e
  have b := FunD.bindsA (ps := List.take 1 (["_law_script"] : List Str)) F2 bd_23
  obtain ⟨_, _, _, _, _, _, _, _, _, _, e1, l1, _⟩ := F.ex
  obtain ⟨_, _, _, _, _, _, _, _, _, _, e2, l2, _⟩ := F2.ex
  have ee := l1.symm.trans l2
  cases ee
  exact b s [u] rfl
end K14

set_option maxHeartbeats 0
namespace K14
open PySem PySem.Spec PyProof.Rows L2 Ev
theorem room_ : Room 200 callerA := ⟨rfl, by decide, by decide⟩
end K14
open PySem PySem.W PySem.Calls PyProof.Rows
theorem PySem.Challenge.cw_selfprint_k14_any_value_as_term_holds : PySem.Challenge.rw_selfprint_k14_any_value_as_term.Holds := by
  w_on; o_law
  refine HandSHeadRun.head_any (r := OpenLaw.row PySem.Challenge.rw_selfprint_k14_any_value_as_term) (q := view (OpenLaw.row PySem.Challenge.rw_selfprint_k14_any_value_as_term).prog [K14.lawIx_]) (H := K14.hk_) (ob := K14.ob_) (M := 6000) (loose := K14.loose_) (d := HandSHeadRun.topDef (OpenLaw.row PySem.Challenge.rw_selfprint_k14_any_value_as_term).prog K14.lawIx_) (kwd := []) K14.ob_eq_
    (by kernel_rfl) (fun s => by kernel_rfl) K14.run_ (by kernel_rfl) (by kernel_rfl) (by kernel_rfl) (by rfl) (by first | assumption | decide +kernel) (by decide +kernel) ⟨rfl, rfl, rfl, rfl, rfl, by decide +kernel⟩ ?hw ?hc
  case hw => w_witness2
  case hc =>
    refine Ev.walk_end (l := PySem.Challenge.rw_selfprint_k14_any_value_as_term) (n := 63) (k := 200) (i := 23) (pg := K14.pg) (kws := K14.kws_) (df := ⟨"law", ["_law_script"], 1, K14.b23⟩) (x := "_law_script") rfl (by decide) (by kernel_rfl) K14.room_ rfl rfl (by kernel_rfl) ?F K14.law_all
    intro w mg h Y G
    obtain ⟨K, KX, c⟩ := Y
    exact ⟨K, KX, K14.sys_ KX G c, fun g pars sc fd hg F s u => K14.bindlaw_ c.t.d KX G hg F s u⟩

