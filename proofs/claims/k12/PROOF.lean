import PyProof.Rows.All
import HandS.ForMost
import HandS.ForExc
import HandS.CallSlots
import HandS.IsInst
import HandS.Defaults
import PyProof.ReprRoads
import HandS.Flow
import HandS.HeadEnd
import HandS.HeadHook2
import HandS.HeadHook4
import HandS.Head0
import HandS.Head1
import HandS.Head2
import HandS.HeadWalk
import PySem.Challenge.RW_selfprint_k12_any_value_as_kind
set_option Elab.async false
set_option linter.all false
set_option maxRecDepth 100000
namespace Ev
open PySem PySem.Spec PyProof.Rows L2

/-! ## values, told without a heap but for lists that change -/
inductive W where
  | non | bl (b : Bool) | int (i : Int) | str (s : Str) | ty (n : String)
  | tup (ws : List W) | lst (ws : List W) | emp | scr (ns : List Int) | ref (n : Nat)
deriving Inhabited

/-- what changes, by number -/
inductive Ob where
  | lst (ws : List W)

/-- an exception: the name of its class, its fields -/
structure Ex where
  cls : Str
  fs : List (Str × W)

/-- what a name holds: nothing that is known, a value, a list of its own -/
inductive Sl where
  | non | val (w : W) | own (ws : List W)

abbrev Sls := List Sl
abbrev Obs := List Ob

inductive R (α : Type) where
  | ok (a : α) (h : Obs) | exc (x : Ex) (h : Obs) | bad

/-- what a block comes to -/
inductive Out where
  | nx (σ : Sls) (h : Obs) | rt (w : W) (h : Obs) | bk (σ : Sls) (h : Obs) | ct (σ : Sls) (h : Obs) | exc (x : Ex) (σ : Sls) (h : Obs) | bad

@[inline] def R.bind {α β : Type} (r : R α) (f : α → Obs → R β) : R β := match r with
  | .ok a h => f a h
  | .exc x h => .exc x h
  | .bad => .bad
/-- an answer, or none -/
def R.opt {α : Type} (o : Option α) (h : Obs) : R α := match o with
  | some a => .ok a h
  | none => .bad
/-- the value of an expression handed to what comes behind it in a block -/
def R.out (r : R W) (σ : Sls) (f : W → Obs → Out) : Out := match r with
  | .ok a h => f a h
  | .exc x h => .exc x σ h
  | .bad => .bad

/-! ## the language's core: Python's syntax with the places of names told -/
inductive BOp | add | sub | mul | fdiv | mod | pow
inductive COp | eq | ne | lt | le | gt | ge | isin | notin | isn | notn
/-- built-ins that are called by their names -/
inductive Bt | len | abs | max | min | int | divmod | repr | all | list | tuple
/-- built-in classes, by their names -/
inductive Ty | non | bl | int | str | tup | lst | dct
def Ty.s : Ty → String
  | .non => "NoneType" | .bl => "bool" | .int => "int" | .str => "str" | .tup => "tuple" | .lst => "list" | .dct => "dict"
def Ty.nm : Ty → Str
  | .non => "NoneType" | .bl => "bool" | .int => "int" | .str => "str" | .tup => "tuple" | .lst => "list" | .dct => "dict"
mutual
inductive E where
  | name (x : Str) (i : Nat) (p : Pos)
  | peek (x : Str) (i : Nat) (p : Pos)
  | cst (x : Str) (p : Pos)
  | tr (e : E)
  | int (n : Int) (k : Nat) (p : Pos)
  | str (s : Str) (k : Nat) (p : Pos)
  | bl (b : Bool) (k : Nat) (p : Pos)
  | non (k : Nat) (p : Pos)
  | tup (es : Es) (k : Nat) (p : Pos)
  | lst (es : Es) (p : Pos)
  | lstH (es : Es) (p : Pos)
  | emp (p : Pos)
  | bin (op : BOp) (a b : E) (p : Pos)
  | neg (a : E) (p : Pos)
  | not (a : E) (p : Pos)
  | notV (a : E) (p : Pos)
  | bop (op : BoolOp) (es : Es) (p : Pos)
  | cmp (op : COp) (a b : E) (p : Pos)
  | chain (op op' : COp) (a b c : E) (p : Pos)
  | ife (t a b : E) (p : Pos)
  | call (f : Nat) (x : Str) (xp : Pos) (es : Es) (p : Pos)
  | callK (f : Nat) (x : Str) (xp : Pos) (es : Es) (ks : Ks) (p : Pos)
  | blt (b : Bt) (xp : Pos) (es : Es) (p : Pos)
  | isi (a : E) (t : Ty) (xp tp p : Pos)
  | isiT (a : E) (t1 : Ty) (p1 : Pos) (t2 : Ty) (p2 : Pos) (k : Nat) (xp tp p : Pos)
  | sub (a i : E) (p : Pos)
  | slc (a : E) (lo hi : Eo) (sp p : Pos)
  | lc (e : E) (tg : Tg) (it : It) (c : Eo) (vs : List (Str × Nat)) (sc : Scope) (p : Pos)
inductive Es where
  | nil | cons (e : E) (es : Es)
inductive Eo where
  | non | some (e : E)
/-- keyword arguments: name, expression, place among the parameters -/
inductive Ks where
  | nil | cons (x : Str) (e : E) (p : Pos) (ks : Ks)
/-- targets -/
inductive Tg where
  | name (x : Str) (i : Nat) (p : Pos)
  | tup (ts : Tgs) (k : Nat) (p : Pos)
  | sub (a i : E) (p : Pos)
inductive Tgs where
  | nil | cons (t : Tg) (ts : Tgs)
/-- what is walked -/
inductive It where
  | seq (e : E)
  | rng (xp : Pos) (es : Es) (p : Pos)
  | enum (xp : Pos) (e : E) (p : Pos)
  | zip (xp : Pos) (a b : E) (p : Pos)
end
mutual
inductive S where
  | asg (x : Str) (i : Nat) (xp : Pos) (e : E) (p : Pos)
  | asgO (x : Str) (i : Nat) (xp : Pos) (e : E) (p : Pos)
  | par (o1 o2 : Bool) (x : Str) (i : Nat) (xp : Pos) (y : Str) (j : Nat) (yp : Pos) (k1 : Nat) (tp : Pos) (a b : E) (k2 : Nat) (ep p : Pos)
  | asgT (t : Tg) (e : E) (p : Pos)
  | pop (t : Tg) (x : Str) (i : Nat) (xp ap cp p : Pos)
  | app (x : Str) (i : Nat) (xp ap : Pos) (e : E) (cp p : Pos)
  | ext (x : Str) (i : Nat) (xp ap : Pos) (e : E) (cp p : Pos)
  | expr (e : E) (p : Pos)
  | ret (e : E) (p : Pos)
  | retN (p : Pos)
  | ite (c : E) (a b : Ss) (p : Pos)
  | whl (c : E) (b : Ss) (p : Pos)
  | for (t : Tg) (it : It) (b : Ss) (p : Pos)
  | frz (is : List Nat) (s : S)
  | pass (p : Pos) | brk (p : Pos) | cnt (p : Pos)
inductive Ss where
  | nil | cons (s : S) (ss : Ss)
end

/-! ## back to Python's syntax -/
def BOp.un : BOp → Operator
  | .add => .Add | .sub => .Sub | .mul => .Mult | .fdiv => .FloorDiv | .mod => .Mod | .pow => .Pow
def COp.un : COp → CmpOp
  | .eq => .Eq | .ne => .NotEq | .lt => .Lt | .le => .LtE | .gt => .Gt | .ge => .GtE | .isin => .In | .notin => .NotIn | .isn => .Is | .notn => .IsNot
def Bt.nm : Bt → Str
  | .len => "len" | .abs => "abs" | .max => "max" | .min => "min" | .int => "int" | .divmod => "divmod" | .repr => "repr" | .all => "all" | .list => "list" | .tuple => "tuple"
mutual
def E.un : E → Expr
  | .name x _ p => .Name x p
  | .peek x _ p => .Name x p
  | .cst x p => .Name x p
  | .tr e => e.un
  | .int n k p => .Constant (.int n) k p
  | .str s k p => .Constant (.str s) k p
  | .bl b k p => .Constant (.bool b) k p
  | .non k p => .Constant .none k p
  | .tup es k p => .Tuple es.un k p
  | .lst es p => .List es.un p
  | .lstH es p => .List es.un p
  | .emp p => .Dict [] [] p
  | .bin op a b p => .BinOp a.un op.un b.un p
  | .neg a p => .UnaryOp .USub a.un p
  | .not a p => .UnaryOp .Not a.un p
  | .notV a p => .UnaryOp .Not a.un p
  | .bop op es p => .BoolOp op es.un p
  | .cmp op a b p => .Compare a.un [op.un] [b.un] p
  | .chain op op' a b c p => .Compare a.un [op.un, op'.un] [b.un, c.un] p
  | .ife t a b p => .IfExp t.un a.un b.un p
  | .call _ x xp es p => .Call (.Name x xp) es.un [] p
  | .callK _ x xp es ks p => .Call (.Name x xp) es.un ks.un p
  | .blt b xp es p => .Call (.Name b.nm xp) es.un [] p
  | .isi a t xp tp p => .Call (.Name "isinstance" xp) [a.un, .Name t.nm tp] [] p
  | .isiT a t1 p1 t2 p2 k xp tp p => .Call (.Name "isinstance" xp) [a.un, .Tuple [.Name t1.nm p1, .Name t2.nm p2] k tp] [] p
  | .sub a i p => .Subscript a.un i.un p
  | .slc a lo hi sp p => .Subscript a.un (.Slice lo.un hi.un none sp) p
  | .lc e tg it c _ sc p => .ListComp e.un [⟨tg.un, it.un, c.uns, 0⟩] sc p
def Es.un : Es → List Expr
  | .nil => []
  | .cons e es => e.un :: es.un
def Eo.un : Eo → Option Expr
  | .non => none
  | .some e => some e.un
def Eo.uns : Eo → List Expr
  | .non => []
  | .some e => [e.un]
def Ks.un : Ks → List Keyword
  | .nil => []
  | .cons x e p ks => ⟨some x, e.un, p⟩ :: ks.un
def Tg.un : Tg → Expr
  | .name x _ p => .Name x p
  | .tup ts k p => .Tuple ts.un k p
  | .sub a i p => .Subscript a.un i.un p
def Tgs.un : Tgs → List Expr
  | .nil => []
  | .cons t ts => t.un :: ts.un
def It.un : It → Expr
  | .seq e => e.un
  | .rng xp es p => .Call (.Name "range" xp) es.un [] p
  | .enum xp e p => .Call (.Name "enumerate" xp) [e.un] [] p
  | .zip xp a b p => .Call (.Name "zip" xp) [a.un, b.un] [] p
end
mutual
def S.un : S → Stmt
  | .asg x _ xp e p => .Assign [.Name x xp] e.un p
  | .asgO x _ xp e p => .Assign [.Name x xp] e.un p
  | .par _ _ x _ xp y _ yp k1 tp a b k2 ep p => .Assign [.Tuple [.Name x xp, .Name y yp] k1 tp] (.Tuple [a.un, b.un] k2 ep) p
  | .asgT t e p => .Assign [t.un] e.un p
  | .pop t x _ xp ap cp p => .Assign [t.un] (.Call (.Attribute (.Name x xp) "pop" ap) [] [] cp) p
  | .app x _ xp ap e cp p => .Expr (.Call (.Attribute (.Name x xp) "append" ap) [e.un] [] cp) p
  | .ext x _ xp ap e cp p => .Expr (.Call (.Attribute (.Name x xp) "extend" ap) [e.un] [] cp) p
  | .expr e p => .Expr e.un p
  | .ret e p => .Return (some e.un) p
  | .retN p => .Return none p
  | .ite c a b p => .If c.un a.un b.un p
  | .whl c b p => .While c.un b.un [] p
  | .for t it b p => .For t.un it.un b.un [] p
  | .frz _ s => s.un
  | .pass p => .Pass p
  | .brk p => .Break p
  | .cnt p => .Continue p
def Ss.un : Ss → List Stmt
  | .nil => []
  | .cons s ss => s.un :: ss.un
end
end Ev

namespace Ev
open PySem PySem.Spec PyProof.Rows L2

/-! ## what operations tell, by values -/
/-- a value without parts -/
def W.flat : W → Option V
  | .non => some .non | .bl b => some (.bl b) | .int i => some (.int i) | .str s => some (.str s) | _ => none
mutual
/-- a value as data (no number of what changes, no class) -/
def W.dat : W → Option PyData
  | .non => some .none
  | .bl b => some (.bool b)
  | .int i => some (.int i)
  | .str s => some (.str s)
  | .tup ws => (W.dats ws).map PyData.tuple
  | .lst ws => (W.dats ws).map PyData.list
  | _ => none
def W.dats : List W → Option (List PyData)
  | [] => some []
  | w :: ws => match W.dat w, W.dats ws with
    | some d, some ds => some (d :: ds)
    | _, _ => none
end
/-- a number of a list, read as the list that stands there now -/
def W.now (h : Obs) : W → W
  | .ref n => match h[n]? with
    | some (.lst ws) => .lst ws
    | none => .ref n
  | w => w
def eqW (a b : W) : Option Bool := match a.dat, b.dat with
  | some d, some e => match SeqAt.shaped d && SeqAt.shaped e with
    | true => some (PyData.eqv d e)
    | false => none
  | _, _ => none
/-- the items of what can be walked -/
def W.items : W → Option (List W)
  | .lst ws => some ws | .tup ws => some ws | .scr ns => some (ns.map W.int) | _ => none
def flats : List W → Option (List V)
  | [] => some []
  | w :: ws => match w.flat, flats ws with
    | some v, some vs => some (v :: vs)
    | _, _ => none
def inW (a : W) (b : W) : Option Bool := match b with
  | .lst ws => match a.flat, flats ws with
    | some v, some vs => some (inV v vs)
    | _, _ => none
  | .tup ws => match a.flat, flats ws with
    | some v, some vs => some (inV v vs)
    | _, _ => none
  | _ => none
def lineN (n : Nat) : Bool := decide (n ≤ sizeLine)
def small (i : Int) : Bool := decide (-(2 ^ 64) < i) && decide (i < 2 ^ 64)
/-- of two whole numbers -/
def intsW {α : Type} (f : Int → Int → Option α) : W → W → Option α
  | .int i, .int j => f i j
  | _, _ => none
def addW : W → W → Option W
  | .int i, .int j => some (.int (i + j))
  | .str s, .str t => match lineN (s.length + t.length) with
    | true => some (.str (s ++ t))
    | false => none
  | .lst x, .lst y => match lineN (x.length + y.length) with
    | true => some (.lst (x ++ y))
    | false => none
  | _, _ => none
def ifB {α : Type} (b : Bool) (a : α) : Option α := match b with
  | true => some a
  | false => none
def binW (op : BOp) (a b : W) : Option W := match op with
  | .add => addW a b
  | .sub => intsW (fun i j => some (.int (i - j))) a b
  | .mul => intsW (fun i j => ifB (small i || small j) (.int (i * j))) a b
  | .fdiv => intsW (fun i j => ifB (decide (0 < j) && decide (j < 1073741824)) (.int (i / j))) a b
  | .mod => intsW (fun i j => ifB (decide (0 < j)) (.int (i % j))) a b
  | .pow => intsW (fun i j => ifB (decide (0 ≤ j) && (decide (j ≤ 1000000) && decide (i.natAbs < 2 ^ 64))) (.int (i ^ j.toNat))) a b
def W.isNon : W → Bool
  | .non => true
  | _ => false
def cmpW (op : COp) (a b : W) : Option Bool := match op with
  | .eq => eqW a b
  | .ne => (eqW a b).map (!·)
  | .isin => inW a b
  | .notin => (inW a b).map (!·)
  | .isn => if b.isNon = true then some a.isNon else none
  | .notn => if b.isNon = true then some (!a.isNon) else none
  | .lt => intsW (fun i j => some (decide (i < j))) a b
  | .le => intsW (fun i j => some (decide (i ≤ j))) a b
  | .gt => intsW (fun i j => some (decide (j < i))) a b
  | .ge => intsW (fun i j => some (decide (j ≤ i))) a b
/-- the length of what has one -/
def lenW : W → Option Nat
  | .lst ws => some ws.length
  | .tup ws => some ws.length
  | .scr ns => some ns.length
  | .str s => match lineN s.length with
    | true => some s.length
    | false => none
  | _ => none
def truW : W → Option Bool
  | .non => some false
  | .bl b => some b
  | .int i => some (i != 0)
  | .str s => match lineN s.length with
    | true => some ((s.length : Int) != 0)
    | false => none
  | .lst ws => some (!ws.isEmpty)
  | .tup ws => some (!ws.isEmpty)
  | _ => none
def idxW (a : W) (i : W) : Option W := match i with
  | .int i => match a with
    | .lst ws => atI ws i
    | .tup ws => atI ws i
    | .scr ns => (atI ns i).map W.int
    | .str s => match lineN s.length with
      | true => (atI s.cps.toList i).map fun c => .str ⟨#[c]⟩
      | false => none
    | _ => none
  | _ => none
def cut {α : Type} (xs : List α) (lo hi : Option Int) : List α := (xs.drop (HT.sIx xs.length 0 lo)).take (HT.sIx xs.length xs.length hi - HT.sIx xs.length 0 lo)
def slcW (a : W) (lo hi : Option Int) : Option W := match a with
  | .lst ws => some (.lst (cut ws lo hi))
  | .tup ws => match decide (HT.sIx ws.length 0 lo = 0) && decide (HT.sIx ws.length ws.length hi = ws.length) with
    | true => none
    | false => some (.tup (cut ws lo hi))
  | _ => none
/-- a value's own class -/
def tyW (h : Obs) : W → Option Ty
  | .non => some .non | .bl _ => some .bl | .int _ => some .int | .str _ => some .str
  | .tup _ => some .tup | .lst _ => some .lst | .scr _ => some .lst | .emp => some .dct
  | .ref n => match h[n]? with
    | some (.lst _) => some .lst
    | none => none
  | .ty _ => none
/-- whether values of a class are of a class -/
def isTy : Ty → Ty → Bool
  | .non, .non => true | .bl, .bl => true | .int, .int => true | .str, .str => true | .tup, .tup => true | .lst, .lst => true | .dct, .dct => true
  | .bl, .int => true
  | _, _ => false
def bools : List W → Option (List Bool)
  | [] => some []
  | .bl b :: ws => (bools ws).map (b :: ·)
  | _ :: _ => none
/-- repr of data -/
def reprW (w : W) : Option Str := match w.dat with
  | some d => match d.showable && (decide (d.depth ≤ 64) && lineN d.shown.length) with
    | true => some d.shown
    | false => none
  | none => none
def on1 (f : W → Option W) : List W → Option W
  | [w] => f w
  | _ => none
def on2 (f : W → W → Option W) : List W → Option W
  | [w, u] => f w u
  | _ => none
def intW : W → Option W
  | .int i => some (.int i)
  | .bl k => some (.int (if k then 1 else 0))
  | _ => none
def absW : W → Option W
  | .int i => some (.int (if i < 0 then -i else i))
  | _ => none
def allW : W → Option W
  | .lst ws => (bools ws).map fun bs => .bl (bs.all id)
  | _ => none
def listW : W → Option W
  | .lst ws => some (.lst ws)
  | .tup ws => some (.lst ws)
  | _ => none
def tupleW : W → Option W
  | .lst ws => some (.tup ws)
  | .tup ws => some (.tup ws)
  | _ => none
def bltW (b : Bt) (ws : List W) : Option W := match b with
  | .len => on1 (fun w => (lenW w).map fun (n : Nat) => W.int (n : Int)) ws
  | .abs => on1 absW ws
  | .max => on2 (intsW fun i j => some (.int (if j > i then j else i))) ws
  | .min => on2 (intsW fun i j => some (.int (if j < i then j else i))) ws
  | .int => on1 intW ws
  | .divmod => on2 (intsW fun i j => ifB (decide (0 < j) && decide (j < 1073741824)) (.tup [.int (i / j), .int (i % j)])) ws
  | .repr => on1 (fun w => (reprW w).map W.str) ws
  | .all => on1 allW ws
  | .list => on1 listW ws
  | .tuple => on1 tupleW ws

/-! ## what expressions tell -/
structure Dn where
  call : Nat → List W → Obs → R W
  cst : Str → Option W
  /-- the parameters of each def -/
  par : Nat → List Str

def slotV (σ : Sls) (i : Nat) : Option W := match σ[i]? with
  | some (.val w) => some w
  | _ => none
def slotP (σ : Sls) (i : Nat) : Option W := match σ[i]? with
  | some (.val w) => some w
  | some (.own ws) => some (.lst ws)
  | _ => none
/-- keyword arguments put in the parameters' sequence -/
def kwAll {α : Type} (ks : List (Str × α)) : List Str → Option (List α)
  | [] => some []
  | x :: xs => match ks.lookup x, kwAll ks xs with
    | some a, some as => some (a :: as)
    | _, _ => none
def kwPut {α : Type} (ps : List Str) (us : List α) (ks : List (Str × α)) : Option (List α) := match decide (us.length + ks.length = ps.length) with
  | true => match kwAll ks (ps.drop us.length) with
    | some as => some (us ++ as)
    | none => none
  | false => none
/-- names of a block forgotten -/
def wipeS (σ : Sls) : List Nat → Sls
  | [] => σ
  | v :: vs => (wipeS σ vs).set v .non
mutual
/-- targets of a comprehension -/
def Tg.put : Tg → W → Sls → Option Sls
  | .name _ i _, w, σ => some (σ.set i (.val w))
  | .tup ts _ _, .tup ws, σ => ts.put ws σ
  | _, _, _ => none
def Tgs.put : Tgs → List W → Sls → Option Sls
  | .nil, [], σ => some σ
  | .cons t ts, w :: ws, σ => match t.put w σ with
    | some σ' => ts.put ws σ'
    | none => none
  | _, _, _ => none
end
/-- a comprehension's turns; no exception may leave -/
def lcGo (put : W → Option Sls) (c : Sls → Obs → R Bool) (e : Sls → Obs → R W) : List W → List W → Obs → R (List W)
  | [], acc, h => .ok acc h
  | x :: xs, acc, h => match put x with
    | some σ => match c σ h with
      | .ok true h1 => match e σ h1 with
        | .ok y h2 => match decide (acc.length < sizeLine) with
          | true => lcGo put c e xs (acc ++ [y]) h2
          | false => .bad
        | _ => .bad
      | .ok false h1 => lcGo put c e xs acc h1
      | _ => .bad
    | none => .bad

/-- the places of a block's names -/
def ixs (vs : List (Str × Nat)) : List Nat := vs.map (·.2)
/-- no list of one's own at these places -/
def noOwn (σ : Sls) : List Nat → Bool
  | [] => true
  | v :: vs => match σ[v]? with
    | some (.own _) => false
    | _ => noOwn σ vs
def boolW : W → Option Bool
  | .bl b => some b
  | _ => none
def enumW (k : Nat) : List W → List W
  | [] => []
  | w :: ws => .tup [.int k, w] :: enumW (k + 1) ws
def zipW : List W → List W → List W
  | a :: as, b :: bs => .tup [a, b] :: zipW as bs
  | _, _ => []
def rngW (lo : Int) : Nat → List W
  | 0 => []
  | n + 1 => .int lo :: rngW (lo + 1) n
def in62 (i : Int) : Bool := decide (-(2 ^ 62) ≤ i) && decide (i < 2 ^ 62)
def rng1 (x : W) (h : Obs) : R (List W) := match x with
  | .int j => match in62 j with
    | true => .ok (rngW 0 j.toNat) h
    | false => .bad
  | _ => .bad
def rng2 (x y : W) (h : Obs) : R (List W) := match x, y with
  | .int i, .int j => match in62 i && in62 j with
    | true => .ok (rngW i (j - i).toNat) h
    | false => .bad
  | _, _ => .bad
/-- places by a negative one, written out: a range from a place downward -/
def dnW (lo : Int) : Nat → List W
  | 0 => []
  | n + 1 => .int lo :: dnW (lo - 1) n

mutual
/-- k: as an operand, where a list of the def's own may be looked at -/
def E.den (D : Dn) (k : Bool) : E → Sls → Obs → R W
  | .name _ i _, σ, h => .opt (slotV σ i) h
  | .peek _ i _, σ, h => match k with
    | true => .opt (slotP σ i) h
    | false => .bad
  | .cst x _, σ, h => .opt (D.cst x) h
  | .int n _ _, σ, h => .ok (.int n) h
  | .str s _ _, σ, h => .ok (.str s) h
  | .bl b _ _, σ, h => .ok (.bl b) h
  | .non _ _, σ, h => .ok .non h
  | .tr _, σ, h => .bad
  | .tup es _ _, σ, h => (es.den D false σ h).bind fun ws h => match lineN ws.length with
    | true => .ok (.tup ws) h
    | false => .bad
  | .lst es _, σ, h => (es.den D false σ h).bind fun ws h => match lineN ws.length with
    | true => .ok (.lst ws) h
    | false => .bad
  | .lstH es _, σ, h => (es.den D false σ h).bind fun ws h => match lineN ws.length with
    | true => .ok (.ref h.length) (h ++ [.lst ws])
    | false => .bad
  | .emp _, σ, h => .ok .emp h
  | .bin op a b _, σ, h => (a.den D true σ h).bind fun x h => (b.den D true σ h).bind fun y h => .opt (binW op (x.now h) (y.now h)) h
  | .neg a _, σ, h => (a.den D false σ h).bind fun x h => match x with
    | .int i => .ok (.int (-i)) h
    | _ => .bad
  | .not _ _, σ, h => .bad
  | .notV a _, σ, h => (a.den D true σ h).bind fun w h => .opt ((truW (w.now h)).map fun k => .bl (!k)) h
  | .bop op es _, σ, h => es.bo D op σ h
  | .cmp op a b _, σ, h => (a.den D true σ h).bind fun x h => (b.den D true σ h).bind fun y h => .opt ((cmpW op (x.now h) (y.now h)).map W.bl) h
  | .chain op op' a b c _, σ, h => (a.den D false σ h).bind fun x h => (b.den D false σ h).bind fun y h => match cmpW op x y with
    | some true => (c.den D false σ h).bind fun z h => .opt ((cmpW op' y z).map W.bl) h
    | some false => .ok (.bl false) h
    | none => .bad
  | .ife t a b _, σ, h => (t.tst D σ h).bind fun c h => match c with
    | true => a.den D false σ h
    | false => b.den D false σ h
  | .call f _ _ es _, σ, h => (es.den D false σ h).bind fun ws h => D.call f ws h
  | .callK f _ _ es ks _, σ, h => (es.den D false σ h).bind fun ws h => (ks.den D σ h).bind fun zs h => match kwPut (D.par f) ws zs with
    | some us => D.call f us h
    | none => .bad
  | .blt b _ es _, σ, h => (es.den D true σ h).bind fun ws h => .opt (bltW b (ws.map (W.now h))) h
  | .isi a t _ _ _, σ, h => (a.den D false σ h).bind fun x h => .opt ((tyW h x).map fun y => .bl (isTy y t)) h
  | .isiT a t1 _ t2 _ _ _ _ _, σ, h => (a.den D false σ h).bind fun x h => .opt ((tyW h x).map fun y => .bl (isTy y t1 || isTy y t2)) h
  | .sub a i _, σ, h => (a.den D true σ h).bind fun x h => (i.den D false σ h).bind fun y h => .opt (idxW (x.now h) y) h
  | .slc a lo hi _ _, σ, h => (a.den D true σ h).bind fun x h => (lo.den D σ h).bind fun l h => (hi.den D σ h).bind fun u h => .opt (slcW (x.now h) l u) h
  | .lc e tg it c vs _ _, σ, h => (match noOwn σ (ixs vs) with
      | true => (it.den D σ h).bind fun xs h => lcGo (fun x => tg.put x (wipeS σ (ixs vs))) (fun σ h => c.tst D σ h) (fun σ h => e.den D false σ h) xs [] h
      | false => (R.bad : R (List W))).bind fun ys h => .ok (.lst ys) h
def Es.den (D : Dn) (k : Bool) : Es → Sls → Obs → R (List W)
  | .nil, σ, h => .ok [] h
  | .cons e es, σ, h => (e.den D k σ h).bind fun w h => (es.den D k σ h).bind fun ws h => .ok (w :: ws) h
def Ks.den (D : Dn) : Ks → Sls → Obs → R (List (Str × W))
  | .nil, σ, h => .ok [] h
  | .cons x e _ ks, σ, h => (e.den D false σ h).bind fun w h => (ks.den D σ h).bind fun ws h => .ok ((x, w) :: ws) h
def Eo.den (D : Dn) : Eo → Sls → Obs → R (Option Int)
  | .non, σ, h => .ok none h
  | .some e, σ, h => (e.den D false σ h).bind fun w h => match w with
    | .int i => .ok (some i) h
    | _ => .bad
def Eo.tst (D : Dn) : Eo → Sls → Obs → R Bool
  | .non, σ, h => .ok true h
  | .some e, σ, h => e.tst D σ h
/-- and, or, as values -/
def Es.bo (D : Dn) (op : BoolOp) : Es → Sls → Obs → R W
  | .nil, σ, h => .bad
  | .cons e es, σ, h => (e.den D false σ h).bind fun w h => match es, op, w with
    | .nil, _, w => .ok w h
    | _, .And, .bl true => es.bo D op σ h
    | _, .And, .bl false => .ok (.bl false) h
    | _, .Or, .bl true => .ok (.bl true) h
    | _, .Or, .bl false => es.bo D op σ h
    | _, _, _ => .bad
/-- .. as tests -/
def Es.bt (D : Dn) (op : BoolOp) : Es → Sls → Obs → R Bool
  | .nil, σ, h => .bad
  | .cons e es, σ, h => (e.tst D σ h).bind fun k h => match es, op, k with
    | .nil, _, k => .ok k h
    | _, .And, true => es.bt D op σ h
    | _, .And, false => .ok false h
    | _, .Or, true => .ok true h
    | _, .Or, false => es.bt D op σ h
/-- as a test -/
def E.tst (D : Dn) : E → Sls → Obs → R Bool
  | .tr e, σ, h => (e.den D true σ h).bind fun w h => .opt (truW (w.now h)) h
  | .not a _, σ, h => (a.tst D σ h).bind fun k h => .ok (!k) h
  | .bop op es _, σ, h => es.bt D op σ h
  | .cmp op a b _, σ, h => (a.den D true σ h).bind fun x h => (b.den D true σ h).bind fun y h => .opt (cmpW op (x.now h) (y.now h)) h
  | .chain op op' a b c _, σ, h => (a.den D false σ h).bind fun x h => (b.den D false σ h).bind fun y h => match cmpW op x y with
    | some true => (c.den D false σ h).bind fun z h => .opt (cmpW op' y z) h
    | some false => .ok false h
    | none => .bad
  | _, _, _ => .bad
def It.den (D : Dn) : It → Sls → Obs → R (List W)
  | .seq e, σ, h => (e.den D false σ h).bind fun w h => .opt w.items h
  | .rng _ es _, σ, h => match es with
    | .cons a .nil => (a.den D false σ h).bind rng1
    | .cons a (.cons b .nil) => (a.den D false σ h).bind fun x h => (b.den D false σ h).bind fun y h => rng2 x y h
    | _ => .bad
  | .enum _ e _, σ, h => (e.den D false σ h).bind fun w h => match w with
    | .lst ws => .ok (enumW 0 ws) h
    | _ => .bad
  | .zip _ a b _, σ, h => (a.den D false σ h).bind fun x h => (b.den D false σ h).bind fun y h => match x, y with
    | .lst xs, .lst ys => .ok (zipW xs ys) h
    | _, _ => .bad
end

/-! ## what statements do -/
/-- a list that is new: for a name that keeps it as its own -/
def E.fresh (D : Dn) : E → Sls → Obs → R (List W)
  | .lst es _, σ, h => (es.den D false σ h).bind fun ws h => match lineN ws.length with
    | true => .ok ws h
    | false => .bad
  | .bin .add a b _, σ, h => (a.den D true σ h).bind fun x h => (b.den D true σ h).bind fun y h => match binW .add (x.now h) (y.now h) with
    | some (.lst ws) => .ok ws h
    | _ => .bad
  | .blt .list _ es _, σ, h => (es.den D true σ h).bind fun ws h => match bltW .list (ws.map (W.now h)) with
    | some (.lst ws) => .ok ws h
    | _ => .bad
  | .slc a lo hi p q, σ, h => (E.den D false (.slc a lo hi p q) σ h).bind fun w h => match w with
    | .lst ws => .ok ws h
    | _ => .bad
  | .lc e tg it c vs sc p, σ, h => match noOwn σ (ixs vs) with
      | true => (it.den D σ h).bind fun xs h => lcGo (fun x => tg.put x (wipeS σ (ixs vs))) (fun σ h => c.tst D σ h) (fun σ h => e.den D false σ h) xs [] h
      | false => .bad
  | _, _, _ => .bad
/-- what a name is given: a value, or (o) a list of its own -/
def E.give (D : Dn) (o : Bool) (e : E) (σ : Sls) (h : Obs) : R Sl := match o with
  | true => (e.fresh D σ h).bind fun ws h => .ok (.own ws) h
  | false => (e.den D false σ h).bind fun w h => .ok (.val w) h
mutual
def Tg.den (D : Dn) : Tg → W → Sls → Obs → R Sls
  | .name _ i _, w, σ, h => .ok (σ.set i (.val w)) h
  | .tup ts _ _, w, σ, h => match w with
    | .tup ws => ts.den D ws σ h
    | _ => .bad
  | .sub a i _, w, σ, h => match a.den D false σ h with
    | .ok (.ref n) h => match i.den D false σ h with
      | .ok (.int k) h => match h[n]? with
        | some (.lst ws) => match ixN ws.length k with
          | some j => .ok σ (h.set n (.lst (ws.set j w)))
          | none => .bad
        | none => .bad
      | _ => .bad
    | _ => .bad
def Tgs.den (D : Dn) : Tgs → List W → Sls → Obs → R Sls
  | .nil, ws, σ, h => match ws with
    | [] => .ok σ h
    | _ => .bad
  | .cons t ts, ws, σ, h => match ws with
    | w :: ws => match t.den D w σ h with
      | .ok σ h => ts.den D ws σ h
      | _ => .bad
    | [] => .bad
end
/-- behind a target -/
def tgo : R Sls → Out
  | .ok σ h => .nx σ h
  | _ => .bad
def frzS : List Nat → Sls → Sls
  | [], σ => σ
  | i :: is, σ => frzS is (match σ[i]? with
    | some (.own ws) => σ.set i (.val (.lst ws))
    | _ => σ)
def forGo (put : W → Sls → Obs → R Sls) (body : Sls → Obs → Out) : List W → Sls → Obs → Out
  | [], σ, h => .nx σ h
  | x :: xs, σ, h => match put x σ h with
    | .ok σ h => match body σ h with
      | .nx σ h => forGo put body xs σ h
      | .ct σ h => forGo put body xs σ h
      | .bk σ h => .nx σ h
      | .rt w h => .rt w h
      | .exc x σ h => .exc x σ h
      | .bad => .bad
    | _ => .bad
/-- m: turns at most -/
def whlGo (tst : Sls → Obs → R Bool) (body : Sls → Obs → Out) : Nat → Sls → Obs → Out
  | 0, _, _ => .bad
  | m + 1, σ, h => match tst σ h with
    | .ok true h => match body σ h with
      | .nx σ h => whlGo tst body m σ h
      | .ct σ h => whlGo tst body m σ h
      | .bk σ h => .nx σ h
      | .rt w h => .rt w h
      | .exc x σ h => .exc x σ h
      | .bad => .bad
    | .ok false h => .nx σ h
    | .exc x h => .exc x σ h
    | .bad => .bad
def whlMost : Nat := 1000000
mutual
def S.den (D : Dn) : S → Sls → Obs → Out
  | .asg _ i _ e _, σ, h => (e.den D false σ h).out σ fun w h => .nx (σ.set i (.val w)) h
  | .asgO _ i _ e _, σ, h => match e.fresh D σ h with
    | .ok ws h => .nx (σ.set i (.own ws)) h
    | .exc x h => .exc x σ h
    | .bad => .bad
  | .par o1 o2 _ i _ _ j _ _ _ a b _ _ _, σ, h => match a.give D o1 σ h with
    | .ok s1 h => match b.give D o2 σ h with
      | .ok s2 h => .nx ((σ.set i s1).set j s2) h
      | .exc x h => .exc x σ h
      | .bad => .bad
    | .exc x h => .exc x σ h
    | .bad => .bad
  | .asgT t e _, σ, h => (e.den D false σ h).out σ fun w h => tgo (t.den D w σ h)
  | .pop t _ i _ _ _ _, σ, h => match σ[i]? with
    | some (.own ws) => match ws[ws.length - 1]? with
      | some w => tgo (t.den D w (σ.set i (.own ws.dropLast)) h)
      | none => .bad
    | _ => .bad
  | .app _ i _ _ e _ _, σ, h => match σ[i]? with
    | some (.own ws) => (e.den D false σ h).out σ fun w h => match decide (ws.length < sizeLine) with
      | true => .nx (σ.set i (.own (ws ++ [w]))) h
      | false => .bad
    | _ => .bad
  | .ext _ i _ _ e _ _, σ, h => match σ[i]? with
    | some (.own ws) => (e.den D false σ h).out σ fun w h => match w with
      | .lst us => match lineN (ws.length + us.length) with
        | true => .nx (σ.set i (.own (ws ++ us))) h
        | false => .bad
      | _ => .bad
    | _ => .bad
  | .expr e _, σ, h => (e.den D false σ h).out σ fun _ h => .nx σ h
  | .ret e _, σ, h => (e.den D false σ h).out σ fun w h => .rt w h
  | .retN _, σ, h => .rt .non h
  | .ite c a b _, σ, h => match c.tst D σ h with
    | .ok true h => a.den D σ h
    | .ok false h => b.den D σ h
    | .exc x h => .exc x σ h
    | .bad => .bad
  | .whl c b _, σ, h => whlGo (fun σ h => c.tst D σ h) (fun σ h => b.den D σ h) whlMost σ h
  | .for t it b _, σ, h => match it.den D σ h with
    | .ok xs h => forGo (fun w σ h => t.den D w σ h) (fun σ h => b.den D σ h) xs σ h
    | .exc x h => .exc x σ h
    | .bad => .bad
  | .frz is s, σ, h => s.den D (frzS is σ) h
  | .pass _, σ, h => .nx σ h
  | .brk _, σ, h => .bk σ h
  | .cnt _, σ, h => .ct σ h
def Ss.den (D : Dn) : Ss → Sls → Obs → Out
  | .nil, σ, h => .nx σ h
  | .cons s ss, σ, h => match s.den D σ h with
    | .nx σ h => ss.den D σ h
    | o => o
end

/-! ## defs, by levels -/
structure Df where
  nm : Str
  /-- all names by slot, parameters first -/
  N : List Str
  np : Nat
  body : Ss
def startS (n : Nat) (ws : List W) : Sls := ws.map Sl.val ++ List.replicate (n - ws.length) .non
def Df.run (d : Df) (D : Dn) (ws : List W) (h : Obs) : R W := match decide (ws.length = d.np) with
  | true => match d.body.den D (startS d.N.length ws) h with
    | .nx _ h => .ok .non h
    | .rt w h => .ok w h
    | .exc x _ h => .exc x h
    | _ => .bad
  | false => .bad
structure Pg where
  defs : List Df
  cst : Str → Option W
def Pg.par (P : Pg) (f : Nat) : List Str := match P.defs[f]? with
  | some d => d.N.take d.np
  | none => []
/-- what the def f tells, calls going at most k deep -/
def Pg.T (P : Pg) : Nat → Nat → List W → Obs → R W
  | 0, _, _, _ => .bad
  | k + 1, f, ws, h => match P.defs[f]? with
    | some d => d.run ⟨P.T k, P.cst, P.par⟩ ws h
    | none => .bad
end Ev

namespace Ev
open PySem PySem.Spec PyProof.Rows L2

/-! ## values in the heap -/
mutual
/-- w stands in the still part F of the heap as v; what changes stands at the places ι -/
inductive RV (K : PySem.W.Frag) (F : Hp) (ι : List Addr) : W → V → Prop
  | non : RV K F ι .non .non
  | bl (b : Bool) : RV K F ι (.bl b) (.bl b)
  | int (i : Int) : RV K F ι (.int i) (.int i)
  | str (s : Str) : RV K F ι (.str s) (.str s)
  | ty (n : String) : RV K F ι (.ty n) (.ty n)
  | tup {ws : List W} {a : Addr} {vs : List V} : SqT K F a vs → RVs K F ι ws vs → RV K F ι (.tup ws) (.ref a)
  | lst {ws : List W} {a : Addr} {vs : List V} : F a = some (.lst vs) → RVs K F ι ws vs → RV K F ι (.lst ws) (.ref a)
  | emp {a : Addr} : F a = some (.dK []) → RV K F ι .emp (.ref a)
  | scr {ns : List Int} {a : Addr} : SqL K F a (ns.map V.int) → RV K F ι (.scr ns) (.ref a)
  | ref {n : Nat} {a : Addr} : ι[n]? = some a → RV K F ι (.ref n) (.ref a)
inductive RVs (K : PySem.W.Frag) (F : Hp) (ι : List Addr) : List W → List V → Prop
  | nil : RVs K F ι [] []
  | cons {w : W} {v : V} {ws : List W} {vs : List V} : RV K F ι w v → RVs K F ι ws vs → RVs K F ι (w :: ws) (v :: vs)
end
/-- the still part grows -/
structure Le (F : Hp) (ι : List Addr) (F' : Hp) (ι' : List Addr) : Prop where
  f : ∀ a o, F a = some o → F' a = some o
  i : ∃ t, ι' = ι ++ t
theorem Le.refl {F : Hp} {ι : List Addr} : Le F ι F ι := ⟨fun _ _ h => h, [], by simp⟩
theorem Le.trans {F F1 F2 : Hp} {ι ι1 ι2 : List Addr} (a : Le F ι F1 ι1) (b : Le F1 ι1 F2 ι2) : Le F ι F2 ι2 := ⟨fun x o h => b.f x o (a.f x o h), by
  obtain ⟨t, rfl⟩ := a.i
  obtain ⟨u, rfl⟩ := b.i
  exact ⟨t ++ u, by simp⟩⟩
theorem Le.at {F F1 : Hp} {ι ι1 : List Addr} (a : Le F ι F1 ι1) {n : Nat} {x : Addr} (h : ι[n]? = some x) : ι1[n]? = some x := by
  obtain ⟨t, rfl⟩ := a.i
  rw [List.getElem?_append_left (List.getElem?_eq_some_iff.mp h).1]
  exact h
section
variable {K : PySem.W.Frag} {F F' : Hp} {ι ι' : List Addr}
theorem rd_mono {u : HO} {a : Addr} (f : ∀ a o, F a = some o → F' a = some o) (h : Rd F a u) : Rd F' a u := by
  rcases h with h | ⟨o, h⟩
  · exact .inl (f _ _ h)
  · exact .inr ⟨o, f _ _ h⟩
theorem sqT_mono {a : Addr} {vs : List V} (f : ∀ a o, F a = some o → F' a = some o) (h : SqT K F a vs) : SqT K F' a vs := by
  rcases h with h | h
  · exact .inl (rd_mono f h)
  · exact .inr h
theorem sqL_mono {a : Addr} {vs : List V} (f : ∀ a o, F a = some o → F' a = some o) (h : SqL K F a vs) : SqL K F' a vs := by
  rcases h with h | h
  · exact .inl (rd_mono f h)
  · exact .inr h
mutual
theorem RV.mono (l : Le F ι F' ι') : ∀ {w : W} {v : V}, RV K F ι w v → RV K F' ι' w v
  | _, _, .non => .non
  | _, _, .bl b => .bl b
  | _, _, .int i => .int i
  | _, _, .str s => .str s
  | _, _, .ty n => .ty n
  | _, _, .tup h r => .tup (sqT_mono l.f h) (RVs.mono l r)
  | _, _, .lst h r => .lst (l.f _ _ h) (RVs.mono l r)
  | _, _, .emp h => .emp (l.f _ _ h)
  | _, _, .scr h => .scr (sqL_mono l.f h)
  | _, _, .ref h => .ref (l.at h)
theorem RVs.mono (l : Le F ι F' ι') : ∀ {ws : List W} {vs : List V}, RVs K F ι ws vs → RVs K F' ι' ws vs
  | _, _, .nil => .nil
  | _, _, .cons h r => .cons (RV.mono l h) (RVs.mono l r)
end
theorem RVs.length : ∀ {ws : List W} {vs : List V}, RVs K F ι ws vs → ws.length = vs.length
  | _, _, .nil => rfl
  | _, _, .cons _ r => congrArg (· + 1) (RVs.length r)
theorem RVs.get : ∀ {ws : List W} {vs : List V} {i : Nat} {w : W}, RVs K F ι ws vs → ws[i]? = some w → ∃ v, vs[i]? = some v ∧ RV K F ι w v
  | _, _, _, _, .nil, h => by simp at h
  | _, _, 0, _, .cons r _, h => by
    have e := Option.some.inj h
    subst e
    exact ⟨_, rfl, r⟩
  | _, _, i + 1, w, .cons _ r, h => RVs.get (i := i) r h
theorem RVs.append : ∀ {ws us : List W} {vs xs : List V}, RVs K F ι ws vs → RVs K F ι us xs → RVs K F ι (ws ++ us) (vs ++ xs)
  | _, _, _, _, .nil, q => q
  | _, _, _, _, .cons r t, q => .cons r (RVs.append t q)
theorem RVs.set {w : W} {v : V} (q : RV K F ι w v) : ∀ {ws : List W} {vs : List V} (i : Nat), RVs K F ι ws vs → RVs K F ι (ws.set i w) (vs.set i v)
  | _, _, _, .nil => .nil
  | _, _, 0, .cons _ r => .cons q r
  | _, _, i + 1, .cons h r => .cons h (RVs.set q i r)
theorem RVs.take : ∀ {ws : List W} {vs : List V} (n : Nat), RVs K F ι ws vs → RVs K F ι (ws.take n) (vs.take n)
  | _, _, 0, _ => .nil
  | _, _, _ + 1, .nil => .nil
  | _, _, n + 1, .cons r t => .cons r (RVs.take n t)
theorem RVs.drop : ∀ {ws : List W} {vs : List V} (n : Nat), RVs K F ι ws vs → RVs K F ι (ws.drop n) (vs.drop n)
  | _, _, 0, r => r
  | _, _, _ + 1, .nil => .nil
  | _, _, n + 1, .cons _ t => RVs.drop n t
theorem RVs.dropLast {ws : List W} {vs : List V} (r : RVs K F ι ws vs) : RVs K F ι ws.dropLast vs.dropLast := by
  rw [List.dropLast_eq_take, List.dropLast_eq_take, r.length]
  exact r.take _
theorem RVs.cutR {ws : List W} {vs : List V} (r : RVs K F ι ws vs) (lo hi : Option Int) : RVs K F ι (cut ws lo hi) (cutV vs lo hi) := by
  unfold cut cutV
  rw [r.length]
  exact (r.drop _).take _
theorem RVs.ints (ns : List Int) : RVs K F ι (ns.map W.int) (ns.map V.int) := by
  induction ns with
  | nil => exact .nil
  | cons n r ih => exact .cons (.int n) ih
theorem RVs.atI {ws : List W} {vs : List V} {i : Int} {w : W} (r : RVs K F ι ws vs) (h : L2.atI ws i = some w) : ∃ v, L2.atI vs i = some v ∧ RV K F ι w v := by
  unfold L2.atI at h ⊢
  rw [← r.length]
  cases q : ixN ws.length i with
  | none => rw [q] at h; cases h
  | some j =>
    rw [q] at h
    exact r.get (i := j) h
/-- flat values -/
theorem RV.flat {w : W} {v u : V} (h : RV K F ι w v) (e : w.flat = some u) : v = u ∧ flatV v = true := by
  cases h <;> first | (cases e; exact ⟨rfl, rfl⟩) | cases e
theorem RVs.flats : ∀ {ws : List W} {vs us : List V}, RVs K F ι ws vs → flats ws = some us → vs = us ∧ vs.all flatV = true
  | _, _, _, .nil, e => by cases e; exact ⟨rfl, rfl⟩
  | _, _, us, .cons (w := w) (ws := ws) h r, e => by
    unfold Ev.flats at e
    cases q1 : w.flat with
    | none => rw [q1] at e; cases e
    | some u =>
      cases q2 : Ev.flats ws with
      | none => rw [q1, q2] at e; cases e
      | some us' =>
        rw [q1, q2] at e
        cases e
        obtain ⟨rfl, f⟩ := h.flat q1
        obtain ⟨rfl, g⟩ := RVs.flats r q2
        exact ⟨rfl, by simp [f, g]⟩
mutual
theorem RV.dat {H : Hp} (s : ∀ a o, F a = some o → H a = some o) : ∀ {w : W} {v : V} {d : PyData}, RV K F ι w v → w.dat = some d → Dp K H v d
  | _, _, _, .non, e => by unfold W.dat at e; cases e; exact .non
  | _, _, _, .bl b, e => by unfold W.dat at e; cases e; exact .bl b
  | _, _, _, .int i, e => by unfold W.dat at e; cases e; exact .int i
  | _, _, _, .str x, e => by unfold W.dat at e; cases e; exact .str x
  | _, _, _, .tup (ws := ws) h r, e => by
    unfold W.dat at e
    cases q : W.dats ws with
    | none => rw [q] at e; cases e
    | some ds =>
      rw [q] at e
      cases e
      exact .tup (sqT_mono s h) (RVs.dats s r q)
  | _, _, _, .lst (ws := ws) h r, e => by
    unfold W.dat at e
    cases q : W.dats ws with
    | none => rw [q] at e; cases e
    | some ds =>
      rw [q] at e
      cases e
      exact .lst (.inl (.inl (s _ _ h))) (RVs.dats s r q)
  | _, _, _, .ty n, e => by unfold W.dat at e; cases e
  | _, _, _, .emp h, e => by unfold W.dat at e; cases e
  | _, _, _, .scr h, e => by unfold W.dat at e; cases e
  | _, _, _, .ref h, e => by unfold W.dat at e; cases e
theorem RVs.dats {H : Hp} (s : ∀ a o, F a = some o → H a = some o) : ∀ {ws : List W} {vs : List V} {ds : List PyData}, RVs K F ι ws vs → W.dats ws = some ds → DpAll K H vs ds
  | _, _, _, .nil, e => by unfold W.dats at e; cases e; exact .nil
  | _, _, _, .cons (w := w) (ws := ws) h r, e => by
    unfold W.dats at e
    cases q1 : W.dat w with
    | none => rw [q1] at e; cases e
    | some d =>
      cases q2 : W.dats ws with
      | none => rw [q1, q2] at e; cases e
      | some ds =>
        rw [q1, q2] at e
        cases e
        exact .cons (RV.dat s h q1) (RVs.dats s r q2)
end
end

/-! ## states -/
def ObR (K : PySem.W.Frag) (F : Hp) (ι : List Addr) : Ob → Option HO → Prop
  | .lst ws, o => ∃ vs, o = some (.lst vs) ∧ RVs K F ι ws vs
theorem ObR.mono {K : PySem.W.Frag} {F F' : Hp} {ι ι' : List Addr} (l : Le F ι F' ι') {b : Ob} {o : Option HO} (h : ObR K F ι b o) : ObR K F' ι' b o := by
  cases b with
  | lst ws =>
    obtain ⟨vs, e, r⟩ := h
    exact ⟨vs, e, r.mono l⟩
/-- the heap's still part, and what changes -/
structure HR (K : PySem.W.Frag) (F : Hp) (ι : List Addr) (h : Obs) (H : Hp) : Prop where
  sub : ∀ a o, F a = some o → H a = some o
  len : ι.length = h.length
  nd : ι.Nodup
  ob : ∀ (n : Nat) (a : Addr) (o : Ob), ι[n]? = some a → h[n]? = some o → F a = none ∧ ObR K F ι o (H a)
/-- from one heap to a later one: what neither stands still nor changes by number is left alone -/
structure Xt (F : Hp) (ι : List Addr) (H : Hp) (F' : Hp) (ι' : List Addr) (H' : Hp) : Prop where
  le : Le F ι F' ι'
  h : ∀ a o, H a = some o → F a = none → a ∉ ι → H' a = some o
  n : ∀ a, F' a ≠ none → F a ≠ none ∨ H a = none
  m : ∀ a, a ∈ ι' → a ∈ ι ∨ H a = none
  d : ∀ a, H a ≠ none → H' a ≠ none
theorem Xt.refl {F : Hp} {ι : List Addr} {H : Hp} : Xt F ι H F ι H := ⟨.refl, fun _ _ h _ _ => h, fun _ h => .inl h, fun _ h => .inl h, fun _ h => h⟩
theorem Xt.trans {F F1 F2 : Hp} {ι ι1 ι2 : List Addr} {H H1 H2 : Hp} (a : Xt F ι H F1 ι1 H1) (b : Xt F1 ι1 H1 F2 ι2 H2) : Xt F ι H F2 ι2 H2 where
  le := a.le.trans b.le
  h := fun x o e n m => b.h x o (a.h x o e n m) (by
    cases q : F1 x with
    | none => rfl
    | some u =>
      rcases a.n x (by rw [q]; simp) with z | z
      · exact absurd n z
      · rw [z] at e; cases e) (fun hm => by
      rcases a.m x hm with z | z
      · exact m z
      · rw [z] at e; cases e)
  n := fun x hx => by
    rcases b.n x hx with z | z
    · exact a.n x z
    · refine .inr ?_
      cases q : H x with
      | none => rfl
      | some o => exact absurd z (a.d x (by rw [q]; simp))
  m := fun x hx => by
    rcases b.m x hx with z | z
    · exact a.m x z
    · refine .inr ?_
      cases q : H x with
      | none => rfl
      | some o => exact absurd z (a.d x (by rw [q]; simp))
  d := fun x hx => b.d x (a.d x hx)

/-- a def's slots -/
abbrev VS := List (Option V)
structure Ent where
  F : Hp
  ι : List Addr
  H : Hp
  /-- what nobody else may touch -/
  hold : Addr → Option HO := fun _ => none
theorem Xt.out {F : Hp} {ι : List Addr} {H : Hp} {F' : Hp} {ι' : List Addr} {H' : Hp} (x : Xt F ι H F' ι' H') {p : Addr} {o : HO} (e : H p = some o) (fn : F p = none) (ni : p ∉ ι) : H' p = some o ∧ F' p = none ∧ p ∉ ι' := by
  refine ⟨x.h p o e fn ni, ?_, fun hm => ?_⟩
  · cases q : F' p with
    | none => rfl
    | some u =>
      rcases x.n p (by rw [q]; simp) with z | z
      · exact absurd fn z
      · rw [z] at e; cases e
  · rcases x.m p hm with z | z
    · exact ni z
    · rw [z] at e; cases e
/-- a slot -/
def SlR (K : PySem.W.Frag) (F : Hp) (ι : List Addr) (H0 H : Hp) : Sl → Option (Option V) → Prop
  | .non, _ => True
  | .val w, o => ∃ v, o = some (some v) ∧ RV K F ι w v
  | .own ws, o => ∃ p vs, o = some (some (.ref p)) ∧ H p = some (.lst vs) ∧ RVs K F ι ws vs ∧ F p = none ∧ p ∉ ι ∧ H0 p = none
/-- a def's state, since its entry e0 -/
structure J (K : PySem.W.Frag) (e0 : Ent) (F : Hp) (ι : List Addr) (sl : Sls) (h : Obs) (σ : VS) (H : Hp) : Prop where
  hr : HR K F ι h H
  xt : Xt e0.F e0.ι e0.H F ι H
  len : sl.length = σ.length
  at_ : ∀ (i : Nat) (s : Sl), sl[i]? = some s → SlR K F ι e0.H H s σ[i]?
  ap : ∀ (i j : Nat) (ws us : List W) (p : Addr), sl[i]? = some (.own ws) → sl[j]? = some (.own us) → σ[i]? = some (some (.ref p)) → σ[j]? = some (some (.ref p)) → i = j
  hd : ∀ (a : Addr) (o : HO), e0.hold a = some o → H a = some o ∧ F a = none ∧ a ∉ ι ∧ ∀ (i : Nat) (ws : List W), sl[i]? = some (.own ws) → σ[i]? ≠ some (some (.ref a))
section
variable {K : PySem.W.Frag} {e0 : Ent} {F F' : Hp} {ι ι' : List Addr} {sl : Sls} {h h' : Obs} {σ : VS} {H H' : Hp}
/-- the heap goes on, the slots stay -/
theorem J.step (j : J K e0 F ι sl h σ H) (x : Xt F ι H F' ι' H') (r : HR K F' ι' h' H') : J K e0 F' ι' sl h' σ H' where
  hr := r
  xt := j.xt.trans x
  len := j.len
  at_ := fun i s e => by
    have q := j.at_ i s e
    cases s with
    | non => trivial
    | val w =>
      obtain ⟨v, e1, rv⟩ := q
      exact ⟨v, e1, rv.mono x.le⟩
    | own ws =>
      obtain ⟨p, vs, e1, e2, rv, fn, ni, n0⟩ := q
      obtain ⟨z1, z2, z3⟩ := x.out e2 fn ni
      exact ⟨p, vs, e1, z1, rv.mono x.le, z2, z3, n0⟩
  ap := j.ap
  hd := fun a o e => by
    obtain ⟨e1, e2, e3, e4⟩ := j.hd a o e
    obtain ⟨z1, z2, z3⟩ := x.out e1 e2 e3
    exact ⟨z1, z2, z3, e4⟩
/-- a new thing that stands still -/
theorem xt_new {p : Addr} {o : HO} (hp : H p = none) (s : ∀ a o, F a = some o → H a = some o) : Xt F ι H (upd F p o) ι (upd H p o) where
  le := ⟨fun a u e => by
    have hn : a ≠ p := fun z => by
      have := s a u e
      rw [z, hp] at this
      cases this
    rw [upd_ne hn]; exact e, [], by simp⟩
  h := fun a u e _ _ => by
    have hn : a ≠ p := fun z => by rw [z, hp] at e; cases e
    rw [upd_ne hn]; exact e
  n := fun a e => by
    by_cases hn : a = p
    · rw [hn]; exact .inr hp
    · rw [upd_ne hn] at e; exact .inl e
  m := fun a e => .inl e
  d := fun a e => by
    by_cases hn : a = p
    · rw [hn, upd_same]; simp
    · rw [upd_ne hn]; exact e
theorem hr_new {p : Addr} {o : HO} (hp : H p = none) (r : HR K F ι h H) : HR K (upd F p o) ι h (upd H p o) where
  sub := fun a u e => by
    by_cases hn : a = p
    · rw [hn, upd_same] at e ⊢; exact e
    · rw [upd_ne hn] at e ⊢; exact r.sub a u e
  len := r.len
  nd := r.nd
  ob := fun n a b e1 e2 => by
    obtain ⟨fn, q⟩ := r.ob n a b e1 e2
    have hn : a ≠ p := fun z => by
      cases b with
      | lst ws =>
        obtain ⟨vs, e, _⟩ := q
        rw [z, hp] at e; cases e
    rw [upd_ne hn, upd_ne hn]
    exact ⟨fn, q.mono (xt_new (o := o) hp r.sub).le⟩
theorem J.new {p : Addr} {o : HO} (j : J K e0 F ι sl h σ H) (hp : H p = none) : J K e0 (upd F p o) ι sl h σ (upd H p o) := j.step (xt_new hp j.hr.sub) (hr_new hp j.hr)
theorem J.newLe {p : Addr} {o : HO} (j : J K e0 F ι sl h σ H) (hp : H p = none) : Le F ι (upd F p o) ι := (xt_new hp j.hr.sub).le
/-- a new thing that is nobody's yet: it is no part of the still heap -/
theorem J.loose {p : Addr} {o : HO} (j : J K e0 F ι sl h σ H) (hp : H p = none) : J K e0 F ι sl h σ (upd H p o) := j.step
  ⟨.refl, fun a u e _ _ => by rw [upd_ne (fun z => by rw [z, hp] at e; cases e)]; exact e, fun _ e => .inl e, fun _ e => .inl e, fun a e => by
    by_cases hn : a = p
    · rw [hn, upd_same]; simp
    · rw [upd_ne hn]; exact e⟩
  ⟨fun a u e => by
    have e2 := j.hr.sub a u e
    rw [upd_ne (fun z => by rw [z, hp] at e2; cases e2)]
    exact e2, j.hr.len, j.hr.nd, fun n a b e1 e2 => by
    obtain ⟨fn, q⟩ := j.hr.ob n a b e1 e2
    refine ⟨fn, ?_⟩
    cases b with
    | lst ws =>
      obtain ⟨vs, e, r⟩ := q
      refine ⟨vs, ?_, r⟩
      rw [upd_ne (fun z => by rw [z, hp] at e; cases e)]
      exact e⟩
theorem SqT.sub {a : Addr} {vs : List V} (r : HR K F ι h H) (q : SqT K F a vs) : SqT K H a vs := sqT_mono r.sub q
theorem SqL.sub {a : Addr} {vs : List V} (r : HR K F ι h H) (q : SqL K F a vs) : SqL K H a vs := sqL_mono r.sub q
end

/-! ## operands -/
/-- a value, or a list of the def's own that is looked at -/
def ROp (K : PySem.W.Frag) (sl : Sls) (σ : VS) (F : Hp) (ι : List Addr) (w : W) (v : V) : Prop :=
  RV K F ι w v ∨ ∃ (i : Nat) (ws : List W) (p : Addr), w = .lst ws ∧ v = .ref p ∧ sl[i]? = some (.own ws) ∧ σ[i]? = some (some (.ref p))
def RKd (K : PySem.W.Frag) (sl : Sls) (σ : VS) (k : Bool) (F : Hp) (ι : List Addr) (w : W) (v : V) : Prop := match k with
  | true => ROp K sl σ F ι w v
  | false => RV K F ι w v
/-- .. at a heap, lists read -/
def RN (K : PySem.W.Frag) (F : Hp) (ι : List Addr) (H : Hp) (w : W) (v : V) : Prop :=
  RV K F ι w v ∨ ∃ ws p vs, w = .lst ws ∧ v = .ref p ∧ H p = some (.lst vs) ∧ RVs K F ι ws vs
section
variable {K : PySem.W.Frag} {e0 : Ent} {F F' : Hp} {ι ι' : List Addr} {sl : Sls} {h h' : Obs} {σ : VS} {H H' : Hp} {w : W} {v : V}
theorem ROp.mono (l : Le F ι F' ι') (r : ROp K sl σ F ι w v) : ROp K sl σ F' ι' w v := by
  rcases r with r | r
  · exact .inl (r.mono l)
  · exact .inr r
theorem RKd.of {k : Bool} (r : RV K F ι w v) : RKd K sl σ k F ι w v := by
  cases k with
  | true => exact .inl r
  | false => exact r
theorem J.now (j : J K e0 F ι sl h σ H) (r : ROp K sl σ F ι w v) : RN K F ι H (w.now h) v := by
  rcases r with r | ⟨i, ws, p, rfl, rfl, e1, e2⟩
  · cases r with
    | @ref n a e =>
      cases q : h[n]? with
      | none =>
        have z : (W.ref n).now h = .ref n := by simp only [W.now, q]
        rw [z]
        exact .inl (.ref e)
      | some o =>
        cases o with
        | lst ws =>
          obtain ⟨fn, vs, eo, rv⟩ := j.hr.ob n a _ e q
          have z : (W.ref n).now h = .lst ws := by simp only [W.now, q]
          rw [z]
          exact .inr ⟨ws, a, vs, rfl, rfl, eo, rv⟩
    | non => exact .inl .non
    | bl b => exact .inl (.bl b)
    | int i => exact .inl (.int i)
    | str s => exact .inl (.str s)
    | ty n => exact .inl (.ty n)
    | tup e q => exact .inl (.tup e q)
    | lst e q => exact .inl (.lst e q)
    | emp e => exact .inl (.emp e)
    | scr e => exact .inl (.scr e)
  · obtain ⟨p', vs, e3, e4, rv, _⟩ := j.at_ i _ e1
    rw [e2] at e3
    cases e3
    exact .inr ⟨ws, p, vs, rfl, rfl, e4, rv⟩
/-- a list that is read -/
theorem RN.lst (s : ∀ a o, F a = some o → H a = some o) {ws : List W} (r : RN K F ι H (.lst ws) v) : ∃ p vs, v = .ref p ∧ H p = some (.lst vs) ∧ RVs K F ι ws vs := by
  rcases r with r | ⟨us, p, vs, e, rfl, e2, rv⟩
  · cases r with
    | lst e q => exact ⟨_, _, rfl, s _ _ e, q⟩
  · cases e
    exact ⟨p, vs, rfl, e2, rv⟩
theorem RN.rv (r : RN K F ι H w v) (n : ∀ ws, w ≠ .lst ws) : RV K F ι w v := by
  rcases r with r | ⟨ws, _, _, rfl, _⟩
  · exact r
  · exact absurd rfl (n ws)
theorem RN.dat (s : ∀ a o, F a = some o → H a = some o) {d : PyData} (r : RN K F ι H w v) (e : w.dat = some d) : Dp K H v d := by
  rcases r with r | ⟨ws, p, vs, rfl, rfl, e2, rv⟩
  · exact r.dat s e
  · unfold W.dat at e
    cases q : W.dats ws with
    | none => rw [q] at e; cases e
    | some ds =>
      rw [q] at e
      cases e
      exact .lst (.inl (.inl e2)) (RVs.dats s rv q)
/-- the items of what can be walked -/
theorem RN.items (s : ∀ a o, F a = some o → H a = some o) {ws : List W} (r : RN K F ι H w v) (e : w.items = some ws) : ∃ p vs, v = .ref p ∧ (SqL K H p vs ∨ SqT K H p vs) ∧ RVs K F ι ws vs := by
  rcases r with r | ⟨us, p, vs, rfl, rfl, e2, rv⟩
  · cases r with
    | lst q rv =>
      cases e
      exact ⟨_, _, rfl, .inl (.inl (.inl (s _ _ q))), rv⟩
    | tup q rv =>
      cases e
      exact ⟨_, _, rfl, .inr (sqT_mono s q), rv⟩
    | @scr ns a q =>
      cases e
      exact ⟨_, _, rfl, .inl (sqL_mono s q), RVs.ints ns⟩
    | _ => cases e
  · cases e
    exact ⟨p, vs, rfl, .inl (.inl (.inl e2)), rv⟩
end
end Ev

namespace Ev
open PySem PySem.Spec PyProof.Rows L2

/-! ## operations by values: the layer's rules, joined -/
/-- what stands behind an operation: the still part may have grown by what is new -/
def Bh (K : PySem.W.Frag) (F : Hp) (ι : List Addr) (h : Obs) (H : Hp) (w : W) (Q : V → Hp → Prop) : Prop :=
  ∀ F' H' v, Xt F ι H F' ι H' → HR K F' ι h H' → RV K F' ι w v → Q v H'
def rBin (K : PySem.W.Frag) (op : BOp) : R2 := fun x y H Q => ∃ F ι h a b w, HR K F ι h H ∧ RN K F ι H a x ∧ RN K F ι H b y ∧ binW op a b = some w ∧ Bh K F ι h H w Q
def rCmp (K : PySem.W.Frag) (op : COp) : R2 := fun x y H Q => ∃ F ι h a b k, HR K F ι h H ∧ RN K F ι H a x ∧ RN K F ι H b y ∧ cmpW op a b = some k ∧ Q (.bl k) H
section
variable {K : PySem.W.Frag} {F : Hp} {ι : List Addr} {h : Obs} {H : Hp} {Q : V → Hp → Prop}
theorem Bh.now {w : W} {v : V} (b : Bh K F ι h H w Q) (r : HR K F ι h H) (q : RV K F ι w v) : Q v H := b F H v .refl r q
/-- a new list, a new tuple -/
theorem Bh.lst {ws : List W} {vs : List V} {p : Addr} (b : Bh K F ι h H (.lst ws) Q) (r : HR K F ι h H) (q : RVs K F ι ws vs) (hp : H p = none) : Q (.ref p) (upd H p (.lst vs)) :=
  b _ _ _ (xt_new hp r.sub) (hr_new hp r) (.lst upd_same (q.mono (xt_new (o := HO.lst vs) hp r.sub).le))
theorem Bh.tup {ws : List W} {vs : List V} {p : Addr} (b : Bh K F ι h H (.tup ws) Q) (r : HR K F ι h H) (q : RVs K F ι ws vs) (hp : H p = none) : Q (.ref p) (upd H p (.tup vs)) :=
  b _ _ _ (xt_new hp r.sub) (hr_new hp r) (.tup (.inl (.inl upd_same)) (q.mono (xt_new (o := HO.tup vs) hp r.sub).le))
theorem RN.int {i : Int} {v : V} (r : RN K F ι H (.int i) v) : v = .int i := by
  have q := r.rv (fun _ z => by cases z)
  cases q
  rfl
theorem RN.str {s : Str} {v : V} (r : RN K F ι H (.str s) v) : v = .str s := by
  have q := r.rv (fun _ z => by cases z)
  cases q
  rfl
theorem lineN_ok {n : Nat} (e : lineN n = true) : n ≤ sizeLine := of_decide_eq_true e
theorem and_ok {a b : Bool} (e : (a && b) = true) : a = true ∧ b = true := Bool.and_eq_true_iff.mp e
theorem small_ok {i : Int} (e : small i = true) : -(2 ^ 64) < i ∧ i < 2 ^ 64 := by
  obtain ⟨a, b⟩ := and_ok e
  exact ⟨of_decide_eq_true a, of_decide_eq_true b⟩
end
theorem intsW_ok {α : Type} {f : Int → Int → Option α} {a b : W} {r : α} (e : intsW f a b = some r) : ∃ i j, a = .int i ∧ b = .int j ∧ f i j = some r := by
  unfold intsW at e
  split at e
  · exact ⟨_, _, rfl, rfl, e⟩
  · cases e
theorem ifB_ok {α : Type} {b : Bool} {a r : α} (e : ifB b a = some r) : b = true ∧ a = r := by
  cases b with
  | true => cases e; exact ⟨rfl, rfl⟩
  | false => cases e
section
variable {X : Cx}
theorem bin_ok (op : BOp) : OpR X (binaryOp op.un) (rBin X.K op) := by
  intro pins s σ H x y v u Q I rx ry q
  obtain ⟨F, ι, h, a, b, w, hr, ra, rb, e, bh⟩ := q
  have onI : ∀ {f : Int → Int → Option W}, intsW f a b = some w → (∀ i j, x = .int i → y = .int j → f i j = some w → wpAny (model X.prog X.w) X.A (binaryOp op.un v u) (EP X pins σ Q) X.xe s) →
      wpAny (model X.prog X.w) X.A (binaryOp op.un v u) (EP X pins σ Q) X.xe s := fun e f => by
    obtain ⟨i, j, rfl, rfl, e⟩ := intsW_ok e
    exact f i j ra.int rb.int e
  cases op with
  | add =>
    have e : addW a b = some w := e
    unfold addW at e
    split at e
    · cases e
      cases ra.int; cases rb.int
      exact op_add pins s σ H _ _ v u Q I rx ry ⟨_, _, rfl, rfl, bh.now hr (.int _)⟩
    · split at e
      · rename_i z
        cases e
        cases ra.str; cases rb.str
        exact op_add_str pins s σ H _ _ v u Q I rx ry ⟨_, _, rfl, rfl, lineN_ok z, bh.now hr (.str _)⟩
      · cases e
    · split at e
      · rename_i z
        cases e
        obtain ⟨p, vs, rfl, e1, r1⟩ := ra.lst hr.sub
        obtain ⟨p', us, rfl, e2, r2⟩ := rb.lst hr.sub
        exact op_cat pins s σ H _ _ v u Q I rx ry ⟨_, _, _, _, rfl, rfl, e1, e2, by rw [← r1.length, ← r2.length]; exact lineN_ok z, fun p hp => bh.lst hr (r1.append r2) hp⟩
      · cases e
    · cases e
  | sub =>
    refine onI e fun i j ei ej e => ?_
    cases e
    exact op_sub pins s σ H x y v u Q I rx ry ⟨_, _, ei, ej, bh.now hr (.int _)⟩
  | mul =>
    refine onI e fun i j ei ej e => ?_
    obtain ⟨z, rfl⟩ := ifB_ok e
    refine op_mul pins s σ H x y v u Q I rx ry ⟨_, _, ei, ej, ?_, bh.now hr (.int _)⟩
    rcases Bool.or_eq_true_iff.mp z with z | z
    · exact .inl (small_ok z)
    · exact .inr (small_ok z)
  | fdiv =>
    refine onI e fun i j ei ej e => ?_
    obtain ⟨z, rfl⟩ := ifB_ok e
    obtain ⟨z1, z2⟩ := and_ok z
    exact op_fdiv pins s σ H x y v u Q I rx ry ⟨_, _, ei, ej, ⟨of_decide_eq_true z1, of_decide_eq_true z2⟩, bh.now hr (.int _)⟩
  | mod =>
    refine onI e fun i j ei ej e => ?_
    obtain ⟨z, rfl⟩ := ifB_ok e
    exact op_mod pins s σ H x y v u Q I rx ry ⟨_, _, ei, ej, of_decide_eq_true z, bh.now hr (.int _)⟩
  | pow =>
    refine onI e fun i j ei ej e => ?_
    obtain ⟨z, rfl⟩ := ifB_ok e
    obtain ⟨z1, z2⟩ := and_ok z
    obtain ⟨z2, z3⟩ := and_ok z2
    exact op_pow pins s σ H x y v u Q I rx ry ⟨_, _, ei, ej, ⟨of_decide_eq_true z1, of_decide_eq_true z2, of_decide_eq_true z3⟩, bh.now hr (.int _)⟩
theorem eqW_ok {a b : W} {k : Bool} (e : eqW a b = some k) : ∃ d f, a.dat = some d ∧ b.dat = some f ∧ SeqAt.shaped d = true ∧ SeqAt.shaped f = true ∧ PyData.eqv d f = k := by
  unfold eqW at e
  split at e
  · rename_i d f h1 h2
    split at e
    · rename_i z
      cases e
      obtain ⟨z1, z2⟩ := and_ok z
      exact ⟨d, f, h1, h2, z1, z2, rfl⟩
    · cases e
  · cases e
theorem inW_ok {K : PySem.W.Frag} {F : Hp} {ι : List Addr} {H : Hp} {a b : W} {x y : V} {k : Bool} (s : ∀ a o, F a = some o → H a = some o) (ra : RN K F ι H a x) (rb : RN K F ι H b y) (e : inW a b = some k) :
    ∃ p xs, y = .ref p ∧ (SqL K H p xs ∨ SqT K H p xs) ∧ flatV x = true ∧ xs.all flatV = true ∧ inV x xs = k := by
  have fx : ∀ {u}, a.flat = some u → x = u ∧ flatV x = true := fun {u} e => by
    have q : RV K F ι a x := ra.rv (fun _ z => by rw [z] at e; cases e)
    exact q.flat e
  have go : ∀ {ws : List W}, b.items = some ws → (match a.flat, flats ws with | some v, some vs => some (inV v vs) | _, _ => none) = some k →
      ∃ p xs, y = .ref p ∧ (SqL K H p xs ∨ SqT K H p xs) ∧ flatV x = true ∧ xs.all flatV = true ∧ inV x xs = k := fun {ws} hi e => by
    cases q1 : a.flat with
    | none => rw [q1] at e; cases e
    | some u =>
      cases q2 : flats ws with
      | none => rw [q1, q2] at e; cases e
      | some us =>
        rw [q1, q2] at e
        cases e
        obtain ⟨p, vs, rfl, sq, rv⟩ := rb.items s hi
        obtain ⟨rfl, f⟩ := fx q1
        obtain ⟨rfl, g⟩ := rv.flats q2
        exact ⟨p, _, rfl, sq, f, g, rfl⟩
  unfold inW at e
  split at e
  · exact go rfl e
  · exact go rfl e
  · cases e
theorem isnon {K : PySem.W.Frag} {F : Hp} {ι : List Addr} {H : Hp} {a : W} {x : V} (ra : RN K F ι H a x) : decide (x = V.non) = a.isNon := by
  rcases ra with r | ⟨ws, p, vs, rfl, rfl, _⟩
  · cases r <;> first | rfl | (exact decide_eq_false (fun z => by cases z))
  · exact decide_eq_false (fun z => by cases z)
theorem cmp_ok (op : COp) (hu : X.A.units + 64 < cLine) : OpR X (compareOp op.un) (rCmp X.K op) := by
  intro pins s σ H x y v u Q I rx ry q
  obtain ⟨F, ι, h, a, b, k, hr, ra, rb, e, q⟩ := q
  have onI : ∀ {f : Int → Int → Option Bool}, intsW f a b = some k → (∀ i j, x = .int i → y = .int j → f i j = some k → wpAny (model X.prog X.w) X.A (compareOp op.un v u) (EP X pins σ Q) X.xe s) →
      wpAny (model X.prog X.w) X.A (compareOp op.un v u) (EP X pins σ Q) X.xe s := fun e f => by
    obtain ⟨i, j, rfl, rfl, e⟩ := intsW_ok e
    exact f i j ra.int rb.int e
  cases op with
  | eq =>
    obtain ⟨d, f, h1, h2, s1, s2, rfl⟩ := eqW_ok e
    exact op_eqD hu pins s σ H x y v u Q I rx ry ⟨d, f, ra.dat hr.sub h1, rb.dat hr.sub h2, s1, s2, q⟩
  | ne =>
    have e : (eqW a b).map (!·) = some k := e
    cases z : eqW a b with
    | none => rw [z] at e; cases e
    | some k' =>
      rw [z] at e
      cases e
      obtain ⟨d, f, h1, h2, s1, s2, rfl⟩ := eqW_ok z
      exact op_neD hu pins s σ H x y v u Q I rx ry ⟨d, f, ra.dat hr.sub h1, rb.dat hr.sub h2, s1, s2, q⟩
  | isin =>
    obtain ⟨p, xs, rfl, sq, f1, f2, rfl⟩ := inW_ok hr.sub ra rb e
    exact op_in_seq pins s σ H _ _ v u Q I rx ry ⟨p, xs, rfl, sq, f1, f2, q⟩
  | notin =>
    have e : (inW a b).map (!·) = some k := e
    cases z : inW a b with
    | none => rw [z] at e; cases e
    | some k' =>
      rw [z] at e
      cases e
      obtain ⟨p, xs, rfl, sq, f1, f2, rfl⟩ := inW_ok hr.sub ra rb z
      exact op_notIn_seq pins s σ H _ _ v u Q I rx ry ⟨p, xs, rfl, sq, f1, f2, q⟩
  | isn =>
    have e : (if b.isNon = true then some a.isNon else none) = some k := e
    split at e
    · rename_i z
      cases e
      have q2 := (isnon rb).trans z
      have q3 : y = V.non := of_decide_eq_true q2
      subst q3
      exact op_isN pins s σ H _ _ v u Q I rx ry ⟨rfl, by rw [isnon ra]; exact q⟩
    · cases e
  | notn =>
    have e : (if b.isNon = true then some (!a.isNon) else none) = some k := e
    split at e
    · rename_i z
      cases e
      have q2 := (isnon rb).trans z
      have q3 : y = V.non := of_decide_eq_true q2
      subst q3
      exact op_notN pins s σ H _ _ v u Q I rx ry ⟨rfl, by rw [isnon ra]; exact q⟩
    · cases e
  | lt =>
    refine onI e fun i j ei ej e => ?_
    cases e
    exact op_lt pins s σ H x y v u Q I rx ry ⟨_, _, ei, ej, q⟩
  | le =>
    refine onI e fun i j ei ej e => ?_
    cases e
    exact op_le pins s σ H x y v u Q I rx ry ⟨_, _, ei, ej, q⟩
  | gt =>
    refine onI e fun i j ei ej e => ?_
    cases e
    exact op_gt pins s σ H x y v u Q I rx ry ⟨_, _, ei, ej, q⟩
  | ge =>
    refine onI e fun i j ei ej e => ?_
    cases e
    exact op_ge pins s σ H x y v u Q I rx ry ⟨_, _, ei, ej, q⟩
end
end Ev

namespace Ev
open PySem PySem.Spec PyProof.Rows L2

/-! ## built-ins by values -/
def Bt.val : Bt → Value
  | .len => .builtin "len" | .abs => .builtin "abs" | .max => .builtin "max" | .min => .builtin "min" | .divmod => .builtin "divmod" | .repr => .builtin "repr" | .all => .builtin "all"
  | .int => .type "int" | .list => .type "list" | .tuple => .type "tuple"
inductive RNs (K : PySem.W.Frag) (F : Hp) (ι : List Addr) (H : Hp) : List W → List V → Prop
  | nil : RNs K F ι H [] []
  | cons {w : W} {v : V} {ws : List W} {vs : List V} : RN K F ι H w v → RNs K F ι H ws vs → RNs K F ι H (w :: ws) (v :: vs)
def rBlt (K : PySem.W.Frag) (b : Bt) : List V → Hp → VK → Prop := fun xs H Q => ∃ F ι h ws w, HR K F ι h H ∧ RNs K F ι H ws xs ∧ bltW b ws = some w ∧ Bh K F ι h H w Q
section
variable {K : PySem.W.Frag} {F : Hp} {ι : List Addr} {H : Hp} {h : Obs}
theorem RNs.one {w : W} {xs : List V} (r : RNs K F ι H [w] xs) : ∃ v, xs = [v] ∧ RN K F ι H w v := by
  cases r with
  | cons a b => cases b; exact ⟨_, rfl, a⟩
theorem RNs.two {w u : W} {xs : List V} (r : RNs K F ι H [w, u] xs) : ∃ v x, xs = [v, x] ∧ RN K F ι H w v ∧ RN K F ι H u x := by
  cases r with
  | cons a b =>
    obtain ⟨x, rfl, q⟩ := b.one
    exact ⟨_, _, rfl, a, q⟩
theorem RVs.bls : ∀ {ws : List W} {vs : List V} {bs : List Bool}, RVs K F ι ws vs → bools ws = some bs → vs = bs.map V.bl
  | _, _, _, .nil, e => by cases e; rfl
  | _, _, bs, .cons (w := w) (ws := ws) r t, e => by
    cases r with
    | bl b =>
      have e : (bools ws).map (b :: ·) = some bs := e
      cases q : bools ws with
      | none => rw [q] at e; cases e
      | some bs' =>
        rw [q] at e
        cases e
        rw [RVs.bls t q]
        rfl
    | _ => cases e
theorem lenV_of (s : ∀ a o, F a = some o → H a = some o) {w : W} {v : V} {n : Nat} (r : RN K F ι H w v) (e : lenW w = some n) : LenV K v H n := by
  have seq : ∀ {ws : List W}, w.items = some ws → n = ws.length → LenV K v H n := fun {ws} hi en => by
    obtain ⟨p, vs, rfl, sq, rv⟩ := r.items s hi
    rw [rv.length] at en
    rcases sq with sq | sq
    · exact .inl ⟨vs, sq, en⟩
    · exact .inr ⟨vs, sq, en⟩
  unfold lenW at e
  split at e
  · cases e; exact seq rfl rfl
  · cases e; exact seq rfl rfl
  · cases e; exact seq rfl (by simp)
  · split at e
    · rename_i z
      cases e
      rw [r.str]
      exact ⟨lineN_ok z, rfl⟩
    · cases e
  · cases e
mutual
theorem dat_nodict : ∀ {w : W} {d : PyData}, w.dat = some d → d.hasDict = false
  | .non, _, e => by unfold W.dat at e; cases e; rfl
  | .bl _, _, e => by unfold W.dat at e; cases e; rfl
  | .int _, _, e => by unfold W.dat at e; cases e; rfl
  | .str _, _, e => by unfold W.dat at e; cases e; rfl
  | .tup ws, _, e => by
    unfold W.dat at e
    cases q : W.dats ws with
    | none => rw [q] at e; cases e
    | some ds => rw [q] at e; cases e; exact dats_nodict q
  | .lst ws, _, e => by
    unfold W.dat at e
    cases q : W.dats ws with
    | none => rw [q] at e; cases e
    | some ds => rw [q] at e; cases e; exact dats_nodict q
  | .ty _, _, e => by unfold W.dat at e; cases e
  | .emp, _, e => by unfold W.dat at e; cases e
  | .scr _, _, e => by unfold W.dat at e; cases e
  | .ref _, _, e => by unfold W.dat at e; cases e
theorem dats_nodict : ∀ {ws : List W} {ds : List PyData}, W.dats ws = some ds → PyData.hasDictAll ds = false
  | [], _, e => by unfold W.dats at e; cases e; rfl
  | w :: ws, _, e => by
    unfold W.dats at e
    cases q1 : W.dat w with
    | none => rw [q1] at e; cases e
    | some d =>
      cases q2 : W.dats ws with
      | none => rw [q1, q2] at e; cases e
      | some ds =>
        rw [q1, q2] at e
        cases e
        simp only [PyData.hasDictAll, dat_nodict q1, dats_nodict q2, Bool.or_self]
end
end
section
variable {X : Cx} {pins : List (Addr × Obj)} {s : Shared} {σ : VS} {H : Hp}
theorem repr_ok {d : PyData} {x : V} {u : Value} {Q : VK} (I : Inv X pins σ H s) (r : RelV x u) (p : Dp X.K H x d) (h1 : d.showable = true) (h2 : d.depth ≤ 64) (h3 : d.shown.length ≤ sizeLine) (hn : d.hasDict = false)
    (hg : X.A.guards = some []) (hu : X.A.units + 70 < cLine) (q : Q (.str d.shown) H) : wpAny (model X.prog X.w) X.A (call (.builtin "repr") [u]) (EP X pins σ Q) X.xe s := by
  obtain ⟨as, rd⟩ := Dp.reads I d x u p r
  cases p with
  | non =>
    cases r
    have z : PyData.shown .none = ("None" : Str) := by simp only [PyData.shown]
    rw [z] at q
    exact PySem.P.repr_of_none ⟨.str _, H, I.tok _, ⟨_, rfl⟩, q⟩
  | bl b =>
    cases r
    simp only [PyData.shown] at q
    exact PySem.P.repr_of_bool ⟨.str _, H, I.tok _, ⟨_, rfl⟩, q⟩
  | int i =>
    obtain ⟨t, rfl⟩ := r
    simp only [PyData.shown] at q
    exact PySem.P.repr_of_int (by simpa [PyData.showable] using h1) ⟨.str _, H, I.tok _, ⟨_, rfl⟩, q⟩
  | str y =>
    obtain ⟨t, rfl⟩ := r
    simp only [PyData.shown] at q h3
    exact PySem.P.repr_of_str ⟨.str _, H, I.tok _, ⟨_, rfl⟩, q⟩ h3
  | lst sq al =>
    cases r
    exact repr_of_reads' rd h1 (fun z => by rw [hn] at z; cases z) hg (by omega) (fun _ _ e => e) (fun h' u tk k => ⟨.str _, H, I.kept k, ⟨_, rfl⟩, q⟩) h3
  | tup sq al =>
    cases r
    exact repr_of_reads' rd h1 (fun z => by rw [hn] at z; cases z) hg (by omega) (fun _ _ e => e) (fun h' u tk k => ⟨.str _, H, I.kept k, ⟨_, rfl⟩, q⟩) h3
theorem on1_ok {f : W → Option W} {ws : List W} {w : W} (e : on1 f ws = some w) : ∃ a, ws = [a] ∧ f a = some w := by
  unfold on1 at e
  split at e
  · exact ⟨_, rfl, e⟩
  · cases e
theorem on2_ok {f : W → W → Option W} {ws : List W} {w : W} (e : on2 f ws = some w) : ∃ a b, ws = [a, b] ∧ f a b = some w := by
  unfold on2 at e
  split at e
  · exact ⟨_, _, rfl, e⟩
  · cases e
theorem blt_ok (b : Bt) (hc : X.calm = true) (hg : X.A.guards = some []) (hu : X.A.units + 70 < cLine) : CallR X b.val (rBlt X.K b) := by
  intro pins s σ H xs us Q I rx q
  obtain ⟨F, ι, h, ws, w, hr, ra, e, bh⟩ := q
  cases b with
  | len =>
    obtain ⟨a, rfl, e1⟩ := on1_ok e
    clear e
    have e := e1
    clear e1
    obtain ⟨x, rfl, rn⟩ := ra.one
    cases z : lenW a with
    | none => rw [z] at e; cases e
    | some n =>
      rw [z] at e
      cases e
      exact call_len pins s σ H _ us Q I rx ⟨x, n, rfl, lenV_of hr.sub rn z, bh.now hr (.int _)⟩
  | abs =>
    obtain ⟨a, rfl, e1⟩ := on1_ok e
    clear e
    have e := e1
    clear e1
    obtain ⟨x, rfl, rn⟩ := ra.one
    unfold absW at e
    split at e
    · cases e
      cases rn.int
      exact call_abs pins s σ H _ us Q I rx ⟨_, rfl, bh.now hr (.int _)⟩
    · cases e
  | max =>
    obtain ⟨a, c, rfl, e1⟩ := on2_ok e
    clear e
    have e := e1
    clear e1
    obtain ⟨x, y, rfl, rn, rm⟩ := ra.two
    obtain ⟨i, j, rfl, rfl, e⟩ := intsW_ok e
    cases e
    cases rn.int; cases rm.int
    exact call_max2 hc pins s σ H _ us Q I rx ⟨_, _, rfl, bh.now hr (.int _)⟩
  | min =>
    obtain ⟨a, c, rfl, e1⟩ := on2_ok e
    clear e
    have e := e1
    clear e1
    obtain ⟨x, y, rfl, rn, rm⟩ := ra.two
    obtain ⟨i, j, rfl, rfl, e⟩ := intsW_ok e
    cases e
    cases rn.int; cases rm.int
    exact call_min2 hc pins s σ H _ us Q I rx ⟨_, _, rfl, bh.now hr (.int _)⟩
  | int =>
    obtain ⟨a, rfl, e1⟩ := on1_ok e
    clear e
    have e := e1
    clear e1
    obtain ⟨x, rfl, rn⟩ := ra.one
    unfold intW at e
    split at e
    · cases e
      cases rn.int
      exact call_int1 pins s σ H _ us Q I rx (.inl ⟨_, rfl, bh.now hr (.int _)⟩)
    · cases e
      have r2 := rn.rv (fun _ z => by cases z)
      cases r2
      exact call_int1 pins s σ H _ us Q I rx (.inr ⟨_, rfl, bh.now hr (.int _)⟩)
    · cases e
  | divmod =>
    obtain ⟨a, c, rfl, e1⟩ := on2_ok e
    clear e
    have e := e1
    clear e1
    obtain ⟨x, y, rfl, rn, rm⟩ := ra.two
    obtain ⟨i, j, rfl, rfl, e⟩ := intsW_ok e
    obtain ⟨z, rfl⟩ := ifB_ok e
    obtain ⟨z1, z2⟩ := and_ok z
    cases rn.int; cases rm.int
    exact call_divmod pins s σ H _ us Q I rx ⟨_, _, rfl, ⟨of_decide_eq_true z1, of_decide_eq_true z2⟩, fun p hp => bh.tup hr (.cons (.int _) (.cons (.int _) .nil)) hp⟩
  | repr =>
    obtain ⟨a, rfl, e1⟩ := on1_ok e
    clear e
    have e := e1
    clear e1
    obtain ⟨x, rfl, rn⟩ := ra.one
    cases z : reprW a with
    | none => rw [z] at e; cases e
    | some t =>
      rw [z] at e
      cases e
      unfold reprW at z
      cases z1 : a.dat with
      | none => rw [z1] at z; cases z
      | some d =>
        rw [z1] at z
        dsimp only at z
        split at z
        · rename_i z2
          cases z
          obtain ⟨z3, z4⟩ := and_ok z2
          obtain ⟨z4, z5⟩ := and_ok z4
          cases rx with
          | cons r1 r2 =>
            cases r2
            exact repr_ok I r1 (rn.dat hr.sub z1) z3 (of_decide_eq_true z4) (lineN_ok z5) (dat_nodict z1) hg hu (bh.now hr (.str _))
        · cases z
  | all =>
    obtain ⟨a, rfl, e1⟩ := on1_ok e
    clear e
    have e := e1
    clear e1
    obtain ⟨x, rfl, rn⟩ := ra.one
    unfold allW at e
    split at e
    · rename_i ws'
      cases z : bools ws' with
      | none => rw [z] at e; cases e
      | some bs =>
        rw [z] at e
        cases e
        obtain ⟨p, vs, rfl, e2, rv⟩ := rn.lst hr.sub
        rw [rv.bls z] at e2
        exact cr_all hc pins s σ H _ us Q I rx ⟨p, bs, rfl, .inl (.inl e2), bh.now hr (.bl _)⟩
    · cases e
  | list =>
    obtain ⟨a, rfl, e1⟩ := on1_ok e
    clear e
    have e := e1
    clear e1
    obtain ⟨x, rfl, rn⟩ := ra.one
    have go : ∀ {ws : List W}, a.items = some ws → w = .lst ws → wpAny (model X.prog X.w) X.A (call (.type "list") us) (EP X pins σ Q) X.xe s := fun {ws} hi ew => by
      obtain ⟨p, vs, rfl, sq, rv⟩ := rn.items hr.sub hi
      subst ew
      exact call_list_of pins s σ H _ us Q I rx ⟨p, vs, rfl, sq, fun l hl => bh.lst hr rv hl⟩
    unfold listW at e
    split at e
    · cases e; exact go rfl rfl
    · cases e; exact go rfl rfl
    · cases e
  | tuple =>
    obtain ⟨a, rfl, e1⟩ := on1_ok e
    clear e
    have e := e1
    clear e1
    obtain ⟨x, rfl, rn⟩ := ra.one
    unfold tupleW at e
    split at e
    · cases e
      obtain ⟨p, vs, rfl, e2, rv⟩ := rn.lst hr.sub
      exact call_tuple_of pins s σ H _ us Q I rx ⟨p, vs, rfl, .inl ⟨.inl (.inl e2), fun l hl => bh.tup hr rv hl⟩⟩
    · cases e
      have r2 := rn.rv (fun _ z => by cases z)
      cases r2 with
      | tup sq rv => exact call_tuple_of pins s σ H _ us Q I rx ⟨_, _, rfl, .inr ⟨sqT_mono hr.sub sq, bh.now hr (.tup sq rv)⟩⟩
    · cases e
end
/-! ## classes of values -/
theorem kit_is : ∀ a b : Ty, kitB a.s b.s = some (isTy a b) := by
  intro a b
  cases a <;> cases b <;> decide +kernel
theorem tyX_of {K : PySem.W.Frag} {F : Hp} {ι : List Addr} {H : Hp} {h : Obs} {w : W} {v : V} {t : Ty} (hr : HR K F ι h H) (r : RV K F ι w v) (e : tyW h w = some t) : TyX K H v (.type t.s) := by
  cases r with
  | non => cases e; exact .base .non
  | bl b => cases e; exact .base (.bl b)
  | int i => cases e; exact .base (.int i)
  | str s => cases e; exact .base (.str s)
  | ty n => cases e
  | tup sq rv =>
    cases e
    rcases sqT_mono hr.sub sq with (q | ⟨o, q⟩) | ⟨o, its, n, q, c, _⟩
    · exact .base (.tup q)
    · exact .fTuple q
    · exact .kTuple q c
  | lst q rv =>
    cases e
    exact .base (.lst (hr.sub _ _ q))
  | emp q =>
    cases e
    exact .base (.dK (hr.sub _ _ q))
  | scr sq =>
    cases e
    rcases sqL_mono hr.sub sq with (q | ⟨o, q⟩) | ⟨o, its, n, q, c, _⟩
    · exact .base (.lst q)
    · exact .base (.frz q)
    · exact .kList q c
  | @ref n a q =>
    unfold tyW at e
    split at e <;> first | (rename_i z; cases z; done) | skip
    all_goals first | (cases e; done) | skip
    rename_i m heq
    cases heq
    split at e
    · rename_i us z
      cases e
      obtain ⟨_, vs, e2, _⟩ := hr.ob _ a _ q z
      exact .base (.lst e2)
    · cases e
end Ev

namespace Ev
open PySem PySem.Spec PyProof.Rows L2

/-! ## what an expression's rule is asked -/
structure Bx where
  K : PySem.W.Frag
  mg : Str → Option Value
  e0 : Ent
  W : WX
/-- an exception as it flies: its class, its own dict -/
def RX (K : PySem.W.Frag) (mg : Str → Option Value) (F : Hp) (ι : List Addr) (x : Ex) (cls : Value) (d : Option Addr) : Prop :=
  ∃ C, mg x.cls = some (.ref C) ∧ cls = .ref C ∧ match d with
    | none => x.fs = []
    | some dd => ∃ fs, F dd = some (.xd fs) ∧ x.fs ≠ [] ∧ ∀ f w, x.fs.lookup f = some w → ∃ v, fs.lookup f = some v ∧ RV K F ι w v
abbrev Bx.J (b : Bx) := Ev.J b.K b.e0
/-- an answer's wish -/
def Po {α β : Type} (b : Bx) (F : Hp) (ι : List Addr) (sl : Sls) (σ : VS) (rel : Hp → List Addr → α → β → Prop) (r : R α) (Q : β → Hp → Prop) : Prop := match r with
  | .ok a h' => ∀ F' ι' H' v, Le F ι F' ι' → b.J F' ι' sl h' σ H' → rel F' ι' a v → Q v H'
  | .exc x h' => ∀ F' ι' H' cls d, Le F ι F' ι' → b.J F' ι' sl h' σ H' → RX b.K b.mg F' ι' x cls d → b.W cls d σ H'
  | .bad => False
section
variable {α β γ δ : Type} {b : Bx} {F F' F1 : Hp} {ι ι' ι1 : List Addr} {sl : Sls} {σ : VS}
theorem Po.le {rel : Hp → List Addr → α → β → Prop} {r : R α} {Q : β → Hp → Prop} (p : Po b F ι sl σ rel r Q) (l : Le F ι F1 ι1) : Po b F1 ι1 sl σ rel r Q := by
  cases r with
  | ok a h => exact fun F' ι' H' v l2 j q => p F' ι' H' v (l.trans l2) j q
  | exc x h => exact fun F' ι' H' cls d l2 j q => p F' ι' H' cls d (l.trans l2) j q
  | bad => exact p
/-- one behind another -/
theorem Po.bind {rel : Hp → List Addr → α → β → Prop} {rel2 : Hp → List Addr → γ → δ → Prop} {r : R α} {f : α → Obs → R γ} {Q : δ → Hp → Prop} {Q1 : β → Hp → Prop} (p : Po b F ι sl σ rel2 (r.bind f) Q)
    (k : ∀ a h1 F1 ι1 H1 v, Le F ι F1 ι1 → b.J F1 ι1 sl h1 σ H1 → rel F1 ι1 a v → Po b F1 ι1 sl σ rel2 (f a h1) Q → Q1 v H1) : Po b F ι sl σ rel r Q1 := by
  cases r with
  | ok a h => exact fun F1 ι1 H1 v l j q => k a h F1 ι1 H1 v l j q (Po.le (show Po b F ι sl σ rel2 (f a h) Q from p) l)
  | exc x h => exact p
  | bad => exact p
theorem Po.ret {rel : Hp → List Addr → α → β → Prop} {a : α} {h : Obs} {H : Hp} {v : β} {Q : β → Hp → Prop} (p : Po b F ι sl σ rel (.ok a h) Q) (j : b.J F ι sl h σ H) (r : rel F ι a v) : Q v H := p F ι H v .refl j r
/-- an answer that there is, or none -/
theorem Po.opt {rel : Hp → List Addr → α → β → Prop} {o : Option α} {h : Obs} {Q : β → Hp → Prop} (p : Po b F ι sl σ rel (.opt o h) Q) : ∃ a, o = some a ∧ Po b F ι sl σ rel (.ok a h) Q := by
  cases o with
  | none => exact False.elim p
  | some a => exact ⟨a, rfl, p⟩
theorem Po.imp {rel rel2 : Hp → List Addr → α → β → Prop} {r : R α} {Q : β → Hp → Prop} (p : Po b F ι sl σ rel r Q) (i : ∀ F ι a v, rel2 F ι a v → rel F ι a v) : Po b F ι sl σ rel2 r Q := by
  cases r with
  | ok a h => exact fun F' ι' H' v l j q => p F' ι' H' v l j (i _ _ _ _ q)
  | exc x h => exact p
  | bad => exact p
end
/-- what one asks with: a context, a wish of exceptions, an entry -/
abbrev bx (X : Cx) (W : WX) (e0 : Ent) : Bx := ⟨X.K, X.mg, e0, W⟩
/-- the readings -/
def tE (X : Cx) (V : WX) (k : Bool) (m : Sls → Obs → R W) : TE := fun σ H Q => ∃ e0 F ι sl h, J X.K e0 F ι sl h σ H ∧ Po (bx X V e0) F ι sl σ (RKd X.K sl σ k) (m sl h) Q
def tT (X : Cx) (W : WX) (m : Sls → Obs → R Bool) : TT := fun σ H Q => ∃ e0 F ι sl h, J X.K e0 F ι sl h σ H ∧ Po (bx X W e0) F ι sl σ (fun _ _ a v => a = v) (m sl h) Q
inductive RKs (K : PySem.W.Frag) (sl : Sls) (σ : VS) (k : Bool) (F : Hp) (ι : List Addr) : List W → List V → Prop
  | nil : RKs K sl σ k F ι [] []
  | cons {w : W} {v : V} {ws : List W} {vs : List V} : RKd K sl σ k F ι w v → RKs K sl σ k F ι ws vs → RKs K sl σ k F ι (w :: ws) (v :: vs)
def tA (X : Cx) (V : WX) (k : Bool) (m : Sls → Obs → R (List W)) : TA := fun σ H Q => ∃ e0 F ι sl h, J X.K e0 F ι sl h σ H ∧ Po (bx X V e0) F ι sl σ (RKs X.K sl σ k) (m sl h) Q
def tI (X : Cx) (W : WX) (m : Sls → Obs → R (Option Int)) : TO := fun σ H Q => ∃ e0 F ι sl h, J X.K e0 F ι sl h σ H ∧ Po (bx X W e0) F ι sl σ (fun _ _ a v => a = v) (m sl h) Q
section
variable {K : PySem.W.Frag} {sl : Sls} {σ : VS} {k : Bool} {F F' : Hp} {ι ι' : List Addr}
theorem RKd.mono (l : Le F ι F' ι') {w : W} {v : V} (r : RKd K sl σ k F ι w v) : RKd K sl σ k F' ι' w v := by
  cases k with
  | true => exact ROp.mono l r
  | false => exact RV.mono l r
theorem RKd.op {w : W} {v : V} (r : RKd K sl σ k F ι w v) : ROp K sl σ F ι w v := by
  cases k with
  | true => exact r
  | false => exact .inl r
theorem RKs.rvs : ∀ {ws : List W} {vs : List V}, RKs K sl σ false F ι ws vs → RVs K F ι ws vs
  | _, _, .nil => .nil
  | _, _, .cons r t => .cons r (RKs.rvs t)
theorem RKs.of : ∀ {ws : List W} {vs : List V}, RVs K F ι ws vs → RKs K sl σ false F ι ws vs
  | _, _, .nil => .nil
  | _, _, .cons r t => .cons r (RKs.of t)
theorem RKs.rns {e0 : Ent} {h : Obs} {H : Hp} (j : J K e0 F ι sl h σ H) : ∀ {ws : List W} {vs : List V}, RKs K sl σ k F ι ws vs → RNs K F ι H (ws.map (W.now h)) vs
  | _, _, .nil => .nil
  | _, _, .cons r t => .cons (j.now r.op) (RKs.rns j t)
end
section
variable {X : Cx} {e : Expr} {es : List Expr}
theorem PE.imp {t t' : TE} (h : PE X e t) (i : ∀ σ H Q, t' σ H Q → t σ H Q) : PE X e t' := ⟨fun pins s σ H Q I hw => h.run pins s σ H Q I (i σ H Q hw)⟩
theorem PE.never {t : TE} (n : ∀ σ H Q, ¬ t σ H Q) : PE X e t := ⟨fun pins s σ H Q I hw => absurd hw (n σ H Q)⟩
theorem PT.imp {t t' : TT} (h : PT X e t) (i : ∀ σ H Q, t' σ H Q → t σ H Q) : PT X e t' := ⟨fun pins s σ H Q I hw => h.run pins s σ H Q I (i σ H Q hw)⟩
theorem PT.never {t : TT} (n : ∀ σ H Q, ¬ t σ H Q) : PT X e t := ⟨fun pins s σ H Q I hw => absurd hw (n σ H Q)⟩
theorem PW.imp {t t' : TT} (h : PW X e t) (i : ∀ σ H Q, t' σ H Q → t σ H Q) : PW X e t' := ⟨fun wh pins s σ H Q I hw => h.run wh pins s σ H Q I (i σ H Q hw)⟩
theorem PA.imp {t t' : TA} (h : PA X es t) (i : ∀ σ H Q, t' σ H Q → t σ H Q) : PA X es t' := ⟨fun pos pins s σ H Q I hw => h.run pos pins s σ H Q I (i σ H Q hw)⟩
theorem PO.imp {o : Option Expr} {t t' : TO} (h : PO X o t) (i : ∀ σ H Q, t' σ H Q → t σ H Q) : PO X o t' := ⟨fun pins s σ H Q I hw => h.run pins s σ H Q I (i σ H Q hw)⟩
end

/-! ## what the syntax asks of a scope -/
def visB (sc : Scope) (x : Str) : Bool := match sc.names.lookup x with
  | some .local => true | some .cell => true | some .free => true | _ => false
def glB (sc : Scope) (x : Str) : Bool := match sc.names.lookup x with
  | some .globalImplicit => true | _ => false
def nmB (x : Str) : Bool := !(x == ("__debug__" : Str)) && !(x == ("__classdict__" : Str))
def slotB (N : List Str) (sc : Scope) (x : Str) (i : Nat) : Bool := decide (N[i]? = some x) && (visB sc x && nmB x)
def locB (sc : Scope) (x : Str) : Bool := match sc.names.lookup x with
  | some .local => true | _ => false
theorem visB_ok {sc : Scope} {x : Str} (h : visB sc x = true) : Vis sc x := by
  unfold visB at h
  split at h
  · exact .inl (by assumption)
  · exact .inr (.inl (by assumption))
  · exact .inr (.inr (by assumption))
  · cases h
theorem locB_ok {sc : Scope} {x : Str} (h : locB sc x = true) : sc.names.lookup x = some .local := by
  unfold locB at h
  split at h
  · assumption
  · cases h
theorem glB_ok {sc : Scope} {x : Str} (h : glB sc x = true) : sc.names.lookup x = some .globalImplicit := by
  unfold glB at h
  split at h
  · assumption
  · cases h
theorem nmB_ok {x : Str} (h : nmB x = true) : (x == ("__debug__" : Str)) = false ∧ (x == ("__classdict__" : Str)) = false := by
  obtain ⟨a, b⟩ := and_ok h
  exact ⟨by simpa using a, by simpa using b⟩
/-- an expression whose truth is asked of its value -/
def E.plainT : E → Bool
  | .not .. => false | .notV .. => false | .bop .. => false | .cmp .. => false | .chain .. => false | .ife .. => false | .tr .. => false
  | _ => true
def Es.isNil : Es → Bool
  | .nil => true
  | _ => false
def Ks.isNil : Ks → Bool
  | .nil => true
  | _ => false
def Ty.isB : Ty → Bool
  | .non => false
  | _ => true
/-- a target of an unpacked pair, where the iterator asks for one -/
def tgIt : Tg → It → Bool
  | .tup .., _ => true
  | _, .seq _ => true
  | _, .rng .. => true
  | _, _ => false
structure Oc where
  N : List Str
  fs : Nat → Option Str
  /-- calls with keywords: the def, how many come without, the names -/
  kws : List (Nat × Nat × List Str) := []
def Es.len : Es → Nat
  | .nil => 0
  | .cons _ es => es.len + 1
def Ks.names : Ks → List Str
  | .nil => []
  | .cons x _ _ ks => x :: ks.names
mutual
def E.okE (c : Oc) (sc : Scope) : E → Bool
  | .name x i _ => slotB c.N sc x i
  | .peek x i _ => slotB c.N sc x i
  | .cst x _ => glB sc x && nmB x
  | .tr e => e.plainT && e.okE c sc
  | .int .. => true | .str .. => true | .bl .. => true | .non .. => true | .emp .. => true
  | .tup es _ _ => es.okE c sc
  | .lst es _ => es.okE c sc
  | .lstH es _ => es.okE c sc
  | .bin _ a b _ => a.okE c sc && b.okE c sc
  | .neg a _ => a.okE c sc
  | .not a _ => a.okE c sc
  | .notV a _ => a.okE c sc
  | .bop _ es _ => es.okE c sc
  | .cmp _ a b _ => a.okE c sc && b.okE c sc
  | .chain _ _ a b d _ => a.okE c sc && (b.okE c sc && d.okE c sc)
  | .ife t a b _ => t.okE c sc && (a.okE c sc && b.okE c sc)
  | .call f x _ es _ => decide (c.fs f = some x) && (glB sc x && (nmB x && es.okE c sc))
  | .callK f x _ es ks _ => decide (c.fs f = some x) && (glB sc x && (nmB x && (decide ((f, es.len, ks.names) ∈ c.kws) && (es.okE c sc && ks.okE c sc))))
  | .blt b _ es _ => glB sc b.nm && (!es.isNil && es.okE c sc)
  | .isi a t _ _ _ => glB sc "isinstance" && (glB sc t.nm && (t.isB && a.okE c sc))
  | .isiT a t _ u _ _ _ _ _ => glB sc "isinstance" && (glB sc t.nm && (t.isB && (glB sc u.nm && (u.isB && a.okE c sc))))
  | .sub a i _ => a.okE c sc && i.okE c sc
  | .slc a lo hi _ _ => a.okE c sc && (lo.okE c sc && hi.okE c sc)
  | .lc e tg it t vs cs _ => blkC c.N sc cs vs && (tgIt tg it && (it.okE c sc && (tg.okC c (relS cs sc) (vs.map (·.2)) && (e.okE c (relS cs sc) && t.okE c (relS cs sc)))))
def Es.okE (c : Oc) (sc : Scope) : Es → Bool
  | .nil => true
  | .cons e es => e.okE c sc && es.okE c sc
def Eo.okE (c : Oc) (sc : Scope) : Eo → Bool
  | .non => true
  | .some e => e.okE c sc
def Ks.okE (c : Oc) (sc : Scope) : Ks → Bool
  | .nil => true
  | .cons _ e _ ks => e.okE c sc && ks.okE c sc
/-- a comprehension's target: names of the block alone -/
def Tg.okC (c : Oc) (sc : Scope) (vs : List Nat) : Tg → Bool
  | .name x i _ => decide (c.N[i]? = some x) && (locB sc x && decide (i ∈ vs))
  | .tup ts _ _ => ts.okC c sc vs
  | .sub .. => false
def Tgs.okC (c : Oc) (sc : Scope) (vs : List Nat) : Tgs → Bool
  | .nil => true
  | .cons t ts => t.okC c sc vs && ts.okC c sc vs
def It.okE (c : Oc) (sc : Scope) : It → Bool
  | .seq e => e.okE c sc
  | .rng _ es _ => glB sc "range" && es.okE c sc
  | .enum _ e _ => glB sc "enumerate" && e.okE c sc
  | .zip _ a b _ => glB sc "zip" && (a.okE c sc && b.okE c sc)
end

/-! ## the syntax has none of the odd forms -/
section
variable {env : Env}
theorem star_un : ∀ (c : E) (es : List Expr), starEach (c.un :: es) env = (false, PySem.eval c.un env) :: starEach es env
  | .tr e, es => star_un e es
  | .name .., _ | .peek .., _ | .cst .., _ | .int .., _ | .str .., _ | .bl .., _ | .non .., _ | .tup .., _ | .lst .., _ | .lstH .., _ | .emp .., _ | .bin .., _ | .neg .., _ | .not .., _ | .notV .., _ | .bop .., _ | .cmp .., _ | .chain .., _ | .ife .., _ | .call .., _ | .callK .., _ | .blt .., _ | .isi .., _ | .isiT .., _ | .sub .., _ | .slc .., _ | .lc .., _ => rfl
theorem marks_un (op : CmpOp) : ∀ (c : E), behindInMarks op c.un = false
  | .tr e => marks_un op e
  | .name .. | .peek .. | .cst .. | .int .. | .str .. | .bl .. | .non .. | .tup .. | .lst .. | .lstH .. | .emp .. | .bin .. | .neg .. | .not .. | .notV .. | .bop .. | .cmp .. | .chain .. | .ife .. | .call .. | .callK .. | .blt .. | .isi .. | .isiT .. | .sub .. | .slc .. | .lc .. => rfl
theorem plainIx_un : ∀ (c : E) (o i : Value), subscripted c.un false o i = operate [o, i] (getItem o i)
  | .tr e, o, i => plainIx_un e o i
  | .name .., _, _ | .peek .., _, _ | .cst .., _, _ | .int .., _, _ | .str .., _, _ | .bl .., _, _ | .non .., _, _ | .tup .., _, _ | .lst .., _, _ | .lstH .., _, _ | .emp .., _, _ | .bin .., _, _ | .neg .., _, _ | .not .., _, _ | .notV .., _, _ | .bop .., _, _ | .cmp .., _, _ | .chain .., _, _ | .ife .., _, _ | .call .., _, _ | .callK .., _, _ | .blt .., _, _ | .isi .., _, _ | .isiT .., _, _ | .sub .., _, _ | .slc .., _, _ | .lc .., _, _ => rfl
theorem isTrue_un : ∀ (c : E), c.plainT = true → ∀ whole, isTrue c.un env whole = (do let v ← whole; standAt c.un.pos; holding [v] (truthy v))
  | .tr e, h, _ => by cases h
  | .not .., h, _ | .notV .., h, _ | .bop .., h, _ | .cmp .., h, _ | .chain .., h, _ | .ife .., h, _ => by cases h
  | .name .., _, _ | .peek .., _, _ | .cst .., _, _ | .int .., _, _ | .str .., _, _ | .bl .., _, _ | .non .., _, _ | .tup .., _, _ | .lst .., _, _ | .lstH .., _, _ | .emp .., _, _ | .bin .., _, _ | .neg .., _, _ | .call .., _, _ | .callK .., _, _ | .blt .., _, _ | .isi .., _, _ | .isiT .., _, _ | .sub .., _, _ | .slc .., _, _ | .lc .., _, _ => rfl
theorem folded_un : ∀ (c : E) (x : Value), foldedSetIterable c.un env x = pure x
  | .tr e, x => folded_un e x
  | .name .., _ | .peek .., _ | .cst .., _ | .int .., _ | .str .., _ | .bl .., _ | .non .., _ | .tup .., _ | .lst .., _ | .lstH .., _ | .emp .., _ | .bin .., _ | .neg .., _ | .not .., _ | .notV .., _ | .bop .., _ | .cmp .., _ | .chain .., _ | .ife .., _ | .call .., _ | .callK .., _ | .blt .., _ | .isi .., _ | .isiT .., _ | .sub .., _ | .slc .., _ | .lc .., _ => rfl
theorem foldedI_un (t : It) (x : Value) : foldedSetIterable t.un env x = pure x := by
  cases t with
  | seq e => exact folded_un e x
  | rng _ _ _ => rfl
  | enum _ _ _ => rfl
  | zip _ _ _ _ => rfl
theorem plain_un (pos : Pos) : ∀ (es : Es), (backTo pos (starEach es.un env)).any (·.1) = false
  | .nil => rfl
  | .cons e es => by
    show (backTo pos (starEach (e.un :: es.un) env)).any (·.1) = false
    rw [star_un e es.un]
    have ih := plain_un pos es
    unfold backTo at ih ⊢
    rw [List.map_cons, List.any_cons, ih]
    rfl
end
end Ev

namespace Ev
open PySem PySem.Spec PyProof.Rows L2

/-! ## slots set and forgotten, things held -/
/-- p stands alone: a new list that nobody has yet -/
structure Nw (e0 : Ent) (F : Hp) (ι : List Addr) (sl : Sls) (σ : VS) (H : Hp) (p : Addr) (vs : List V) : Prop where
  at_ : H p = some (.lst vs)
  f : F p = none
  i : p ∉ ι
  o : e0.H p = none
  hd : e0.hold p = none
  sl : ∀ (i : Nat) (ws : List W), sl[i]? = some (.own ws) → σ[i]? ≠ some (some (.ref p))
section
variable {K : PySem.W.Frag} {e0 : Ent} {F F' : Hp} {ι ι' : List Addr} {sl : Sls} {h h' : Obs} {σ : VS} {H H' : Hp}
theorem HR.notin (r : HR K F ι h H) {p : Addr} (hp : H p = none) : F p = none ∧ p ∉ ι := by
  refine ⟨?_, fun hm => ?_⟩
  · cases q : F p with
    | none => rfl
    | some o =>
      have z := r.sub _ _ q
      rw [hp] at z; cases z
  · obtain ⟨n, hn, e⟩ := List.mem_iff_getElem.mp hm
    have e1 : ι[n]? = some p := by rw [List.getElem?_eq_getElem hn, e]
    have hl : n < h.length := by rw [← r.len]; exact hn
    obtain ⟨_, q⟩ := r.ob n p _ e1 (List.getElem?_eq_getElem hl)
    cases z : h[n] with
    | lst ws =>
      rw [z] at q
      obtain ⟨vs, e2, _⟩ := q
      rw [hp] at e2; cases e2
theorem J.none0 (j : J K e0 F ι sl h σ H) {p : Addr} (hp : H p = none) : e0.H p = none ∧ e0.hold p = none ∧ ∀ (i : Nat) (ws : List W), sl[i]? = some (.own ws) → σ[i]? ≠ some (some (.ref p)) := by
  refine ⟨?_, ?_, fun i ws e z => ?_⟩
  · cases q : e0.H p with
    | none => rfl
    | some o => exact absurd hp (j.xt.d p (by rw [q]; simp))
  · cases q : e0.hold p with
    | none => rfl
    | some o =>
      have z := (j.hd p o q).1
      rw [hp] at z; cases z
  · obtain ⟨p', vs, e1, e2, _⟩ := j.at_ i _ e
    rw [z] at e1
    cases e1
    rw [hp] at e2; cases e2
/-- a list just laid is new -/
theorem J.nw (j : J K e0 F ι sl h σ H) {p : Addr} {vs : List V} (hp : H p = none) : Nw e0 F ι sl σ (upd H p (.lst vs)) p vs :=
  ⟨upd_same, (j.hr.notin hp).1, (j.hr.notin hp).2, (j.none0 hp).1, (j.none0 hp).2.1, (j.none0 hp).2.2⟩
/-- .. is given away, never to change again -/
theorem J.frz {p : Addr} {vs : List V} (j : J K e0 F ι sl h σ H) (n : Nw e0 F ι sl σ H p vs) : J K e0 (upd F p (.lst vs)) ι sl h σ H ∧ Le F ι (upd F p (.lst vs)) ι := by
  have fne : ∀ a o, F a = some o → a ≠ p := fun a o e z => by rw [z, n.f] at e; cases e
  have le : Le F ι (upd F p (.lst vs)) ι := ⟨fun a o e => by rw [upd_ne (fne a o e)]; exact e, [], by simp⟩
  refine ⟨⟨⟨fun a o e => ?_, j.hr.len, j.hr.nd, fun m a o e1 e2 => ?_⟩, ⟨j.xt.le.trans le, j.xt.h, fun a e => ?_, j.xt.m, j.xt.d⟩, j.len, fun i s e => ?_, j.ap, fun a o e => ?_⟩, le⟩
  · by_cases hn : a = p
    · rw [hn, upd_same] at e; rw [hn, n.at_]; exact e
    · rw [upd_ne hn] at e; exact j.hr.sub a o e
  · obtain ⟨fn, q⟩ := j.hr.ob m a o e1 e2
    have hn : a ≠ p := fun z => n.i (z ▸ List.mem_of_getElem? e1)
    rw [upd_ne hn]
    exact ⟨fn, q.mono le⟩
  · by_cases hn : a = p
    · rw [hn]; exact .inr n.o
    · rw [upd_ne hn] at e; exact j.xt.n a e
  · have q := j.at_ i s e
    cases s with
    | non => trivial
    | val w =>
      obtain ⟨v, e1, rv⟩ := q
      exact ⟨v, e1, rv.mono le⟩
    | own ws =>
      obtain ⟨p', us, e1, e2, rv, fn, ni, n0⟩ := q
      have hn : p' ≠ p := fun z => n.sl i ws e (z ▸ e1)
      exact ⟨p', us, e1, e2, rv.mono le, by rw [upd_ne hn]; exact fn, ni, n0⟩
  · obtain ⟨e1, e2, e3, e4⟩ := j.hd a o e
    have hn : a ≠ p := fun z => by rw [z, n.hd] at e; cases e
    exact ⟨e1, by rw [upd_ne hn]; exact e2, e3, e4⟩
/-- a name is given a value -/
theorem J.setV {i : Nat} {w : W} {v : V} (j : J K e0 F ι sl h σ H) (r : RV K F ι w v) : J K e0 F ι (sl.set i (.val w)) h (σ.set i (some v)) H where
  hr := j.hr
  xt := j.xt
  len := by rw [List.length_set, List.length_set, j.len]
  at_ := fun k s e => by
    by_cases hk : i = k
    · subst hk
      by_cases hl : i < sl.length
      · rw [List.getElem?_set_self hl] at e
        cases e
        exact ⟨v, by rw [List.getElem?_set_self (by rw [← j.len]; exact hl)], r⟩
      · rw [List.getElem?_eq_none (by simpa using hl)] at e; cases e
    · rw [List.getElem?_set_ne hk] at e ⊢
      exact j.at_ k s e
  ap := fun k l ws us p e1 e2 e3 e4 => by
    have nk : ∀ (k : Nat) (ws : List W), (sl.set i (.val w))[k]? = some (.own ws) → i ≠ k := fun k ws e z => by
      subst z
      by_cases hl : i < sl.length
      · rw [List.getElem?_set_self hl] at e; cases e
      · rw [List.getElem?_eq_none (by simpa using hl)] at e; cases e
    have n1 := nk k ws e1
    have n2 := nk l us e2
    rw [List.getElem?_set_ne n1] at e1 e3
    rw [List.getElem?_set_ne n2] at e2 e4
    exact j.ap k l ws us p e1 e2 e3 e4
  hd := fun a o e => by
    obtain ⟨e1, e2, e3, e4⟩ := j.hd a o e
    refine ⟨e1, e2, e3, fun k ws q => ?_⟩
    have hk : i ≠ k := fun z => by
      subst z
      by_cases hl : i < sl.length
      · rw [List.getElem?_set_self hl] at q; cases q
      · rw [List.getElem?_eq_none (by simpa using hl)] at q; cases q
    rw [List.getElem?_set_ne hk] at q ⊢
    exact e4 k ws q
/-- slots are forgotten -/
theorem J.wk {sl' : Sls} {σ' : VS} (j : J K e0 F ι sl h σ H) (hl : sl'.length = σ'.length) (w : ∀ (i : Nat) (s : Sl), sl'[i]? = some s → s = .non ∨ (sl[i]? = some s ∧ σ'[i]? = σ[i]?)) : J K e0 F ι sl' h σ' H where
  hr := j.hr
  xt := j.xt
  len := hl
  at_ := fun i s e => by
    rcases w i s e with rfl | ⟨e1, e2⟩
    · trivial
    · rw [e2]; exact j.at_ i s e1
  ap := fun k l ws us p e1 e2 e3 e4 => by
    rcases w k _ e1 with z | ⟨a1, a2⟩
    · cases z
    rcases w l _ e2 with z | ⟨b1, b2⟩
    · cases z
    exact j.ap k l ws us p a1 b1 (a2 ▸ e3) (b2 ▸ e4)
  hd := fun a o e => by
    obtain ⟨e1, e2, e3, e4⟩ := j.hd a o e
    refine ⟨e1, e2, e3, fun k ws q => ?_⟩
    rcases w k _ q with z | ⟨a1, a2⟩
    · cases z
    rw [a2]
    exact e4 k ws a1
theorem wipeS_length (σ : Sls) : ∀ vs : List Nat, (wipeS σ vs).length = σ.length
  | [] => rfl
  | v :: vs => by
    show ((wipeS σ vs).set v .non).length = _
    rw [List.length_set, wipeS_length σ vs]
theorem wipeS_get {σ : Sls} {i : Nat} {s : Sl} : ∀ {vs : List Nat}, (wipeS σ vs)[i]? = some s → s = .non ∨ (σ[i]? = some s ∧ i ∉ vs)
  | [], h => .inr ⟨h, by simp⟩
  | v :: vs, h => by
    have h : ((wipeS σ vs).set v .non)[i]? = some s := h
    by_cases hi : v = i
    · subst hi
      by_cases hv : v < (wipeS σ vs).length
      · rw [List.getElem?_set_self hv] at h; cases h; exact .inl rfl
      · rw [List.getElem?_eq_none (by simpa using hv)] at h; cases h
    · rw [List.getElem?_set_ne hi] at h
      rcases wipeS_get h with z | ⟨h1, h2⟩
      · exact .inl z
      · exact .inr ⟨h1, by simp only [List.mem_cons, not_or]; exact ⟨fun e => hi e.symm, h2⟩⟩
theorem wipeS_out {σ : Sls} {i : Nat} : ∀ {vs : List Nat}, i ∉ vs → (wipeS σ vs)[i]? = σ[i]?
  | [], _ => rfl
  | v :: vs, h => by
    simp only [List.mem_cons, not_or] at h
    show ((wipeS σ vs).set v .non)[i]? = _
    rw [List.getElem?_set_ne (fun e => h.1 e.symm), wipeS_out h.2]
theorem J.wipe (vs : List Nat) (j : J K e0 F ι sl h σ H) : J K e0 F ι (wipeS sl vs) h (L2.wipe σ vs) H := j.wk (by rw [wipeS_length, wipe_length, j.len]) fun i s e => by
  rcases wipeS_get e with z | ⟨h1, h2⟩
  · exact .inl z
  · exact .inr ⟨h1, wipe_out h2⟩
theorem noOwn_ok {sl : Sls} : ∀ {vs : List Nat}, noOwn sl vs = true → ∀ i ∈ vs, ∀ ws, sl[i]? ≠ some (.own ws)
  | [], _, i, hi, _ => by cases hi
  | v :: vs, h, i, hi, ws => by
    unfold noOwn at h
    split at h
    · cases h
    · rename_i hn
      rcases List.mem_cons.mp hi with rfl | hi
      · exact hn ws
      · exact noOwn_ok h i hi ws
/-- behind a block: its names' old values again -/
theorem J.unwipe {vs : List Nat} (j0 : J K e0 F ι sl h σ H) (no : noOwn sl vs = true) (l : Le F ι F' ι') (j : J K e0 F' ι' (wipeS sl vs) h' (L2.wipe σ vs) H') : J K e0 F' ι' sl h' σ H' where
  hr := j.hr
  xt := j.xt
  len := j0.len
  at_ := fun i s e => by
    by_cases hi : i ∈ vs
    · cases s with
      | non => trivial
      | val w =>
        obtain ⟨v, e1, rv⟩ := j0.at_ i _ e
        exact ⟨v, e1, rv.mono l⟩
      | own ws => exact absurd e (noOwn_ok no i hi ws)
    · have q := j.at_ i s (by rw [wipeS_out hi]; exact e)
      rw [wipe_out hi] at q
      exact q
  ap := j0.ap
  hd := fun a o e => by
    obtain ⟨e1, e2, e3, _⟩ := j.hd a o e
    exact ⟨e1, e2, e3, (j0.hd a o e).2.2.2⟩
theorem set_back {α : Type} (v : Nat) (x : α) : ∀ (s t : List α) , s.length = t.length → (∀ i, i ≠ v → s[i]? = t[i]?) → s.set v x = t.set v x := by
  intro s t hl h
  refine List.ext_getElem? fun i => ?_
  by_cases hi : v = i
  · subst hi
    by_cases hv : v < s.length
    · rw [List.getElem?_set_self hv, List.getElem?_set_self (hl ▸ hv)]
    · rw [List.getElem?_eq_none (by simpa using hv), List.getElem?_eq_none (by simpa [← hl] using hv)]
  · rw [List.getElem?_set_ne hi, List.getElem?_set_ne hi]
    exact h i (fun e => hi e.symm)
theorem wipeS_set {sl : Sls} {i : Nat} {s : Sl} : ∀ {vs : List Nat}, i ∈ vs → wipeS (sl.set i s) vs = wipeS sl vs
  | [], h => by cases h
  | v :: vs, h => by
    show (wipeS (sl.set i s) vs).set v .non = (wipeS sl vs).set v .non
    by_cases hm : i ∈ vs
    · rw [wipeS_set hm]
    · have e : i = v := (List.mem_cons.mp h).resolve_right hm
      subst e
      refine set_back i _ _ _ (by rw [wipeS_length, wipeS_length, List.length_set]) fun k hk => ?_
      by_cases hkv : k ∈ vs
      · have go : ∀ {us : List Nat}, k ∈ us → (wipeS (sl.set i s) us)[k]? = (wipeS sl us)[k]? := fun {us} => by
          induction us with
          | nil => intro z; cases z
          | cons u us ih =>
            intro z
            show ((wipeS (sl.set i s) us).set u .non)[k]? = ((wipeS sl us).set u .non)[k]?
            by_cases hu : u = k
            · subst hu
              by_cases hl : u < sl.length
              · rw [List.getElem?_set_self (by rw [wipeS_length, List.length_set]; exact hl), List.getElem?_set_self (by rw [wipeS_length]; exact hl)]
              · rw [List.getElem?_eq_none (by simpa [wipeS_length] using hl), List.getElem?_eq_none (by simpa [wipeS_length] using hl)]
            · rw [List.getElem?_set_ne hu, List.getElem?_set_ne hu]
              exact ih ((List.mem_cons.mp z).resolve_left fun e => hu e.symm)
        exact go hkv
      · rw [wipeS_out hkv, wipeS_out hkv, List.getElem?_set_ne (fun e => hk e.symm)]
theorem wipe_set {σ : VS} {i : Nat} {s : Option V} : ∀ {vs : List Nat}, i ∈ vs → wipe (σ.set i s) vs = wipe σ vs
  | [], h => by cases h
  | v :: vs, h => by
    show (wipe (σ.set i s) vs).set v none = (wipe σ vs).set v none
    by_cases hm : i ∈ vs
    · rw [wipe_set hm]
    · have e : i = v := (List.mem_cons.mp h).resolve_right hm
      subst e
      refine set_back i _ _ _ (by rw [wipe_length, wipe_length, List.length_set]) fun k hk => ?_
      by_cases hkv : k ∈ vs
      · have go : ∀ {us : List Nat}, k ∈ us → (wipe (σ.set i s) us)[k]? = (wipe σ us)[k]? := fun {us} => by
          induction us with
          | nil => intro z; cases z
          | cons u us ih =>
            intro z
            show ((wipe (σ.set i s) us).set u none)[k]? = ((wipe σ us).set u none)[k]?
            by_cases hu : u = k
            · subst hu
              by_cases hl : u < σ.length
              · rw [List.getElem?_set_self (by rw [wipe_length, List.length_set]; exact hl), List.getElem?_set_self (by rw [wipe_length]; exact hl)]
              · rw [List.getElem?_eq_none (by simpa [wipe_length] using hl), List.getElem?_eq_none (by simpa [wipe_length] using hl)]
            · rw [List.getElem?_set_ne hu, List.getElem?_set_ne hu]
              exact ih ((List.mem_cons.mp z).resolve_left fun e => hu e.symm)
        exact go hkv
      · rw [wipe_out hkv, wipe_out hkv, List.getElem?_set_ne (fun e => hk e.symm)]
theorem wipe_wipe (σ : VS) (vs : List Nat) : wipe (wipe σ vs) vs = wipe σ vs := by
  have go : ∀ us : List Nat, (∀ u ∈ us, u ∈ vs) → wipe (wipe σ us) vs = wipe σ vs := by
    intro us
    induction us with
    | nil => intro _; rfl
    | cons u us ih =>
      intro hu
      show wipe ((wipe σ us).set u none) vs = _
      rw [wipe_set (hu u List.mem_cons_self)]
      exact ih fun x hx => hu x (List.mem_cons_of_mem _ hx)
  exact go vs fun _ h => h
theorem wipeS_wipeS (σ : Sls) (vs : List Nat) : wipeS (wipeS σ vs) vs = wipeS σ vs := by
  have go : ∀ us : List Nat, (∀ u ∈ us, u ∈ vs) → wipeS (wipeS σ us) vs = wipeS σ vs := by
    intro us
    induction us with
    | nil => intro _; rfl
    | cons u us ih =>
      intro hu
      show wipeS ((wipeS σ us).set u .non) vs = _
      rw [wipeS_set (hu u List.mem_cons_self)]
      exact ih fun x hx => hu x (List.mem_cons_of_mem _ hx)
  exact go vs fun _ h => h

/-- a new list that changes by number -/
theorem J.newH {K : PySem.W.Frag} {e0 : Ent} {F : Hp} {ι : List Addr} {sl : Sls} {h : Obs} {σ : VS} {H : Hp} {p : Addr} {ws : List W} {vs : List V} (j : J K e0 F ι sl h σ H) (hp : H p = none) (r : RVs K F ι ws vs) :
    J K e0 F (ι ++ [p]) sl (h ++ [.lst ws]) σ (upd H p (.lst vs)) := by
  have le : Le F ι F (ι ++ [p]) := ⟨fun _ _ e => e, [p], rfl⟩
  have nn := j.hr.notin hp
  have ne : ∀ {a : Addr} {o : HO}, H a = some o → a ≠ p := fun {a o} e z => by rw [z, hp] at e; cases e
  refine j.step ⟨le, fun a u e _ _ => by rw [upd_ne (ne e)]; exact e, fun _ e => .inl e, fun a e => ?_, fun a e => ?_⟩ ⟨fun a u e => ?_, by rw [List.length_append, List.length_append, j.hr.len]; rfl, ?_, fun n a b e1 e2 => ?_⟩
  · rcases List.mem_append.mp e with z | z
    · exact .inl z
    · have z : a = p := by simpa using z
      rw [z]; exact .inr hp
  · by_cases hn : a = p
    · rw [hn, upd_same]; simp
    · rw [upd_ne hn]; exact e
  · have e2 := j.hr.sub a u e
    rw [upd_ne (ne e2)]; exact e2
  · refine List.nodup_append.mpr ⟨j.hr.nd, by simp, fun a ha b hb => ?_⟩
    have z : b = p := by simpa using hb
    rintro rfl
    exact nn.2 (z ▸ ha)
  · by_cases hn : n < ι.length
    · rw [List.getElem?_append_left hn] at e1
      rw [List.getElem?_append_left (by rw [← j.hr.len]; exact hn)] at e2
      obtain ⟨fn, q⟩ := j.hr.ob n a b e1 e2
      have ha : a ≠ p := fun z => nn.2 (z ▸ List.mem_of_getElem? e1)
      rw [upd_ne ha]
      exact ⟨fn, q.mono le⟩
    · have hl := j.hr.len
      rw [List.getElem?_append_right (by omega)] at e1 e2
      have z1 : n - ι.length = 0 := by
        have := (List.getElem?_eq_some_iff.mp e1).1
        simp only [List.length_singleton] at this
        omega
      have z2 : n - h.length = 0 := by omega
      rw [z1] at e1
      rw [z2] at e2
      cases e1
      cases e2
      exact ⟨nn.1, vs, upd_same, r.mono le⟩

/-- a name is given a new list as its own -/
theorem J.setO {K : PySem.W.Frag} {e0 : Ent} {F : Hp} {ι : List Addr} {sl : Sls} {h : Obs} {σ : VS} {H : Hp} {i : Nat} {ws : List W} {p : Addr} {vs : List V} (j : J K e0 F ι sl h σ H) (n : Nw e0 F ι sl σ H p vs) (r : RVs K F ι ws vs) :
    J K e0 F ι (sl.set i (.own ws)) h (σ.set i (some (.ref p))) H where
  hr := j.hr
  xt := j.xt
  len := by rw [List.length_set, List.length_set, j.len]
  at_ := fun k s e => by
    by_cases hk : i = k
    · subst hk
      by_cases hl : i < sl.length
      · rw [List.getElem?_set_self hl] at e
        cases e
        exact ⟨p, vs, by rw [List.getElem?_set_self (by rw [← j.len]; exact hl)], n.at_, r, n.f, n.i, n.o⟩
      · rw [List.getElem?_eq_none (by simpa using hl)] at e; cases e
    · rw [List.getElem?_set_ne hk] at e ⊢
      exact j.at_ k s e
  ap := fun k l us us' q e1 e2 e3 e4 => by
    have one : ∀ (k : Nat) (us : List W) (q : Addr), (sl.set i (.own ws))[k]? = some (.own us) → (σ.set i (some (.ref p)))[k]? = some (some (.ref q)) → (i = k ∧ q = p) ∨ (i ≠ k ∧ sl[k]? = some (.own us) ∧ σ[k]? = some (some (.ref q))) := fun k us q e e' => by
      by_cases hk : i = k
      · subst hk
        by_cases hl : i < σ.length
        · rw [List.getElem?_set_self hl] at e'
          cases e'
          exact .inl ⟨rfl, rfl⟩
        · rw [List.getElem?_eq_none (by simpa using hl)] at e'; cases e'
      · rw [List.getElem?_set_ne hk] at e e'
        exact .inr ⟨hk, e, e'⟩
    rcases one k us q e1 e3 with ⟨rfl, rfl⟩ | ⟨n1, a1, a2⟩ <;> rcases one l us' q e2 e4 with ⟨rfl, e⟩ | ⟨n2, b1, b2⟩
    · rfl
    · exact absurd b2 (n.sl l us' b1)
    · subst e
      exact absurd a2 (n.sl k us a1)
    · exact j.ap k l us us' q a1 b1 a2 b2
  hd := fun a o e => by
    obtain ⟨e1, e2, e3, e4⟩ := j.hd a o e
    refine ⟨e1, e2, e3, fun k us q z => ?_⟩
    by_cases hk : i = k
    · subst hk
      by_cases hl : i < σ.length
      · rw [List.getElem?_set_self hl] at z
        cases z
        rw [n.hd] at e; cases e
      · rw [List.getElem?_eq_none (by simpa using hl)] at z; cases z
    · rw [List.getElem?_set_ne hk] at q z
      exact e4 k us q z
/-- a list of one's own changes -/
theorem J.mutO {K : PySem.W.Frag} {e0 : Ent} {F : Hp} {ι : List Addr} {sl : Sls} {h : Obs} {σ : VS} {H : Hp} {i : Nat} {ws ws' : List W} {p : Addr} {vs' : List V} (j : J K e0 F ι sl h σ H) (e : sl[i]? = some (.own ws)) (e' : σ[i]? = some (some (.ref p))) (r : RVs K F ι ws' vs') :
    J K e0 F ι (sl.set i (.own ws')) h σ (upd H p (.lst vs')) := by
  obtain ⟨p', vs, q1, q2, rv, q3, q4, q5⟩ := j.at_ i _ e
  rw [e'] at q1
  cases q1
  have fne : ∀ a u, F a = some u → a ≠ p := fun a u e z => by rw [z, q3] at e; cases e
  have old : ∀ (k : Nat) (us : List W), (sl.set i (.own ws'))[k]? = some (.own us) → ∃ us', sl[k]? = some (.own us') := fun k us z => by
    by_cases hk : i = k
    · exact ⟨ws, hk ▸ e⟩
    · rw [List.getElem?_set_ne hk] at z
      exact ⟨us, z⟩
  refine ⟨⟨fun a u e => by rw [upd_ne (fne a u e)]; exact j.hr.sub a u e, j.hr.len, j.hr.nd, fun m a u z1 z2 => ?_⟩, ⟨j.xt.le, fun a u z1 z2 z3 => ?_, j.xt.n, j.xt.m, fun a z => ?_⟩, by rw [List.length_set]; exact j.len, fun k s z => ?_, fun k l us us' q z1 z2 z3 z4 => ?_, fun a u z => ?_⟩
  · obtain ⟨fn, q⟩ := j.hr.ob m a u z1 z2
    have hn : a ≠ p := fun z => q4 (z ▸ List.mem_of_getElem? z1)
    rw [upd_ne hn]
    exact ⟨fn, q⟩
  · have hn : a ≠ p := fun z => by rw [z, q5] at z1; cases z1
    rw [upd_ne hn]
    exact j.xt.h a u z1 z2 z3
  · by_cases hn : a = p
    · rw [hn, upd_same]; simp
    · rw [upd_ne hn]; exact j.xt.d a z
  · by_cases hk : i = k
    · subst hk
      have hl : i < sl.length := (List.getElem?_eq_some_iff.mp e).1
      rw [List.getElem?_set_self hl] at z
      cases z
      exact ⟨p, vs', e', upd_same, r, q3, q4, q5⟩
    · rw [List.getElem?_set_ne hk] at z
      have q := j.at_ k s z
      cases s with
      | non => trivial
      | val w => exact q
      | own us =>
        obtain ⟨p2, us2, a1, a2, rv2, fn, ni, n0⟩ := q
        have hn : p2 ≠ p := fun y => hk (j.ap i k ws us p e z e' (y ▸ a1))
        exact ⟨p2, us2, a1, by rw [upd_ne hn]; exact a2, rv2, fn, ni, n0⟩
  · obtain ⟨o1, y1⟩ := old k us z1
    obtain ⟨o2, y2⟩ := old l us' z2
    exact j.ap k l o1 o2 q y1 y2 z3 z4
  · obtain ⟨e1, e2, e3, e4⟩ := j.hd a u z
    have hn : a ≠ p := fun y => e4 i ws e (y ▸ e')
    refine ⟨by rw [upd_ne hn]; exact e1, e2, e3, fun k us y => ?_⟩
    obtain ⟨o1, y1⟩ := old k us y
    exact e4 k o1 y1
/-- a list by number changes -/
theorem J.mutH {K : PySem.W.Frag} {e0 : Ent} {F : Hp} {ι : List Addr} {sl : Sls} {h : Obs} {σ : VS} {H : Hp} {n : Nat} {ws' : List W} {p : Addr} {vs' : List V} (j : J K e0 F ι sl h σ H) (e : ι[n]? = some p) (fp : F p = none) (hp : H p ≠ none) (r : RVs K F ι ws' vs') :
    J K e0 F ι sl (h.set n (.lst ws')) σ (upd H p (.lst vs')) := by
  have fne : ∀ a u, F a = some u → a ≠ p := fun a u e z => by rw [z, fp] at e; cases e
  have hm : p ∈ ι := List.mem_of_getElem? e
  refine ⟨⟨fun a u e => by rw [upd_ne (fne a u e)]; exact j.hr.sub a u e, by rw [List.length_set]; exact j.hr.len, j.hr.nd, fun m a u z1 z2 => ?_⟩, ⟨j.xt.le, fun a u z1 z2 z3 => ?_, j.xt.n, j.xt.m, fun a z => ?_⟩, j.len, fun k s z => ?_, j.ap, fun a u z => ?_⟩
  · by_cases hk : n = m
    · subst hk
      have z3 : n < h.length := by
        have := (List.getElem?_eq_some_iff.mp z2).1
        rw [List.length_set] at this
        exact this
      rw [List.getElem?_set_self z3] at z2
      cases z2
      rw [e] at z1
      cases z1
      exact ⟨fp, vs', upd_same, r⟩
    · rw [List.getElem?_set_ne hk] at z2
      obtain ⟨fn, q⟩ := j.hr.ob m a u z1 z2
      have hn : a ≠ p := fun z => by
        subst z
        obtain ⟨l1, y1⟩ := List.getElem?_eq_some_iff.mp e
        obtain ⟨l2, y2⟩ := List.getElem?_eq_some_iff.mp z1
        exact hk ((List.getElem_inj j.hr.nd).mp (y1.trans y2.symm))
      rw [upd_ne hn]
      exact ⟨fn, q⟩
  · have hn : a ≠ p := fun z => by
      subst z
      rcases j.xt.m a hm with y | y
      · exact z3 y
      · have z1 : e0.H a = some u := z1
        rw [y] at z1; cases z1
    rw [upd_ne hn]
    exact j.xt.h a u z1 z2 z3
  · by_cases hn : a = p
    · rw [hn, upd_same]; simp
    · rw [upd_ne hn]; exact j.xt.d a z
  · have q := j.at_ k s z
    cases s with
    | non => trivial
    | val w => exact q
    | own us =>
      obtain ⟨p2, us2, a1, a2, rv2, fn, ni, n0⟩ := q
      have hn : p2 ≠ p := fun y => ni (y ▸ hm)
      exact ⟨p2, us2, a1, by rw [upd_ne hn]; exact a2, rv2, fn, ni, n0⟩
  · obtain ⟨e1, e2, e3, e4⟩ := j.hd a u z
    have hn : a ≠ p := fun y => e3 (y ▸ hm)
    exact ⟨by rw [upd_ne hn]; exact e1, e2, e3, e4⟩
/-- a list of one's own is given away: its name keeps it -/
theorem J.frz1 {K : PySem.W.Frag} {e0 : Ent} {F : Hp} {ι : List Addr} {sl : Sls} {h : Obs} {σ : VS} {H : Hp} {i : Nat} {ws : List W} (j : J K e0 F ι sl h σ H) (e : sl[i]? = some (.own ws)) :
    ∃ F', Le F ι F' ι ∧ J K e0 F' ι (sl.set i (.val (.lst ws))) h σ H := by
  obtain ⟨p, vs, q1, q2, rv, q3, q4, q5⟩ := j.at_ i _ e
  have hl : i < sl.length := (List.getElem?_eq_some_iff.mp e).1
  have j1 : J K e0 F ι (sl.set i .non) h σ H := j.wk (by rw [List.length_set]; exact j.len) fun k s z => by
    by_cases hk : i = k
    · subst hk
      rw [List.getElem?_set_self hl] at z
      cases z
      exact .inl rfl
    · rw [List.getElem?_set_ne hk] at z
      exact .inr ⟨z, rfl⟩
  have nw : Nw e0 F ι (sl.set i .non) σ H p vs := ⟨q2, q3, q4, q5, by
      cases q : e0.hold p with
      | none => rfl
      | some o => exact absurd q1 ((j.hd p o q).2.2.2 i ws e), fun k us z y => by
      by_cases hk : i = k
      · subst hk
        rw [List.getElem?_set_self hl] at z
        cases z
      · rw [List.getElem?_set_ne hk] at z
        exact hk (j.ap i k ws us p e z q1 y)⟩
  obtain ⟨j2, l2⟩ := j1.frz nw
  refine ⟨_, l2, ?_⟩
  have j3 := j2.setV (i := i) (w := .lst ws) (v := .ref p) (.lst upd_same (rv.mono l2))
  rw [List.set_set] at j3
  have es : σ.set i (some (.ref p)) = σ := by
    refine List.ext_getElem? fun k => ?_
    by_cases hk : i = k
    · subst hk
      rw [List.getElem?_set_self (by rw [← j.len]; exact hl), q1]
    · rw [List.getElem?_set_ne hk]
  rw [es] at j3
  exact j3
theorem J.frzS {K : PySem.W.Frag} {e0 : Ent} {ι : List Addr} {h : Obs} {σ : VS} {H : Hp} : ∀ (is : List Nat) {F : Hp} {sl : Sls}, J K e0 F ι sl h σ H → ∃ F', Le F ι F' ι ∧ J K e0 F' ι (Ev.frzS is sl) h σ H
  | [], F, sl, j => ⟨F, .refl, j⟩
  | i :: is, F, sl, j => by
    unfold Ev.frzS
    split
    · rename_i ws e
      obtain ⟨F1, l1, j1⟩ := j.frz1 e
      obtain ⟨F2, l2, j2⟩ := J.frzS is j1
      exact ⟨F2, l1.trans l2, j2⟩
    · exact J.frzS is j
/-- what is new is held, as it stands -/
theorem J.holdN {K : PySem.W.Frag} {e0 : Ent} {F : Hp} {ι : List Addr} {sl : Sls} {h : Obs} {σ : VS} {H : Hp} {p : Addr} {vs : List V} (j : J K e0 F ι sl h σ H) (n : Nw e0 F ι sl σ H p vs) :
    J K { e0 with hold := upd e0.hold p (.lst vs) } F ι sl h σ H := ⟨j.hr, j.xt, j.len, j.at_, j.ap, fun a u e => by
    by_cases ha : a = p
    · subst ha
      have e : upd e0.hold a (.lst vs) a = some u := e
      rw [upd_same] at e
      cases e
      exact ⟨n.at_, n.f, n.i, n.sl⟩
    · have e : upd e0.hold p (.lst vs) a = some u := e
      rw [upd_ne ha] at e
      exact j.hd a u e⟩
theorem Nw.setV {e0 : Ent} {F : Hp} {ι : List Addr} {sl : Sls} {σ : VS} {H : Hp} {p : Addr} {vs : List V} {i : Nat} {w : W} {v : V} (n : Nw e0 F ι sl σ H p vs) : Nw e0 F ι (sl.set i (.val w)) (σ.set i (some v)) H p vs :=
  ⟨n.at_, n.f, n.i, n.o, n.hd, fun k us z => by
    by_cases hk : i = k
    · subst hk
      by_cases hl : i < sl.length
      · rw [List.getElem?_set_self hl] at z; cases z
      · rw [List.getElem?_eq_none (by simpa using hl)] at z; cases z
    · rw [List.getElem?_set_ne hk] at z ⊢
      exact n.sl k us z⟩
theorem Nw.setO {e0 : Ent} {F : Hp} {ι : List Addr} {sl : Sls} {σ : VS} {H : Hp} {p p2 : Addr} {vs : List V} {i : Nat} {ws : List W} (n : Nw e0 F ι sl σ H p vs) (hn : p2 ≠ p) : Nw e0 F ι (sl.set i (.own ws)) (σ.set i (some (.ref p2))) H p vs :=
  ⟨n.at_, n.f, n.i, n.o, n.hd, fun k us z y => by
    by_cases hk : i = k
    · subst hk
      by_cases hl : i < σ.length
      · rw [List.getElem?_set_self hl] at y
        cases y
        exact hn rfl
      · rw [List.getElem?_eq_none (by simpa using hl)] at y; cases y
    · rw [List.getElem?_set_ne hk] at z y
      exact n.sl k us z y⟩

/-! ### held things -/
def Ent.keep (e0 : Ent) (p : Addr) (o : HO) : Ent := { e0 with hold := upd e0.hold p o }
/-- what is new is held -/
theorem J.hold {p : Addr} {o : HO} (j : J K e0 F ι sl h σ H) (hp : H p = none) : J K (e0.keep p o) F ι sl h σ (upd H p o) := by
  have j2 := j.loose (o := o) hp
  exact ⟨j2.hr, j2.xt, j2.len, j2.at_, j2.ap, fun a u e => by
    by_cases ha : a = p
    · subst ha
      have e : upd e0.hold a o a = some u := e
      rw [upd_same] at e
      cases e
      exact ⟨upd_same, (j.hr.notin hp).1, (j.hr.notin hp).2, (j.none0 hp).2.2⟩
    · have e : upd e0.hold p o a = some u := e
      rw [upd_ne ha] at e
      exact j2.hd a u e⟩
/-- .. and changes -/
theorem J.reHold {p : Addr} {o o' : HO} (n0 : e0.H p = none) (j : J K (e0.keep p o) F ι sl h σ H) : J K (e0.keep p o') F ι sl h σ (upd H p o') := by
  obtain ⟨e1, e2, e3, e4⟩ := j.hd p o upd_same
  have fne : ∀ a u, F a = some u → a ≠ p := fun a u e z => by rw [z, e2] at e; cases e
  refine ⟨⟨fun a u e => by rw [upd_ne (fne a u e)]; exact j.hr.sub a u e, j.hr.len, j.hr.nd, fun m a u q1 q2 => ?_⟩, ⟨j.xt.le, fun a u q1 q2 q3 => ?_, j.xt.n, j.xt.m, fun a q => ?_⟩, j.len, fun i s e => ?_, j.ap, fun a u e => ?_⟩
  · obtain ⟨fn, q⟩ := j.hr.ob m a u q1 q2
    have hn : a ≠ p := fun z => e3 (z ▸ List.mem_of_getElem? q1)
    rw [upd_ne hn]
    exact ⟨fn, q⟩
  · have hn : a ≠ p := fun z => by
      have q1 : e0.H a = some u := q1
      rw [z, n0] at q1; cases q1
    rw [upd_ne hn]
    exact j.xt.h a u q1 q2 q3
  · by_cases hn : a = p
    · rw [hn, upd_same]; simp
    · rw [upd_ne hn]; exact j.xt.d a q
  · have q := j.at_ i s e
    cases s with
    | non => trivial
    | val w => exact q
    | own ws =>
      obtain ⟨p', us, q1, q2, rv, fn, ni, n0'⟩ := q
      have hn : p' ≠ p := fun z => e4 i ws e (z ▸ q1)
      exact ⟨p', us, q1, by rw [upd_ne hn]; exact q2, rv, fn, ni, n0'⟩
  · by_cases ha : a = p
    · subst ha
      have e : upd e0.hold a o' a = some u := e
      rw [upd_same] at e
      cases e
      exact ⟨upd_same, e2, e3, e4⟩
    · have e : upd e0.hold p o' a = some u := e
      rw [upd_ne ha] at e ⊢
      refine j.hd a u (show upd e0.hold p o a = some u from ?_)
      rw [upd_ne ha]; exact e
/-- .. and is let go -/
theorem J.unhold {p : Addr} {vs : List V} (n0 : e0.H p = none) (nh : e0.hold p = none) (j : J K (e0.keep p (.lst vs)) F ι sl h σ H) : J K e0 F ι sl h σ H ∧ Nw e0 F ι sl σ H p vs := by
  obtain ⟨e1, e2, e3, e4⟩ := j.hd p _ upd_same
  refine ⟨⟨j.hr, j.xt, j.len, j.at_, j.ap, fun a u e => j.hd a u (show upd e0.hold p _ a = some u from ?_)⟩, ⟨e1, e2, e3, n0, nh, e4⟩⟩
  rw [upd_ne (fun z => by rw [z, nh] at e; cases e)]
  exact e
end
end Ev

namespace Ev
open PySem PySem.Spec PyProof.Rows L2

/-! ## what a def promises, how it is called -/
def spW (K : PySem.W.Frag) (mg : Str → Option Value) (n : Nat) (T : List W → Obs → R W) : Sp := fun vs H Q Z => ∃ F ι h ws, vs.length = n ∧ HR K F ι h H ∧ RVs K F ι ws vs ∧
  match T ws h with
  | .ok w h' => ∀ F' ι' H' v, Xt F ι H F' ι' H' → HR K F' ι' h' H' → RV K F' ι' w v → Q v H'
  | .exc x h' => ∀ F' ι' H' cls d, Xt F ι H F' ι' H' → HR K F' ι' h' H' → RX K mg F' ι' x cls d → Z cls d H'
  | .bad => False
/-- a def of the text keeps its promise, wherever nothing guards -/
structure Fk (P : Program) (w : World) (K : PySem.W.Frag) (mg : Str → Option Value) (base : Heap) (k : Nat) (f : Addr) (fd : FuncData) (ps : List Str) (sp : Sp) : Prop where
  run : ∀ (A : Around) (up : List Env) (s : Shared) (H : Hp) (a : Args) (us : List Value) (vs : List V) (Q : VK) (Z : XK), Room k A → A.guards = some [] → Env0 P w K mg base A up s H →
    BindsTo s fd a (ps.zip us) → Vals vs us → sp vs H Q Z → codeAny (model P w) A (.call (.ref f) a) (CR (CX P w) up P w H s Q Z) s
section
variable {X : Cx} {Z : WX} {k : Nat} {g : Addr} {fd : FuncData} {ps : List Str} {T : List W → Obs → R W}
theorem run_w (tk : Takes X Z) (hr : Room k X.A) (hg : X.A.guards = some []) (fk : Fk X.prog X.w X.K X.mg X.base k g fd ps (spW X.K X.mg ps.length T))
    {pins : List (Addr × Obj)} {s : Shared} {σ : VS} {H : Hp} {us us' : List Value} {kw : List (Str × Value)} {vs : List V} {Q : VK} {e0 : Ent} {F : Hp} {ι : List Addr} {sl : Sls} {h : Obs} {ws : List W}
    (I : Inv X pins σ H s) (hb : BindsTo s fd ⟨us, kw⟩ (ps.zip us')) (r : Vals vs us') (hl : vs.length = ps.length) (j : J X.K e0 F ι sl h σ H) (rv : RVs X.K F ι ws vs)
    (p : Po (bx X Z e0) F ι sl σ (fun F ι => RV X.K F ι) (T ws h) Q) : wpAny (model X.prog X.w) X.A (call (.ref g) us kw) (EP X pins σ Q) X.xe s := by
  refine wpAny_call (codeAny_mono (fk.run X.A X.stack s H ⟨us, kw⟩ us' vs Q (WE Z σ) hr hg I.env0 hb r ⟨F, ι, h, ws, hl, j.hr, rv, ?_⟩) fun r s' hq => ?_)
  · cases q : T ws h with
    | ok w h' =>
      rw [q] at p
      exact fun F' ι' H' v x hr' rv' => p F' ι' H' v x.le (j.step x hr') rv'
    | exc x h' =>
      rw [q] at p
      exact fun F' ι' H' cls d x hr' rx => p F' ι' H' cls d x.le (j.step x hr') rx
    | bad => rw [q] at p; exact p
  · cases r with
    | error e => exact L2.passAt tk σ pins H s e s' I hq
    | ok fl =>
      cases fl with
      | ret u => exact I.after hq
      | next => exact False.elim hq
      | brk => exact False.elim hq
      | cont => exact False.elim hq
end

/-- keywords are bound as they are put -/
def KwOk (kws : List (Nat × Nat × List Str)) (i : Nat) (fd : FuncData) (ps : List Str) : Prop := ∀ n ks, (i, n, ks) ∈ kws → ∀ us zs : List Value, us.length = n → zs.length = ks.length → ∃ as, kwPut ps us (ks.zip zs) = some as ∧ ∀ s : Shared, BindsTo s fd ⟨us, ks.zip zs⟩ (ps.zip as)
/-- .. whatever the values are -/
theorem kwAll_rel {α β : Type} {rel : α → β → Prop} {ks : List (Str × α)} {ls : List (Str × β)} (r : Paired (fun p q => p.1 = q.1 ∧ rel p.2 q.2) ks ls) : ∀ {xs : List Str} {as : List α}, kwAll ks xs = some as → ∃ bs, kwAll ls xs = some bs ∧ Paired rel as bs
  | [], as, e => by cases e; exact ⟨[], rfl, .nil⟩
  | x :: xs, as, e => by
    have look : ∀ {ks : List (Str × α)} {ls : List (Str × β)} {a : α}, Paired (fun p q => p.1 = q.1 ∧ rel p.2 q.2) ks ls → ks.lookup x = some a → ∃ b, ls.lookup x = some b ∧ rel a b := fun {ks ls a} r => by
      induction r with
      | nil => intro z; cases z
      | @cons p q ks ls h t ih =>
        intro z
        obtain ⟨p1, p2⟩ := p
        obtain ⟨q1, q2⟩ := q
        obtain ⟨h1, h2⟩ := h
        cases h1
        rw [List.lookup_cons] at z ⊢
        cases hx : x == p1 with
        | true => rw [hx] at z; cases z; exact ⟨q2, rfl, h2⟩
        | false => rw [hx] at z; exact ih z
    unfold kwAll at e ⊢
    cases q1 : ks.lookup x with
    | none => rw [q1] at e; cases e
    | some a =>
      cases q2 : kwAll ks xs with
      | none => rw [q1, q2] at e; cases e
      | some as' =>
        rw [q1, q2] at e
        cases e
        obtain ⟨b, e1, r1⟩ := look r q1
        obtain ⟨bs, e2, r2⟩ := kwAll_rel r q2
        rw [e1, e2]
        exact ⟨_, rfl, .cons r1 r2⟩
theorem kwPut_rel {α β : Type} {rel : α → β → Prop} {ps : List Str} {us : List α} {vs : List β} {ks : List (Str × α)} {ls : List (Str × β)} {as : List α} (r : Paired rel us vs) (rk : Paired (fun p q => p.1 = q.1 ∧ rel p.2 q.2) ks ls) (e : kwPut ps us ks = some as) :
    ∃ bs, kwPut ps vs ls = some bs ∧ Paired rel as bs := by
  have app : ∀ {a : List α} {b : List β} {x : List α} {y : List β}, Paired rel a b → Paired rel x y → Paired rel (a ++ x) (b ++ y) := fun {a b x y} h1 h2 => by
    induction h1 with
    | nil => exact h2
    | cons h t ih => exact .cons h ih
  unfold kwPut at e ⊢
  rw [← r.length, ← rk.length]
  split at e
  · cases q : kwAll ks (ps.drop us.length) with
    | none => rw [q] at e; cases e
    | some x =>
      rw [q] at e
      cases e
      obtain ⟨bs, e1, r1⟩ := kwAll_rel rk q
      rw [e1]
      exact ⟨_, rfl, app r r1⟩
  · cases e
theorem RVs.pair {K : PySem.W.Frag} {F : Hp} {ι : List Addr} : ∀ {ws : List W} {vs : List V}, RVs K F ι ws vs → Paired (RV K F ι) ws vs
  | _, _, .nil => .nil
  | _, _, .cons r t => .cons r (RVs.pair t)
theorem RVs.unpair {K : PySem.W.Frag} {F : Hp} {ι : List Addr} : ∀ {ws : List W} {vs : List V}, Paired (RV K F ι) ws vs → RVs K F ι ws vs
  | _, _, .nil => .nil
  | _, _, .cons r t => .cons r (RVs.unpair t)
theorem zip_pair {α β : Type} {rel : α → β → Prop} : ∀ {ks : List (Str × α)} {bs : List β}, Paired rel (ks.map Prod.snd) bs → Paired (fun p q => p.1 = q.1 ∧ rel p.2 q.2) ks ((ks.map Prod.fst).zip bs)
  | [], _, r => by cases r; exact .nil
  | (x, a) :: ks, _, r => by
    cases r with
    | cons h t => exact .cons ⟨rfl, h⟩ (zip_pair t)
theorem zip_two {α β : Type} {rel : α → β → Prop} : ∀ {ks : List Str} {as : List α} {bs : List β}, Paired rel as bs → Paired (fun p q => p.1 = q.1 ∧ rel p.2 q.2) (ks.zip as) (ks.zip bs)
  | [], _, _, _ => .nil
  | _ :: _, _, _, .nil => .nil
  | k :: ks, _, _, .cons h t => .cons ⟨rfl, h⟩ (zip_two t)

/-! ## a context that the core's readings hold in -/
structure Cn (X : Cx) (Z : WX) (D : Dn) (c : Oc) : Prop where
  calm : X.calm = true
  tk : Takes X Z
  N : X.N = c.N
  nd : X.N.Nodup
  gd : X.A.guards = some []
  un : X.A.units + 70 < cLine
  bt : ∀ b : Bt, X.mg b.nm = none
  ty : ∀ t : Ty, X.mg t.nm = none
  isi : X.mg "isinstance" = none
  rng : X.mg "range" = none
  enum : X.mg "enumerate" = none
  zip : X.mg "zip" = none
  cst : ∀ x w, D.cst x = some w → ∃ v u, X.mg x = some u ∧ RelV v u ∧ ∀ F ι, RV X.K F ι w v
  fn : ∀ i x, c.fs i = some x → ∃ g fd ps k, X.mg x = some (.ref g) ∧ PySem.W.keepIn X.K (.ref g) = true ∧ Binds X.K fd ps [] ∧ D.par i = ps ∧ Room k X.A ∧ Fk X.prog X.w X.K X.mg X.base k g fd ps (spW X.K X.mg ps.length (D.call i)) ∧ KwOk c.kws i fd ps
  /-- what a def wants of its arguments' number -/
  ar : ∀ i ws h, D.call i ws h = .bad ∨ ws.length = (D.par i).length
/-- no exception may leave -/
abbrev nox : WX := fun _ _ _ _ => False
theorem Cn.blk {X : Cx} {Z : WX} {D : Dn} {c : Oc} (n : Cn X Z D c) (s : Shared) (H : Hp) (sc : Scope) (env : Env) (fp : List Addr) : Cn (X.blk s H sc env fp) nox D c where
  calm := n.calm
  tk := fun u s' ⟨_, _, _, _, _, _, _, _, _, _, _, _, _, _, _, _, w⟩ => w
  N := n.N
  nd := n.nd
  gd := n.gd
  un := n.un
  bt := n.bt
  ty := n.ty
  isi := n.isi
  rng := n.rng
  enum := n.enum
  zip := n.zip
  cst := n.cst
  fn := n.fn
  ar := n.ar

/-! ## truth -/
theorem tru_of {K : PySem.W.Frag} {F : Hp} {ι : List Addr} {H : Hp} {w : W} {v : V} {k : Bool} (s : ∀ a o, F a = some o → H a = some o) (r : RN K F ι H w v) (e : truW w = some k) : TruV K v H k := by
  have lem : ∀ {xs : List V} {ws : List W}, RVs K F ι ws xs → (!ws.isEmpty) = !xs.isEmpty := fun r => by cases r <;> rfl
  rcases r with r | ⟨ws, p, vs, rfl, rfl, e2, rv⟩
  · cases r with
    | non => cases e; rfl
    | bl b => cases e; rfl
    | int i => cases e; rfl
    | str x =>
      have e : (match lineN x.length with | true => some ((x.length : Int) != 0) | false => none) = some k := e
      split at e
      · rename_i hl
        cases e
        exact ⟨lineN_ok hl, rfl⟩
      · cases e
    | ty n => cases e
    | tup q rv =>
      cases e
      exact .inr (.inl ⟨_, sqT_mono s q, lem rv⟩)
    | lst q rv =>
      cases e
      exact .inl ⟨_, .inl (.inl (s _ _ q)), lem rv⟩
    | emp q => cases e
    | scr q => cases e
    | ref q => cases e
  · cases e
    exact .inl ⟨_, .inl (.inl e2), lem rv⟩

/-! ## what is walked -/
/-- the iterator gives the values xs, wherever the heap goes -/
def Wk (K : PySem.W.Frag) (F : Hp) (ι : List Addr) (t : L2.It) (xs : List W) : Prop :=
  ∀ (i : Nat) (e1 : Ent) (F1 : Hp) (ι1 : List Addr) (sl : Sls) (h : Obs) (σ : VS) (H : Hp), Le F ι F1 ι1 → J K e1 F1 ι1 sl h σ H →
    (xs.length ≤ i → t.stop i H) ∧ ∀ w, xs[i]? = some w → t.go i H ∧ ∀ x H', t.yld i H x H' → ∃ F2 ι2, Le F1 ι1 F2 ι2 ∧ J K e1 F2 ι2 sl h σ H' ∧ RV K F2 ι2 w x
def tWk (X : Cx) (Z : WX) (m : Sls → Obs → R (List W)) : TI := fun σ H Q => ∃ e0 F ι sl h, J X.K e0 F ι sl h σ H ∧ Po (bx X Z e0) F ι sl σ (fun F ι xs t => Wk X.K F ι t xs) (m sl h) Q
section
variable {K : PySem.W.Frag} {F : Hp} {ι : List Addr} {ws : List W} {vs : List V} {a : Addr}
theorem wk_list (q : SqL K F a vs) (r : RVs K F ι ws vs) : Wk K F ι (Itl K a) ws := fun i e1 F1 ι1 sl h σ H l j => by
  have q1 : SqL K H a vs := sqL_mono j.hr.sub (sqL_mono l.f q)
  refine ⟨fun z => ⟨vs, q1, by rw [← r.length]; exact z⟩, fun w e => ?_⟩
  obtain ⟨v, e1, rv⟩ := r.get e
  refine ⟨⟨vs, v, q1, e1⟩, fun x H' y => ?_⟩
  obtain ⟨rfl, y⟩ := y
  have z := y vs q1
  rw [e1] at z
  cases z
  exact ⟨F1, ι1, .refl, j, rv.mono l⟩
theorem wk_tup (q : SqT K F a vs) (r : RVs K F ι ws vs) : Wk K F ι (Itt K a) ws := fun i e1 F1 ι1 sl h σ H l j => by
  have q1 : SqT K H a vs := sqT_mono j.hr.sub (sqT_mono l.f q)
  refine ⟨fun z => ⟨vs, q1, by rw [← r.length]; exact z⟩, fun w e => ?_⟩
  obtain ⟨v, e1, rv⟩ := r.get e
  refine ⟨⟨vs, v, q1, e1⟩, fun x H' y => ?_⟩
  obtain ⟨rfl, y⟩ := y
  have z := y vs q1
  rw [e1] at z
  cases z
  exact ⟨F1, ι1, .refl, j, rv.mono l⟩
theorem rngW_len (lo : Int) (n : Nat) : (rngW lo n).length = n := by
  induction n generalizing lo with
  | zero => rfl
  | succ n ih =>
    show (rngW (lo + 1) n).length + 1 = n + 1
    rw [ih]
theorem rngW_get (lo : Int) (n i : Nat) (h : i < n) : (rngW lo n)[i]? = some (.int (lo + i)) := by
  induction n generalizing lo i with
  | zero => omega
  | succ n ih =>
    cases i with
    | zero => simp [rngW]
    | succ i =>
      show (rngW (lo + 1) n)[i]? = _
      rw [ih (lo + 1) i (by omega)]
      congr 2
      omega
theorem wk_rng (lo : Int) (n : Nat) : Wk K F ι (Itr lo n) (rngW lo n) := fun i e1 F1 ι1 sl h σ H l j => by
  refine ⟨fun z => by rw [rngW_len] at z; exact z, fun w e => ?_⟩
  have hi : i < n := by
    have z := (List.getElem?_eq_some_iff.mp e).1
    rw [rngW_len] at z; exact z
  refine ⟨hi, fun x H' y => ?_⟩
  obtain ⟨rfl, rfl⟩ := y
  rw [rngW_get lo n i hi] at e
  cases e
  exact ⟨F1, ι1, .refl, j, .int _⟩
theorem enumW_len (k : Nat) (ws : List W) : (enumW k ws).length = ws.length := by
  induction ws generalizing k with
  | nil => rfl
  | cons w ws ih =>
    show (enumW (k + 1) ws).length + 1 = ws.length + 1
    rw [ih]
theorem enumW_get (k i : Nat) (ws : List W) (w : W) (e : (enumW k ws)[i]? = some w) : ∃ u, ws[i]? = some u ∧ w = .tup [.int ((k + i : Nat) : Int), u] := by
  induction ws generalizing k i with
  | nil => cases e
  | cons u ws ih =>
    cases i with
    | zero =>
      cases e
      exact ⟨u, rfl, rfl⟩
    | succ i =>
      obtain ⟨u', e1, e2⟩ := ih (k + 1) i e
      refine ⟨u', e1, e2.trans ?_⟩
      have z : k + 1 + i = k + (i + 1) := by omega
      rw [z]
theorem wk_enum (q : SqL K F a vs) (r : RVs K F ι ws vs) : Wk K F ι (Ite K a) (enumW 0 ws) := fun i e1 F1 ι1 sl h σ H l j => by
  have q1 : SqL K H a vs := sqL_mono j.hr.sub (sqL_mono l.f q)
  refine ⟨fun z => ⟨vs, q1, by rw [enumW_len] at z; rw [← r.length]; exact z⟩, fun w e => ?_⟩
  obtain ⟨u, e1, rfl⟩ := enumW_get 0 i ws w e
  obtain ⟨v, e2, rv⟩ := r.get e1
  refine ⟨⟨vs, v, q1, e2⟩, fun x H' y => ?_⟩
  · obtain ⟨T, y0, rfl, hT, rfl, y⟩ := y
    have z := y vs q1
    rw [e2] at z
    cases z
    have rr : RVs K F1 ι1 [.int ((0 + i : Nat) : Int), u] [.int ((i : Nat) : Int), v] := .cons (by rw [Nat.zero_add]; exact .int _) (.cons (rv.mono l) .nil)
    exact ⟨_, ι1, j.newLe (o := HO.tup [.int ((i : Nat) : Int), v]) hT, j.new hT, .tup (.inl (.inl upd_same)) (rr.mono (j.newLe hT))⟩
theorem zipW_some : ∀ (i : Nat) (ws us : List W) (w : W), (zipW ws us)[i]? = some w → ∃ x y, ws[i]? = some x ∧ us[i]? = some y ∧ w = .tup [x, y]
  | 0, a :: as, b :: bs, w, e => by cases e; exact ⟨a, b, rfl, rfl, rfl⟩
  | i + 1, a :: as, b :: bs, w, e => zipW_some i as bs w e
  | i, [], us, w, e => by
    have e : ([] : List W)[i]? = some w := by cases us <;> exact e
    simp at e
  | i, a :: as, [], w, e => by
    have e : ([] : List W)[i]? = some w := e
    simp at e
theorem zipW_len : ∀ (i : Nat) (ws us : List W), (zipW ws us).length ≤ i → ws.length ≤ i ∨ us.length ≤ i
  | i, [], us, _ => .inl (Nat.zero_le _)
  | i, a :: as, [], _ => .inr (Nat.zero_le _)
  | 0, a :: as, b :: bs, h => absurd (show (zipW as bs).length + 1 ≤ 0 from h) (by omega)
  | i + 1, a :: as, b :: bs, h => by
    have h : (zipW as bs).length + 1 ≤ i + 1 := h
    rcases zipW_len i as bs (by omega) with z | z
    · exact .inl (Nat.succ_le_succ z)
    · exact .inr (Nat.succ_le_succ z)
theorem wk_zip {us : List W} {xs : List V} {b : Addr} (q : SqL K F a vs) (r : RVs K F ι ws vs) (q' : SqL K F b xs) (r' : RVs K F ι us xs) : Wk K F ι (Itz K a b) (zipW ws us) := fun i e1 F1 ι1 sl h σ H l j => by
  have q1 : SqL K H a vs := sqL_mono j.hr.sub (sqL_mono l.f q)
  have q2 : SqL K H b xs := sqL_mono j.hr.sub (sqL_mono l.f q')
  refine ⟨fun z => ⟨vs, xs, q1, q2, by rw [← r.length, ← r'.length]; exact zipW_len i ws us z⟩, fun w e => ?_⟩
  obtain ⟨x, y, e1, e2, rfl⟩ := zipW_some i ws us w e
  obtain ⟨v, e3, rv⟩ := r.get e1
  obtain ⟨v2, e4, rv2⟩ := r'.get e2
  refine ⟨⟨vs, xs, v, v2, q1, q2, e3, e4⟩, fun x' H' y' => ?_⟩
  obtain ⟨T, y1, y2, rfl, hT, rfl, z1, z2⟩ := y'
  have z := z1 vs q1
  rw [e3] at z
  cases z
  have z := z2 xs q2
  rw [e4] at z
  cases z
  have rr : RVs K F1 ι1 [x, y] [v, v2] := .cons (rv.mono l) (.cons (rv2.mono l) .nil)
  exact ⟨_, ι1, j.newLe (o := HO.tup [v, v2]) hT, j.new hT, .tup (.inl (.inl upd_same)) (rr.mono (j.newLe hT))⟩
end
/-- a list or a tuple, as it comes -/
theorem pi_seq {X : Cx} {tg l : Expr} {tl : TE} (hl : PE X l tl) : PI X tg l (fun σ H Q => tl σ H fun x H1 => ∃ a, x = .ref a ∧ (((∃ xs, SqL X.K H1 a xs) ∧ Q (Itl X.K a) H1) ∨ ((∃ xs, SqT X.K H1 a xs) ∧ Q (Itt X.K a) H1))) := by
  refine ⟨fun pins s σ H Q I hq => thn (hl.run pins s σ H _ I hq) fun u s1 ⟨x, H1, I1, rx, a, e, q⟩ => ?_⟩
  subst e
  cases rx
  have new : ∀ b ∈ [s1.heap.objs.size], FpOk X pins H1 b := fun b hb => by
    have e : b = s1.heap.objs.size := by simpa using hb
    rw [e]
    exact I1.fpOk (Nat.le_refl _) (I1.hok.fresh (Nat.le_refl _))
  have kept : ∀ ob : Obj, Inv X pins σ H1 { s1 with heap := s1.heap.push ob } := fun ob => I1.kept (t' := s1.toks) fun b o e => Heap.get?_push_of_some _ e
  rcases q with ⟨⟨xs, hq⟩, q⟩ | ⟨⟨xs, hq⟩, q⟩
  · obtain ⟨its, _, pl, _⟩ := I1.list hq
    exact wpAny_pyIter_list pl.isList ⟨s1.heap.objs.size, _, _, _, H1, rfl, kept _, turn_list a _, ⟨_, Heap.get?_push_size _ rfl, rfl, rfl⟩, new, q⟩
  · obtain ⟨its, _, pl, _⟩ := I1.tuple hq
    exact wpAny_pyIter_tuple (show s1.heap.IsTuple a its.toArray from pl) ⟨s1.heap.objs.size, _, _, _, H1, rfl, kept _, turn_tuple a _, ⟨_, Heap.get?_push_size _ rfl, rfl, rfl⟩, new, q⟩
end Ev

namespace Ev
open PySem PySem.Spec PyProof.Rows L2

/-! ## new lists -/
/-- an answer that is a new list -/
def PoF (b : Bx) (F : Hp) (ι : List Addr) (sl : Sls) (σ : VS) (r : R (List W)) (Q : V → Hp → Prop) : Prop := match r with
  | .ok ws h' => ∀ F' ι' H' p us, Le F ι F' ι' → b.J F' ι' sl h' σ H' → Nw b.e0 F' ι' sl σ H' p us → RVs b.K F' ι' ws us → Q (.ref p) H'
  | .exc x h' => ∀ F' ι' H' cls d, Le F ι F' ι' → b.J F' ι' sl h' σ H' → RX b.K b.mg F' ι' x cls d → b.W cls d σ H'
  | .bad => False
def tF (X : Cx) (Z : WX) (m : Sls → Obs → R (List W)) : TE := fun σ H Q => ∃ e0 F ι sl h, J X.K e0 F ι sl h σ H ∧ PoF (bx X Z e0) F ι sl σ (m sl h) Q
section
variable {α β γ δ : Type} {b : Bx} {F F' F1 : Hp} {ι ι' ι1 : List Addr} {sl : Sls} {σ : VS}
theorem PoF.le {r : R (List W)} {Q : V → Hp → Prop} (p : PoF b F ι sl σ r Q) (l : Le F ι F1 ι1) : PoF b F1 ι1 sl σ r Q := by
  cases r with
  | ok a h => exact fun F' ι' H' v us l2 j q => p F' ι' H' v us (l.trans l2) j q
  | exc x h => exact fun F' ι' H' cls d l2 j q => p F' ι' H' cls d (l.trans l2) j q
  | bad => exact p
theorem PoF.bind {rel : Hp → List Addr → α → β → Prop} {r : R α} {f : α → Obs → R (List W)} {Q : V → Hp → Prop} {Q1 : β → Hp → Prop} (p : PoF b F ι sl σ (r.bind f) Q)
    (k : ∀ a h1 F1 ι1 H1 v, Le F ι F1 ι1 → b.J F1 ι1 sl h1 σ H1 → rel F1 ι1 a v → PoF b F1 ι1 sl σ (f a h1) Q → Q1 v H1) : Po b F ι sl σ rel r Q1 := by
  cases r with
  | ok a h => exact fun F1 ι1 H1 v l j q => k a h F1 ι1 H1 v l j q (PoF.le (show PoF b F ι sl σ (f a h) Q from p) l)
  | exc x h => exact p
  | bad => exact p
/-- .. given away -/
theorem PoF.of {k : Bool} {r : R (List W)} {Q : V → Hp → Prop} (p : Po b F ι sl σ (RKd b.K sl σ k) (r.bind fun ws h => .ok (.lst ws) h) Q) : PoF b F ι sl σ r Q := by
  cases r with
  | ok ws h =>
    intro F' ι' H' a us l j n rv
    obtain ⟨j2, l2⟩ := j.frz n
    exact p _ _ H' (.ref a) (l.trans l2) j2 (RKd.of (.lst upd_same (rv.mono l2)))
  | exc x h => exact p
  | bad => exact p
end

/-! ## a comprehension's targets -/
def tPut (X : Cx) (vs : List Nat) (put : W → Sls → Option Sls) : TG := fun v σ H Q => ∃ e0 F ι sl h w s1, J X.K e0 F ι sl h σ H ∧ RV X.K F ι w v ∧ put w sl = some s1 ∧
  ∀ σ1, J X.K e0 F ι s1 h σ1 H → L2.wipe σ1 vs = L2.wipe σ vs → wipeS s1 vs = wipeS sl vs → Q σ1 H
def tPuts (X : Cx) (vs : List Nat) (put : List W → Sls → Option Sls) : TGs := fun us σ H Q => ∃ e0 F ι sl h ws s1, J X.K e0 F ι sl h σ H ∧ RVs X.K F ι ws us ∧ put ws sl = some s1 ∧
  ∀ σ1, J X.K e0 F ι s1 h σ1 H → L2.wipe σ1 vs = L2.wipe σ vs → wipeS s1 vs = wipeS sl vs → Q σ1 H
section
variable {X : Cx} {e : Expr} {es : List Expr}
theorem PG.imp {t t' : TG} (h : PG X e t) (i : ∀ v σ H Q, t' v σ H Q → t v σ H Q) : PG X e t' := ⟨fun pins s σ H v u Q I r q => h.run pins s σ H v u Q I r (i v σ H Q q)⟩
theorem PG.never {t : TG} (n : ∀ v σ H Q, ¬ t v σ H Q) : PG X e t := ⟨fun pins s σ H v u Q I r q => absurd q (n v σ H Q)⟩
theorem PGs.imp {t t' : TGs} (h : PGs X es t) (i : ∀ v σ H Q, t' v σ H Q → t v σ H Q) : PGs X es t' := ⟨fun pins s σ H v u Q I r q => h.run pins s σ H v u Q I r (i v σ H Q q)⟩
theorem PI.imp {tg it : Expr} {t t' : TI} (h : PI X tg it t) (i : ∀ σ H Q, t' σ H Q → t σ H Q) : PI X tg it t' := ⟨fun pins s σ H Q I q => h.run pins s σ H Q I (i σ H Q q)⟩
end
def Tgs.len : Tgs → Nat
  | .nil => 0
  | .cons _ ts => ts.len + 1
theorem assignEach_un {env : Env} : ∀ (t : Tg) (es : List Expr), assignEach (t.un :: es) env = (false, assign t.un env) :: assignEach es env
  | .name .., _ => rfl
  | .tup .., _ => rfl
  | .sub .., _ => rfl
theorem each_len {env : Env} : ∀ (ts : Tgs), (assignEach ts.un env).length = ts.len
  | .nil => rfl
  | .cons t ts => by
    show (assignEach (t.un :: ts.un) env).length = ts.len + 1
    rw [assignEach_un, List.length_cons, each_len ts]
theorem each_star {env : Env} : ∀ (ts : Tgs), (assignEach ts.un env).findIdx? (·.1) = none
  | .nil => rfl
  | .cons t ts => by
    show (assignEach (t.un :: ts.un) env).findIdx? (·.1) = none
    rw [assignEach_un, List.findIdx?_cons, each_star ts]
    rfl
theorem put_len : ∀ {ts : Tgs} {ws : List W} {sl s1 : Sls}, ts.put ws sl = some s1 → ws.length = ts.len
  | .nil, [], _, _, _ => rfl
  | .nil, _ :: _, _, _, h => by cases h
  | .cons t ts, [], _, _, h => by cases h
  | .cons t ts, w :: ws, sl, s1, h => by
    have h : (match t.put w sl with | some s => ts.put ws s | none => none) = some s1 := h
    cases q : t.put w sl with
    | none => rw [q] at h; cases h
    | some s =>
      rw [q] at h
      exact congrArg (· + 1) (put_len h)
mutual
theorem Tg.pput {X : Cx} {c : Oc} (hc : X.calm = true) (hN : X.N = c.N) (nd : X.N.Nodup) {vs : List Nat} : ∀ (t : Tg), t.okC c X.env.scope vs = true → PG X t.un (tPut X vs t.put)
  | .name x i p, ok => by
    obtain ⟨h1, h2⟩ := and_ok (show (decide (c.N[i]? = some x) && (locB X.env.scope x && decide (i ∈ vs))) = true from ok)
    obtain ⟨h2, h3⟩ := and_ok h2
    have hl := locB_ok h2
    have hi : i ∈ vs := of_decide_eq_true h3
    refine PG.imp (pg_name nd (i := i) (by rw [hN]; exact of_decide_eq_true h1) (.inl hl) (.inr hl)) ?_
    rintro v σ H Q ⟨e0, F, ι, sl, h, w, s1, j, r, hp, k⟩
    cases hp
    exact k _ (j.setV r) (wipe_set hi) (wipeS_set hi)
  | .tup ts n p, ok => by
    refine PG.imp (pg_tup hc (Tgs.pput hc hN nd ts ok) (each_len ts) (each_star ts)) ?_
    rintro v σ H Q ⟨e0, F, ι, sl, h, w, s1, j, r, hp, k⟩
    cases w with
    | tup ws =>
      have hp : ts.put ws sl = some s1 := hp
      cases r with
      | tup sq rv => exact ⟨_, _, rfl, sqT_mono j.hr.sub sq, by rw [← rv.length]; exact put_len hp, e0, F, ι, sl, h, ws, s1, j, rv, hp, k⟩
    | _ => cases hp
  | .sub a i p, ok => by cases ok
theorem Tgs.pput {X : Cx} {c : Oc} (hc : X.calm = true) (hN : X.N = c.N) (nd : X.N.Nodup) {vs : List Nat} : ∀ (ts : Tgs), ts.okC c X.env.scope vs = true → PGs X ts.un (tPuts X vs ts.put)
  | .nil, ok => by
    refine PGs.imp pgs_nil ?_
    rintro us σ H Q ⟨e0, F, ι, sl, h, ws, s1, j, r, hp, k⟩
    cases ws with
    | nil =>
      cases r
      cases hp
      exact ⟨rfl, k _ j rfl rfl⟩
    | cons _ _ => cases hp
  | .cons t ts, ok => by
    obtain ⟨o1, o2⟩ := and_ok (show (t.okC c X.env.scope vs && ts.okC c X.env.scope vs) = true from ok)
    refine PGs.imp (pgs_cons (Tg.pput hc hN nd t o1) (Tgs.pput hc hN nd ts o2) (by rw [assignEach_un]; rfl)) ?_
    rintro us σ H Q ⟨e0, F, ι, sl, h, ws, s1, j, r, hp, k⟩
    cases ws with
    | nil => cases hp
    | cons w ws =>
      have hp : (match t.put w sl with | some s => ts.put ws s | none => none) = some s1 := hp
      cases q : t.put w sl with
      | none => rw [q] at hp; cases hp
      | some s =>
        rw [q] at hp
        cases r with
        | cons r1 rr =>
          refine ⟨_, _, rfl, e0, F, ι, sl, h, w, s, j, r1, q, fun σ1 j1 e1 e2 => ⟨e0, F, ι, s, h, ws, s1, j1, rr, hp, fun σ2 j2 e3 e4 => ?_⟩⟩
          exact k σ2 j2 (e3.trans e1) (e4.trans e2)
end

/-! ## a comprehension -/
theorem lc_rd {X : Cx} {Z : WX} {vs : List Nat} {mi : Sls → Obs → R (List W)} {put : W → Sls → Option Sls} {ct : Sls → Obs → R Bool} {me : Sls → Obs → R W} {σ : VS} {H : Hp} {Q : VK}
    (q : tF X Z (fun sl h => match noOwn sl vs with | true => (mi sl h).bind fun xs h => lcGo (fun x => put x (wipeS sl vs)) ct me xs [] h | false => .bad) σ H Q) :
    tLc (tWk X Z mi) (tPut X vs put) (tT X nox ct) (tE X nox false me) vs σ H Q := by
  obtain ⟨e0, F, ι, sl, h, j, p⟩ := q
  cases hno : noOwn sl vs with
  | false => simp only [hno] at p; exact False.elim p
  | true =>
    simp only [hno] at p
    refine ⟨e0, F, ι, sl, h, j, p.bind fun xs h1 F1 ι1 H1 t l1 j1 wk p1 => ?_⟩
    intro Dd hD
    obtain ⟨n0, nh, ns⟩ := j1.none0 hD
    let Go : Nat → Nat → Hp → Prop := fun i m H => m = xs.length - i ∧ i ≤ xs.length ∧ ∃ F2 ι2 h2 acc us, Le F1 ι1 F2 ι2 ∧ J X.K (e0.keep Dd (.lst us)) F2 ι2 (wipeS sl vs) h2 (L2.wipe σ vs) H ∧ RVs X.K F2 ι2 acc us ∧
      PoF (bx X Z e0) F2 ι2 sl σ (lcGo (fun x => put x (wipeS sl vs)) ct me (xs.drop i) acc h2) Q
    refine ⟨Go, ⟨xs.length, by simp, Nat.zero_le _, F1, ι1, h1, [], [], .refl, (j1.hold hD).wipe vs, .nil, p1⟩, ?_⟩
    rintro i m H2 ⟨rfl, hi, F2, ι2, h2, acc, us, l2, j2, ra, p2⟩
    have w2 := wk i _ F2 ι2 _ h2 _ H2 l2 j2
    by_cases hlt : i < xs.length
    · right
      have ei : xs[i]? = some xs[i] := List.getElem?_eq_getElem hlt
      obtain ⟨go, yl⟩ := w2.2 _ ei
      refine ⟨go, fun H => Go (i + 1) (xs.length - (i + 1)) H, fun H' q => ⟨_, by omega, q⟩, fun x H' y => ?_⟩
      obtain ⟨F3, ι3, l3, j3, rx⟩ := yl x H' y
      rw [List.drop_eq_getElem_cons hlt] at p2
      unfold lcGo at p2
      cases hp : put xs[i] (wipeS sl vs) with
      | none => simp only [hp] at p2; exact False.elim p2
      | some s1 =>
        simp only [hp] at p2
        refine ⟨_, F3, ι3, _, h2, _, s1, j3, rx, hp, fun σ2 j4 e1 e2 => ⟨e1.trans (wipe_wipe σ vs), ?_⟩⟩
        have e1' : L2.wipe σ2 vs = L2.wipe σ vs := e1.trans (wipe_wipe σ vs)
        have e2' : wipeS s1 vs = wipeS sl vs := e2.trans (wipeS_wipeS sl vs)
        refine ⟨_, F3, ι3, s1, h2, j4, ?_⟩
        cases hc : ct s1 h2 with
        | bad => simp only [hc] at p2; exact False.elim p2
        | exc x h3 => simp only [hc] at p2; exact False.elim p2
        | ok b h3 =>
          intro F4 ι4 H4 b' l4 j5 eb
          subst eb
          cases b with
          | false =>
            simp only [hc] at p2
            simp only [Bool.false_eq_true, if_false]
            have j6 := j5.wipe vs
            rw [e1', e2'] at j6
            exact ⟨rfl, hlt, F4, ι4, h3, acc, us, l2.trans (l3.trans l4), j6, ra.mono (l3.trans l4), p2.le (l3.trans l4)⟩
          | true =>
            simp only [hc] at p2
            simp only [if_true]
            refine ⟨_, F4, ι4, s1, h3, j5, ?_⟩
            cases he : me s1 h3 with
            | bad => simp only [he] at p2; exact False.elim p2
            | exc x h4 => simp only [he] at p2; exact False.elim p2
            | ok y h4 =>
              simp only [he] at p2
              intro F5 ι5 H5 v l5 j6 rv
              obtain ⟨q1, q2, q3, q4⟩ := j6.hd Dd _ upd_same
              cases hd : decide (acc.length < sizeLine) with
              | false => simp only [hd] at p2; exact False.elim p2
              | true =>
                simp only [hd] at p2
                have j7 := (j6.wipe vs).reHold (o' := .lst (us ++ [v])) n0
                rw [e1', e2'] at j7
                have l35 := l3.trans (l4.trans l5)
                exact ⟨us, q1, by rw [← ra.length]; exact of_decide_eq_true hd, rfl, hlt, F5, ι5, h4, acc ++ [y], us ++ [v], l2.trans l35, j7, (ra.mono l35).append (.cons rv .nil), p2.le l35⟩
    · left
      refine ⟨w2.1 (by omega), ?_⟩
      rw [List.drop_eq_nil_of_le (by omega)] at p2
      unfold lcGo at p2
      obtain ⟨j3, nw⟩ := j2.unhold n0 nh
      exact p2 F2 ι2 H2 Dd us .refl (j1.unwipe hno l2 j3) ⟨nw.at_, nw.f, nw.i, nw.o, nw.hd, ns⟩ ra
end Ev

set_option maxHeartbeats 1000000
namespace Ev
open PySem PySem.Spec PyProof.Rows L2

/-! ## names of built-ins -/
theorem bt_boot : ∀ b : Bt, bootBuiltins b.nm = some b.val := by
  intro b
  cases b <;> decide +kernel
theorem bt_name : ∀ b : Bt, b.nm ≠ "__name__" ∧ (b.nm == ("__debug__" : Str)) = false := by
  intro b
  cases b <;> exact ⟨by decide +kernel, by decide +kernel⟩
theorem ty_boot : ∀ t : Ty, t.isB = true → bootBuiltins t.nm = some (.type t.s) := by
  intro t
  cases t <;> first | (intro h; cases h; done) | (intro _; decide +kernel)
theorem ty_name : ∀ t : Ty, t.nm ≠ "__name__" ∧ (t.nm == ("__debug__" : Str)) = false := by
  intro t
  cases t <;> exact ⟨by decide +kernel, by decide +kernel⟩
section
variable {X : Cx} {x : Str} {p pos : Pos} {e : Expr} {es : List Expr} {t : TA}
/-- a built-in, function or class, called -/
theorem pe_bt (b : Bt) (n : X.calm = true) (g : X.A.guards = some []) (u : X.A.units + 70 < cLine) (hg : Gl X b.nm) (hm : X.mg b.nm = none) (ha : PA X (e :: es) t) (he : starEach (e :: es) X.env = (false, eval e X.env) :: starEach es X.env)
    (hpl : (backTo pos (starEach es X.env)).any (·.1) = false) : PE X (.Call (.Name b.nm p) (e :: es) [] pos) (tCB (rBlt X.K b) t) := by
  have c := blt_ok (X := X) b n g u
  have bb := bt_boot b
  obtain ⟨n1, n2⟩ := bt_name b
  cases hb : b.val with
  | builtin id =>
    rw [hb] at c bb
    exact pe_callB c hg hm bb ha n1 n2 he hpl
  | type id =>
    rw [hb] at c bb
    exact pe_callTy c hg hm bb ha n1 n2 he hpl
  | _ => cases b <;> cases hb
end
theorem isTy_ty {K : PySem.W.Frag} (a b : Ty) : PySem.W.kitOne K (.type a.s) (.type b.s) = some (isTy a b) := kit_ty (kit_is a b)
theorem isTy_two {K : PySem.W.Frag} (a b c : Ty) : PySem.W.kitAny K (.type a.s) [.type b.s, .type c.s] = some (isTy a b || isTy a c) := by
  refine kitAny_cons (isTy_ty a b) (fun h => ?_) (fun h => by rw [h]; rfl)
  rw [h, Bool.false_or]
  exact kitAny_cons (isTy_ty a c) (fun h => by rw [h]; exact kitAny_nil) (fun h => h)

/-- a subscript -/
theorem ix_of {K : PySem.W.Frag} {e0 : Ent} {F : Hp} {ι : List Addr} {sl : Sls} {h : Obs} {σ : VS} {H : Hp} {x y w : W} {v u : V} {Q : VK} (j : J K e0 F ι sl h σ H) (r : RN K F ι H x v) (r2 : RV K F ι y u) (e : idxW x y = some w)
    (k : ∀ z, RV K F ι w z → Q z H) : rIx K v u H Q := by
  cases r2 with
  | int i =>
    cases x with
    | lst ws =>
      obtain ⟨a, vs, rfl, ha, rv⟩ := r.lst j.hr.sub
      obtain ⟨z, e1, rz⟩ := rv.atI (i := i) e
      exact .inl ⟨a, vs, i, z, rfl, rfl, .inl (.inl ha), e1, k z rz⟩
    | tup ws =>
      have r1 := r.rv (fun _ z => by cases z)
      cases r1 with
      | tup sq rv =>
        obtain ⟨z, e1, rz⟩ := rv.atI (i := i) e
        exact .inr (.inl ⟨_, _, i, z, rfl, rfl, sqT_mono j.hr.sub sq, e1, k z rz⟩)
    | scr ns =>
      have r1 := r.rv (fun _ z => by cases z)
      cases r1 with
      | scr sq =>
        have e : (L2.atI ns i).map W.int = some w := e
        have e2 : L2.atI (ns.map W.int) i = some w := by
          unfold L2.atI at e ⊢
          rw [List.length_map]
          cases q : ixN ns.length i with
          | none => rw [q] at e; cases e
          | some m => rw [q] at e; show (ns.map W.int)[m]? = some w; rw [List.getElem?_map]; exact e
        obtain ⟨z, e1, rz⟩ := (RVs.ints (K := K) (F := F) (ι := ι) ns).atI (i := i) e2
        exact .inl ⟨_, _, i, z, rfl, rfl, sqL_mono j.hr.sub sq, e1, k z rz⟩
    | str s =>
      cases r.str
      have e : (match lineN s.length with | true => (L2.atI s.cps.toList i).map fun c => W.str ⟨#[c]⟩ | false => none) = some w := e
      split at e
      · rename_i hl
        cases q : L2.atI s.cps.toList i with
        | none => rw [q] at e; cases e
        | some c =>
          rw [q] at e
          cases e
          exact .inr (.inr ⟨s, i, c, rfl, rfl, lineN_ok hl, q, k _ (.str _)⟩)
      · cases e
    | _ => cases e
  | _ => cases e

/-! ## the readings hold -/
section
variable {X : Cx} {Z : WX} {D : Dn} {c : Oc}
/-- calls -/
theorem call_pe (n : Cn X Z D c) {i : Nat} {x : Str} {xp p : Pos} {es : Es} (hf : c.fs i = some x) (hg : glB X.env.scope x = true) (hd : nmB x = true) (ha : PA X es.un (tA X Z false (es.den D false))) :
    PE X (.Call (.Name x xp) es.un [] p) (tE X Z false fun σ h => (es.den D false σ h).bind fun ws h => D.call i ws h) := by
  obtain ⟨g, fd, ps, k, m1, m2, m3, m4, m5, m6, _⟩ := n.fn i x hf
  refine ⟨fun pins s σ H Q I q => ?_⟩
  refine wpAny_Call_Name_kw (ld_glob I (glB_ok hg) m1 ?_ (nmB_ok hd).1)
  obtain ⟨e0, F, ι, sl, h, j, q⟩ := q
  have step : ∀ {us : List Value} {s1 : Shared} {H1 : Hp} {vs : List V} {h1 : Obs} {F1 : Hp} {ι1 : List Addr} {ws : List W}, Inv X pins σ H1 s1 → Vals vs us → J X.K e0 F1 ι1 sl h1 σ H1 → RVs X.K F1 ι1 ws vs →
      Po (bx X Z e0) F1 ι1 sl σ (RKd X.K sl σ false) (D.call i ws h1) Q → wpAny (model X.prog X.w) X.A (call (.ref g) us) (EP X pins σ Q) X.xe s1 := fun {us s1 H1 vs h1 F1 ι1 ws} I1 r1 j1 rv q1 => by
    have hl : vs.length = ps.length := by
      rcases n.ar i ws h1 with z | z
      · rw [z] at q1; exact False.elim q1
      · rw [← rv.length, z, m4]
    have hb := m3 s1 us I1.kIn (by rw [List.append_nil, ← r1.length]; exact hl)
    rw [List.append_nil] at hb
    exact run_w n.tk m5 n.gd m6 I1 hb r1 hl j1 rv q1
  cases es with
  | nil => exact PySem.W.callWith_K0 I.kIn m2 (step (us := []) I .nil j .nil q)
  | cons e es =>
    refine PySem.W.callWith_K (h₀ := X.base) I.ok.mod.kin m2 (thn (ha.run p pins s σ H _ I ⟨e0, F, ι, sl, h, j, q.bind fun ws h1 F1 ι1 H1 vs l1 j1 r1 p1 => (⟨h1, F1, ι1, ws, j1, r1.rvs, p1⟩ :
      ∃ h1 F1 ι1 ws, J X.K e0 F1 ι1 sl h1 σ H1 ∧ RVs X.K F1 ι1 ws vs ∧ Po (bx X Z e0) F1 ι1 sl σ (RKd X.K sl σ false) (D.call i ws h1) Q)⟩) fun us s1 ⟨vs, H1, I1, r1, h1, F1, ι1, ws, j1, rv, q1⟩ => ⟨I1.kIn, step (us := us) I1 r1 j1 rv q1⟩)
      (star_un e es.un) (plain_un p es)
end
/-- keyword arguments -/
def tK (X : Cx) (Z : WX) (ns : List Str) (m : Sls → Obs → R (List (Str × W))) : TA := fun σ H Q => ∃ e0 F ι sl h, J X.K e0 F ι sl h σ H ∧ Po (bx X Z e0) F ι sl σ (fun F ι ks vs => ks.map Prod.fst = ns ∧ RVs X.K F ι (ks.map Prod.snd) vs) (m sl h) Q
theorem PK.imp {X : Cx} {ks : List Keyword} {t t' : TA} (h : PK X ks t) (i : ∀ σ H Q, t' σ H Q → t σ H Q) : PK X ks t' := ⟨fun pos pins s σ H Q I q => h.run pos pins s σ H Q I (i σ H Q q)⟩
theorem ks_each {env : Env} (p : Pos) : ∀ ks : Ks, (backToKw p (keywordEach ks.un env)).all (·.1.isSome) = true ∧ (backToKw p (keywordEach ks.un env)).filterMap (·.1) = ks.names ∧ (backToKw p (keywordEach ks.un env)).any (·.1.isNone) = false
  | .nil => ⟨rfl, rfl, rfl⟩
  | .cons x e q ks => by
    obtain ⟨h1, h2, h3⟩ := ks_each p ks
    have z : backToKw p (keywordEach (Ks.un (.cons x e q ks)) env) = (some x, (do let v ← eval e.un env; standAt p; pure v)) :: backToKw p (keywordEach ks.un env) := rfl
    rw [z]
    refine ⟨?_, ?_, ?_⟩
    · rw [List.all_cons, h1]; rfl
    · rw [List.filterMap_cons, h2]; rfl
    · rw [List.any_cons, h3]; rfl
theorem es_len {D : Dn} {k : Bool} : ∀ {es : Es} {σ : Sls} {h h' : Obs} {ws : List W}, es.den D k σ h = .ok ws h' → ws.length = es.len
  | .nil, σ, h, h', ws, z => by cases z; rfl
  | .cons e es, σ, h, h', ws, z => by
    have z : ((e.den D k σ h).bind fun w h => (es.den D k σ h).bind fun ws h => R.ok (w :: ws) h) = .ok ws h' := z
    cases q1 : e.den D k σ h with
    | ok w h1 =>
      rw [q1] at z
      have z : ((es.den D k σ h1).bind fun ws h => R.ok (w :: ws) h) = .ok ws h' := z
      cases q2 : es.den D k σ h1 with
      | ok us h2 =>
        rw [q2] at z
        cases z
        exact congrArg (· + 1) (es_len q2)
      | exc x h2 => rw [q2] at z; cases z
      | bad => rw [q2] at z; cases z
    | exc x h2 => rw [q1] at z; cases z
    | bad => rw [q1] at z; cases z
theorem Po.strong {α β : Type} {b : Bx} {F : Hp} {ι : List Addr} {sl : Sls} {σ : VS} {rel : Hp → List Addr → α → β → Prop} {r : R α} {Q : β → Hp → Prop} {C : α → Prop} (hc : ∀ a h, r = .ok a h → C a) (p : Po b F ι sl σ (fun F ι a v => rel F ι a v ∧ C a) r Q) : Po b F ι sl σ rel r Q := by
  cases r with
  | ok a h => exact fun F' ι' H' v l j q => p F' ι' H' v l j ⟨q, hc a h rfl⟩
  | exc x h => exact p
  | bad => exact p
theorem callK_pe {X : Cx} {Z : WX} {D : Dn} {c : Oc} (n : Cn X Z D c) {i : Nat} {x : Str} {xp p : Pos} {es : Es} {ks : Ks} (hf : c.fs i = some x) (hg : glB X.env.scope x = true) (hd : nmB x = true) (hk : (i, es.len, ks.names) ∈ c.kws) (ha : PA X es.un (tA X Z false (es.den D false))) (hb : PK X ks.un (tK X Z ks.names (ks.den D))) :
    PE X (.Call (.Name x xp) es.un ks.un p) (tE X Z false fun σ h => (es.den D false σ h).bind fun ws h => (ks.den D σ h).bind fun zs h => match kwPut (D.par i) ws zs with | some us => D.call i us h | none => .bad) := by
  obtain ⟨g, fd, ps, k, m1, m2, m3, m4, m5, m6, m7⟩ := n.fn i x hf
  refine ⟨fun pins s σ H Q I q => ?_⟩
  refine wpAny_Call_Name_kw (ld_glob I (glB_ok hg) m1 ?_ (nmB_ok hd).1)
  obtain ⟨e0, F, ι, sl, h, j, q⟩ := q
  obtain ⟨k1, k2, k3⟩ := ks_each (env := X.env) p ks
  have step : ∀ {us zs : List Value} {s1 : Shared} {H1 : Hp} {vs ys : List V} {h1 : Obs} {F1 : Hp} {ι1 : List Addr} {ws : List W} {kw : List (Str × W)}, Inv X pins σ H1 s1 → Vals vs us → Vals ys zs → us.length = es.len → J X.K e0 F1 ι1 sl h1 σ H1 → RVs X.K F1 ι1 ws vs → kw.map Prod.fst = ks.names → RVs X.K F1 ι1 (kw.map Prod.snd) ys →
      Po (bx X Z e0) F1 ι1 sl σ (RKd X.K sl σ false) (match kwPut (D.par i) ws kw with | some us => D.call i us h1 | none => .bad) Q → wpAny (model X.prog X.w) X.A (call (.ref g) us (ks.names.zip zs)) (EP X pins σ Q) X.xe s1 := fun {us zs s1 H1 vs ys h1 F1 ι1 ws kw} I1 r1 r2 hl j1 rv en ry q1 => by
    have lz : zs.length = ks.names.length := by rw [← r2.length, ← ry.length, List.length_map, ← en, List.length_map]
    obtain ⟨as, e1, bnd⟩ := m7 _ _ hk us zs hl lz
    cases hp : kwPut (D.par i) ws kw with
    | none => rw [hp] at q1; exact False.elim q1
    | some as1 =>
      rw [hp] at q1
      rw [m4] at hp
      obtain ⟨as2, e2, r3⟩ := kwPut_rel rv.pair (zip_pair ry.pair) hp
      rw [en] at e2
      obtain ⟨as3, e3, r4⟩ := kwPut_rel (rel := RelV) r1 (zip_two (ks := ks.names) r2) e2
      rw [e1] at e3
      cases e3
      have rw1 := RVs.unpair r3
      refine run_w n.tk m5 n.gd m6 I1 (bnd s1) r4 ?_ j1 rw1 q1
      have q1 : Po (bx X Z e0) F1 ι1 sl σ (RKd X.K sl σ false) (D.call i as1 h1) Q := q1
      rcases n.ar i as1 h1 with z | z
      · rw [z] at q1; exact False.elim q1
      · rw [← rw1.length, z, m4]
  have kws : ∀ {us : List Value} {s1 : Shared} {H1 : Hp} {vs : List V} {h1 : Obs} {F1 : Hp} {ι1 : List Addr} {ws : List W}, Inv X pins σ H1 s1 → Vals vs us → us.length = es.len → J X.K e0 F1 ι1 sl h1 σ H1 → RVs X.K F1 ι1 ws vs →
      Po (bx X Z e0) F1 ι1 sl σ (RKd X.K sl σ false) ((ks.den D sl h1).bind fun zs h => match kwPut (D.par i) ws zs with | some us => D.call i us h | none => .bad) Q →
      wpAny (model X.prog X.w) X.A (evalAll ((backToKw p (keywordEach ks.un X.env)).map (·.2))) (fun zs s2 => X.K.In s2.heap ∧ wpAny (model X.prog X.w) X.A (call (.ref g) us (((backToKw p (keywordEach ks.un X.env)).filterMap (·.1)).zip zs)) (EP X pins σ Q) X.xe s2) X.xe s1 := fun {us s1 H1 vs h1 F1 ι1 ws} I1 r1 hl j1 rv q1 => by
    rw [k2]
    refine thn (hb.run p pins s1 σ H1 _ I1 ⟨e0, F1, ι1, sl, h1, j1, q1.bind fun kw h2 F2 ι2 H2 ys l2 j2 r2 q2 => (⟨h2, F2, ι2, kw, j2, rv.mono l2, r2, q2⟩ :
      ∃ h2 F2 ι2 kw, J X.K e0 F2 ι2 sl h2 σ H2 ∧ RVs X.K F2 ι2 ws vs ∧ (kw.map Prod.fst = ks.names ∧ RVs X.K F2 ι2 (kw.map Prod.snd) ys) ∧ Po (bx X Z e0) F2 ι2 sl σ (RKd X.K sl σ false) (match kwPut (D.par i) ws kw with | some us => D.call i us h2 | none => .bad) Q)⟩) fun zs s2 ⟨ys, H2, I2, rz, h2, F2, ι2, kw, j2, rv2, ⟨en, ry⟩, q2⟩ => ⟨I2.kIn, step I2 r1 rz hl j2 rv2 en ry q2⟩
  cases es with
  | nil => exact PySem.W.callWith_KW0 (h₀ := X.base) I.ok.mod.kin m2 k1 (kws (us := []) I .nil rfl j .nil q) (by rw [k3]; rfl)
  | cons e es =>
    refine PySem.W.callWith_KW (h₀ := X.base) I.ok.mod.kin m2 k1 (thn (ha.run p pins s σ H _ I ⟨e0, F, ι, sl, h, j, Po.strong (C := fun ws => ws.length = es.len + 1) (fun a h' z => es_len z) (q.bind fun ws h1 F1 ι1 H1 vs l1 j1 r1 p1 => (⟨h1, F1, ι1, ws, j1, r1.1.rvs, r1.2, p1⟩ :
      ∃ h1 F1 ι1 ws, J X.K e0 F1 ι1 sl h1 σ H1 ∧ RVs X.K F1 ι1 ws vs ∧ ws.length = es.len + 1 ∧ Po (bx X Z e0) F1 ι1 sl σ (RKd X.K sl σ false) ((ks.den D sl h1).bind fun zs h => match kwPut (D.par i) ws zs with | some us => D.call i us h | none => .bad) Q))⟩)
      fun us s1 ⟨vs, H1, I1, r1, h1, F1, ι1, ws, j1, rv, hl, q1⟩ => kws (us := us) I1 r1 (by rw [← r1.length, ← rv.length]; exact hl) j1 rv q1) ?_ (star_un e es.un)
    show ((backTo p (starEach (e.un :: es.un) X.env)).any (·.1) || _) = false
    rw [k3, Bool.or_false]
    have z := plain_un (env := X.env) p (.cons e es)
    exact z
theorem lc_of {X : Cx} {Z : WX} {D : Dn} {c : Oc} (n : Cn X Z D c) {e : E} {tg : Tg} {it : It} {t : Eo} {vs : List (Str × Nat)} {sc : Scope} {p : Pos} (o1 : blkC c.N X.env.scope sc vs = true) (o4 : tg.okC c (relS sc X.env.scope) (ixs vs) = true)
    (hi : PI X tg.un it.un (tWk X Z (it.den D)))
    (ht : ∀ (s : Shared) (H : Hp) (C : Addr) (cl : List (Str × Addr)) (fp : List Addr), PTs (X.blk s H sc (compEnvC sc cl C X.env) fp) t.uns (tT (X.blk s H sc (compEnvC sc cl C X.env) fp) nox (t.tst D)))
    (he : ∀ (s : Shared) (H : Hp) (C : Addr) (cl : List (Str × Addr)) (fp : List Addr), PE (X.blk s H sc (compEnvC sc cl C X.env) fp) e.un (tE (X.blk s H sc (compEnvC sc cl C X.env) fp) nox false (e.den D false))) :
    PE X (E.un (.lc e tg it t vs sc p)) (tF X Z (fun σ h => match noOwn σ (ixs vs) with
      | true => (it.den D σ h).bind fun xs h => lcGo (fun x => tg.put x (wipeS σ (ixs vs))) (fun σ h => t.tst D σ h) (fun σ h => e.den D false σ h) xs [] h
      | false => .bad)) := by
  refine PE.imp (pe_lc (wi := tWk X Z (fun σ h => it.den D σ h)) (g := tPut X (ixs vs) tg.put) (tt := tT X nox (fun σ h => t.tst D σ h)) (te := tE X nox false (fun σ h => e.den D false σ h)) n.calm n.nd hi (blkOk_by (by rw [n.N]; exact o1))
    (fun s H C cl fp => Tg.pput (X := X.blk s H sc (compEnvC sc cl C X.env) fp) n.calm n.N n.nd tg o4) ht he (foldedI_un it)) ?_
  intro σ H Q q
  exact lc_rd q
mutual
theorem E.pe {D : Dn} {c : Oc} : ∀ (e : E) (X : Cx) (Z : WX) (n : Cn X Z D c) (k : Bool), e.okE c X.env.scope = true → PE X e.un (tE X Z k (e.den D k))
  | .name x i p, X, Z, n, k, ok => by
    obtain ⟨h1, h2⟩ := and_ok (show (decide (c.N[i]? = some x) && (visB X.env.scope x && nmB x)) = true from ok)
    obtain ⟨h2, h3⟩ := and_ok h2
    refine PE.imp (pe_var (by rw [n.N]; exact of_decide_eq_true h1) (visB_ok h2) (nmB_ok h3).1 (nmB_ok h3).2) ?_
    rintro σ H Q ⟨e0, F, ι, sl, h, j, q⟩
    obtain ⟨w, e, q⟩ := q.opt
    unfold slotV at e
    split at e
    · rename_i w' hw
      cases e
      obtain ⟨v, e1, rv⟩ := j.at_ i _ hw
      exact ⟨v, e1, q.ret j (RKd.of rv)⟩
    · cases e
  | .peek x i p, X, Z, n, k, ok => by
    obtain ⟨h1, h2⟩ := and_ok (show (decide (c.N[i]? = some x) && (visB X.env.scope x && nmB x)) = true from ok)
    obtain ⟨h2, h3⟩ := and_ok h2
    refine PE.imp (pe_var (by rw [n.N]; exact of_decide_eq_true h1) (visB_ok h2) (nmB_ok h3).1 (nmB_ok h3).2) ?_
    rintro σ H Q ⟨e0, F, ι, sl, h, j, q⟩
    cases k with
    | false => exact False.elim q
    | true =>
      have q : Po (bx X Z e0) F ι sl σ (RKd X.K sl σ true) (.opt (slotP sl i) h) Q := q
      obtain ⟨w, e, q⟩ := q.opt
      unfold slotP at e
      split at e
      · rename_i w' hw
        cases e
        obtain ⟨v, e1, rv⟩ := j.at_ i _ hw
        exact ⟨v, e1, q.ret j (RKd.of rv)⟩
      · rename_i ws hw
        cases e
        obtain ⟨a, vs, e1, e2, rv, _⟩ := j.at_ i _ hw
        exact ⟨.ref a, e1, q.ret j (.inr ⟨i, ws, a, rfl, rfl, hw, e1⟩)⟩
      · cases e
  | .cst x p, X, Z, n, k, ok => by
    obtain ⟨h1, h2⟩ := and_ok (show (glB X.env.scope x && nmB x) = true from ok)
    refine ⟨fun pins s σ H Q I q => ?_⟩
    obtain ⟨e0, F, ι, sl, h, j, q⟩ := q
    obtain ⟨w, e, q⟩ := q.opt
    obtain ⟨v, u, e1, e2, e3⟩ := n.cst x w e
    exact (pe_glob (glB_ok h1) e1 e2 (nmB_ok h2).1).run pins s σ H Q I (q.ret j (RKd.of (e3 F ι)))
  | .tr e, X, Z, n, k, ok => PE.never fun σ H Q ⟨e0, F, ι, sl, h, j, q⟩ => q
  | .int i a p, X, Z, n, k, ok => PE.imp pe_int fun σ H Q ⟨e0, F, ι, sl, h, j, q⟩ => q.ret j (RKd.of (.int i))
  | .str s a p, X, Z, n, k, ok => PE.imp pe_str fun σ H Q ⟨e0, F, ι, sl, h, j, q⟩ => q.ret j (RKd.of (.str s))
  | .bl b a p, X, Z, n, k, ok => PE.imp pe_bl fun σ H Q ⟨e0, F, ι, sl, h, j, q⟩ => q.ret j (RKd.of (.bl b))
  | .non a p, X, Z, n, k, ok => PE.imp pe_non fun σ H Q ⟨e0, F, ι, sl, h, j, q⟩ => q.ret j (RKd.of .non)
  | .tup es a p, X, Z, n, k, ok => by
    refine PE.imp (pe_tup (Es.pa es X Z n false ok)) ?_
    rintro σ H Q ⟨e0, F, ι, sl, h, j, q⟩
    refine ⟨e0, F, ι, sl, h, j, q.bind fun ws h1 F1 ι1 H1 vs l1 j1 r1 q1 => ?_⟩
    cases hl : lineN ws.length with
    | false => simp only [hl] at q1; exact False.elim q1
    | true =>
      simp only [hl] at q1
      refine ⟨by rw [← r1.rvs.length]; exact lineN_ok hl, fun a ha => ?_⟩
      exact q1 _ _ _ (.ref a) (j1.newLe (o := .tup vs) ha) (j1.new ha) (RKd.of (.tup (.inl (.inl upd_same)) (r1.rvs.mono (j1.newLe ha))))
  | .lst es p, X, Z, n, k, ok => by
    refine PE.imp (pe_lst (Es.pa es X Z n false ok)) ?_
    rintro σ H Q ⟨e0, F, ι, sl, h, j, q⟩
    refine ⟨e0, F, ι, sl, h, j, q.bind fun ws h1 F1 ι1 H1 vs l1 j1 r1 q1 => ?_⟩
    cases hl : lineN ws.length with
    | false => simp only [hl] at q1; exact False.elim q1
    | true =>
      simp only [hl] at q1
      refine ⟨by rw [← r1.rvs.length]; exact lineN_ok hl, fun a ha => ?_⟩
      exact q1 _ _ _ (.ref a) (j1.newLe (o := .lst vs) ha) (j1.new ha) (RKd.of (.lst upd_same (r1.rvs.mono (j1.newLe ha))))
  | .lstH es p, X, Z, n, k, ok => by
    refine PE.imp (pe_lst (Es.pa es X Z n false ok)) ?_
    rintro σ H Q ⟨e0, F, ι, sl, h, j, q⟩
    refine ⟨e0, F, ι, sl, h, j, q.bind fun ws h1 F1 ι1 H1 vs l1 j1 r1 q1 => ?_⟩
    cases hl : lineN ws.length with
    | false => simp only [hl] at q1; exact False.elim q1
    | true =>
      simp only [hl] at q1
      refine ⟨by rw [← r1.rvs.length]; exact lineN_ok hl, fun a ha => ?_⟩
      have j2 := j1.newH (ws := ws) ha r1.rvs
      refine q1 _ _ _ (.ref a) ⟨fun _ _ e => e, [a], rfl⟩ j2 (RKd.of (.ref ?_))
      rw [← j1.hr.len, List.getElem?_append_right (Nat.le_refl _), Nat.sub_self]
      rfl
  | .emp p, X, Z, n, k, ok => by
    refine PE.imp pe_dnewK ?_
    rintro σ H Q ⟨e0, F, ι, sl, h, j, q⟩
    intro a ha
    exact q _ _ _ (.ref a) (j.newLe (o := .dK []) ha) (j.new ha) (RKd.of (.emp upd_same))
  | .bin op a b p, X, Z, n, k, ok => by
    obtain ⟨o1, o2⟩ := and_ok (show (a.okE c X.env.scope && b.okE c X.env.scope) = true from ok)
    refine PE.imp (pe_op (bin_ok op) (E.pe a X Z n true o1) (E.pe b X Z n true o2)) ?_
    rintro σ H Q ⟨e0, F, ι, sl, h, j, q⟩
    refine ⟨e0, F, ι, sl, h, j, q.bind fun x h1 F1 ι1 H1 v l1 j1 r1 q1 => ⟨e0, F1, ι1, sl, h1, j1, q1.bind fun y h2 F2 ι2 H2 u l2 j2 r2 q2 => ?_⟩⟩
    obtain ⟨w, e, q3⟩ := q2.opt
    exact ⟨F2, ι2, h2, _, _, w, j2.hr, j2.now (r1.mono l2).op, j2.now r2.op, e, fun F' H' v x hr rv => q3 F' ι2 H' v x.le (j2.step x hr) (RKd.of rv)⟩
  | .neg a p, X, Z, n, k, ok => by
    refine PE.imp (pe_un un_neg (E.pe a X Z n false ok)) ?_
    rintro σ H Q ⟨e0, F, ι, sl, h, j, q⟩
    refine ⟨e0, F, ι, sl, h, j, q.bind fun x h1 F1 ι1 H1 v l1 j1 r1 q1 => ?_⟩
    cases r1 with
    | int i => exact ⟨i, rfl, q1.ret j1 (RKd.of (.int _))⟩
    | _ => exact False.elim q1
  | .not a p, X, Z, n, k, ok => PE.never fun σ H Q ⟨e0, F, ι, sl, h, j, q⟩ => q
  | .notV a p, X, Z, n, k, ok => by
    refine PE.imp (pe_notT (E.pe a X Z n true ok)) ?_
    rintro σ H Q ⟨e0, F, ι, sl, h, j, q⟩
    refine ⟨e0, F, ι, sl, h, j, q.bind fun x h1 F1 ι1 H1 v l1 j1 r1 q1 => ?_⟩
    obtain ⟨w, e, q2⟩ := q1.opt
    cases ht : truW (x.now h1) with
    | none => rw [ht] at e; cases e
    | some d =>
      rw [ht] at e
      cases e
      exact ⟨d, tru_of j1.hr.sub (j1.now r1.op) ht, q2.ret j1 (RKd.of (.bl _))⟩
  | .bop op es p, X, Z, n, k, ok => Es.pbo es X Z n k op p ok
  | .cmp op a b p, X, Z, n, k, ok => by
    obtain ⟨o1, o2⟩ := and_ok (show (a.okE c X.env.scope && b.okE c X.env.scope) = true from ok)
    have hu := n.un
    refine PE.imp (pe_cmpR (cmp_ok op (by omega)) (E.pe a X Z n true o1) (E.pe b X Z n true o2) (marks_un _ b)) ?_
    rintro σ H Q ⟨e0, F, ι, sl, h, j, q⟩
    refine ⟨e0, F, ι, sl, h, j, q.bind fun x h1 F1 ι1 H1 v l1 j1 r1 q1 => ⟨e0, F1, ι1, sl, h1, j1, q1.bind fun y h2 F2 ι2 H2 u l2 j2 r2 q2 => ?_⟩⟩
    obtain ⟨w, e, q3⟩ := q2.opt
    cases ht : cmpW op (x.now h2) (y.now h2) with
    | none => rw [ht] at e; cases e
    | some d =>
      rw [ht] at e
      cases e
      exact ⟨F2, ι2, h2, _, _, d, j2.hr, j2.now (r1.mono l2).op, j2.now r2.op, ht, q3.ret j2 (RKd.of (.bl d))⟩
  | .chain op op' a b d p, X, Z, n, k, ok => by
    obtain ⟨o1, o2⟩ := and_ok (show (a.okE c X.env.scope && (b.okE c X.env.scope && d.okE c X.env.scope)) = true from ok)
    obtain ⟨o2, o3⟩ := and_ok o2
    have hu := n.un
    refine PE.imp (pe_chain (cmp_ok op (by omega)) (cmp_ok op' (by omega)) (E.pe a X Z n false o1) (E.pe b X Z n false o2) (E.pe d X Z n false o3) (marks_un _ d)) ?_
    rintro σ H Q ⟨e0, F, ι, sl, h, j, q⟩
    refine ⟨e0, F, ι, sl, h, j, q.bind fun x h1 F1 ι1 H1 v l1 j1 r1 q1 => ⟨e0, F1, ι1, sl, h1, j1, q1.bind fun y h2 F2 ι2 H2 u l2 j2 r2 q2 => ?_⟩⟩
    cases ht : cmpW op x y with
    | none => simp only [ht] at q2; exact False.elim q2
    | some g =>
      refine ⟨F2, ι2, h2, x, y, g, j2.hr, .inl (r1.mono l2), .inl r2, ht, g, rfl, ?_⟩
      cases g with
      | false =>
        simp only [ht] at q2
        simp only [Bool.false_eq_true, if_false]
        exact q2.ret j2 (RKd.of (.bl false))
      | true =>
        simp only [ht] at q2
        simp only [if_true]
        refine ⟨e0, F2, ι2, sl, h2, j2, q2.bind fun z h3 F3 ι3 H3 t l3 j3 r3 q3 => ?_⟩
        obtain ⟨w, e, q4⟩ := q3.opt
        cases ht2 : cmpW op' y z with
        | none => rw [ht2] at e; cases e
        | some g2 =>
          rw [ht2] at e
          cases e
          exact ⟨F3, ι3, h3, y, z, g2, j3.hr, .inl (r2.mono l3), .inl r3, ht2, q4.ret j3 (RKd.of (.bl g2))⟩
  | .ife t a b p, X, Z, n, k, ok => by
    obtain ⟨o1, o2⟩ := and_ok (show (t.okE c X.env.scope && (a.okE c X.env.scope && b.okE c X.env.scope)) = true from ok)
    obtain ⟨o2, o3⟩ := and_ok o2
    refine PE.imp (pe_ifExp (E.pt t X Z n o1) (E.pe a X Z n false o2) (E.pe b X Z n false o3)) ?_
    rintro σ H Q ⟨e0, F, ι, sl, h, j, q⟩
    refine ⟨e0, F, ι, sl, h, j, q.bind fun x h1 F1 ι1 H1 v l1 j1 r1 q1 => ?_⟩
    subst r1
    cases x with
    | true =>
      simp only [if_true]
      exact ⟨e0, F1, ι1, sl, h1, j1, Po.imp q1 fun _ _ _ _ r => RKd.of r⟩
    | false =>
      simp only [Bool.false_eq_true, if_false]
      exact ⟨e0, F1, ι1, sl, h1, j1, Po.imp q1 fun _ _ _ _ r => RKd.of r⟩
  | .call i x xp es p, X, Z, n, k, ok => by
    obtain ⟨o1, o2⟩ := and_ok (show (decide (c.fs i = some x) && (glB X.env.scope x && (nmB x && es.okE c X.env.scope))) = true from ok)
    obtain ⟨o2, o3⟩ := and_ok o2
    obtain ⟨o3, o4⟩ := and_ok o3
    refine PE.imp (call_pe n (of_decide_eq_true o1) o2 o3 (Es.pa es X Z n false o4)) ?_
    rintro σ H Q ⟨e0, F, ι, sl, h, j, q⟩
    exact ⟨e0, F, ι, sl, h, j, Po.imp q fun _ _ _ _ r => RKd.of r⟩
  | .callK i x xp es ks p, X, Z, n, k, ok => by
    obtain ⟨o1, o2⟩ := and_ok (show (decide (c.fs i = some x) && (glB X.env.scope x && (nmB x && (decide ((i, es.len, ks.names) ∈ c.kws) && (es.okE c X.env.scope && ks.okE c X.env.scope))))) = true from ok)
    obtain ⟨o2, o3⟩ := and_ok o2
    obtain ⟨o3, o4⟩ := and_ok o3
    obtain ⟨o4, o5⟩ := and_ok o4
    obtain ⟨o5, o6⟩ := and_ok o5
    refine PE.imp (callK_pe n (of_decide_eq_true o1) o2 o3 (of_decide_eq_true o4) (Es.pa es X Z n false o5) (Ks.pk ks X Z n o6)) ?_
    rintro σ H Q ⟨e0, F, ι, sl, h, j, q⟩
    exact ⟨e0, F, ι, sl, h, j, Po.imp q fun _ _ _ _ r => RKd.of r⟩
  | .blt b xp es p, X, Z, n, k, ok => by
    obtain ⟨o1, o2⟩ := and_ok (show (glB X.env.scope b.nm && (!es.isNil && es.okE c X.env.scope)) = true from ok)
    obtain ⟨o2, o3⟩ := and_ok o2
    have ha := Es.pa es X Z n true o3
    cases es with
    | nil => cases o2
    | cons e es =>
      refine PE.imp (pe_bt b n.calm n.gd n.un (glB_ok o1) (n.bt b) ha (star_un e es.un) (plain_un p es)) ?_
      rintro σ H Q ⟨e0, F, ι, sl, h, j, q⟩
      refine ⟨e0, F, ι, sl, h, j, q.bind fun ws h1 F1 ι1 H1 vs l1 j1 r1 q1 => ?_⟩
      obtain ⟨w, e, q2⟩ := q1.opt
      exact ⟨F1, ι1, h1, _, w, j1.hr, r1.rns j1, e, fun F' H' v x hr rv => q2 F' ι1 H' v x.le (j1.step x hr) (RKd.of rv)⟩
  | .isi a t xp tp p, X, Z, n, k, ok => by
    obtain ⟨o1, o2⟩ := and_ok (show (glB X.env.scope "isinstance" && (glB X.env.scope t.nm && (t.isB && a.okE c X.env.scope))) = true from ok)
    obtain ⟨o2, o3⟩ := and_ok o2
    obtain ⟨o3, o4⟩ := and_ok o3
    have pt : PE X (.Name t.nm tp) (tC (.ty t.s)) := pe_bltn (glB_ok o2) (n.ty t) (ty_boot t o3) rfl (ty_name t).1 (ty_name t).2
    refine PE.imp (pe_callB call_isi (glB_ok o1) n.isi boot_isinstance (pa_cons (E.pe a X Z n false o4) (pa_cons pt pa_nil rfl) (star_un a _)) (by decide +kernel) (by decide +kernel) (star_un a _) rfl) ?_
    rintro σ H Q ⟨e0, F, ι, sl, h, j, q⟩
    refine ⟨e0, F, ι, sl, h, j, q.bind fun w h1 F1 ι1 H1 v l1 j1 r1 q1 => ?_⟩
    obtain ⟨w', e, q2⟩ := q1.opt
    cases ht : tyW h1 w with
    | none => rw [ht] at e; cases e
    | some y =>
      rw [ht] at e
      cases e
      exact ⟨v, _, _, _, _, rfl, .ty t.s, tyX_of j1.hr r1 ht, isTy_ty y t, q2.ret j1 (RKd.of (.bl _))⟩
  | .isiT a t p1 u p2 m xp tp p, X, Z, n, k, ok => by
    obtain ⟨o1, o2⟩ := and_ok (show (glB X.env.scope "isinstance" && (glB X.env.scope t.nm && (t.isB && (glB X.env.scope u.nm && (u.isB && a.okE c X.env.scope))))) = true from ok)
    obtain ⟨o2, o3⟩ := and_ok o2
    obtain ⟨o3, o4⟩ := and_ok o3
    obtain ⟨o4, o5⟩ := and_ok o4
    obtain ⟨o5, o6⟩ := and_ok o5
    have pt : PE X (.Name t.nm p1) (tC (.ty t.s)) := pe_bltn (glB_ok o2) (n.ty t) (ty_boot t o3) rfl (ty_name t).1 (ty_name t).2
    have pu : PE X (.Name u.nm p2) (tC (.ty u.s)) := pe_bltn (glB_ok o4) (n.ty u) (ty_boot u o5) rfl (ty_name u).1 (ty_name u).2
    have pp : PE X (.Tuple [.Name t.nm p1, .Name u.nm p2] m tp) (tTup (tCons (tC (.ty t.s)) (tCons (tC (.ty u.s)) tNil))) := pe_tup (pa_cons pt (pa_cons pu pa_nil rfl) rfl)
    refine PE.imp (pe_callB call_isiT (glB_ok o1) n.isi boot_isinstance (pa_cons (E.pe a X Z n false o6) (pa_cons pp pa_nil rfl) (star_un a _)) (by decide +kernel) (by decide +kernel) (star_un a _) rfl) ?_
    rintro σ H Q ⟨e0, F, ι, sl, h, j, q⟩
    refine ⟨e0, F, ι, sl, h, j, q.bind fun w h1 F1 ι1 H1 v l1 j1 r1 q1 => ?_⟩
    refine ⟨by show 2 ≤ sizeLine; rw [sizeLine_eq]; omega, fun T hT => ?_⟩
    have j2 := j1.loose (o := .tup [.ty t.s, .ty u.s]) hT
    obtain ⟨w', e, q2⟩ := q1.opt
    cases ht : tyW h1 w with
    | none => rw [ht] at e; cases e
    | some y =>
      rw [ht] at e
      cases e
      exact ⟨v, T, _, _, _, _, rfl, upd_same, .cons (.ty t.s) (.cons (.ty u.s) .nil), tyX_of j2.hr r1 ht, isTy_two y t u, q2.ret j2 (RKd.of (.bl _))⟩
  | .sub a i p, X, Z, n, k, ok => by
    obtain ⟨o1, o2⟩ := and_ok (show (a.okE c X.env.scope && i.okE c X.env.scope) = true from ok)
    refine PE.imp (pe_ix ix_seq (E.pe a X Z n true o1) (E.pe i X Z n false o2) (fun o v => plainIx_un i o v)) ?_
    rintro σ H Q ⟨e0, F, ι, sl, h, j, q⟩
    refine ⟨e0, F, ι, sl, h, j, q.bind fun x h1 F1 ι1 H1 v l1 j1 r1 q1 => ⟨e0, F1, ι1, sl, h1, j1, q1.bind fun y h2 F2 ι2 H2 u l2 j2 r2 q2 => ?_⟩⟩
    obtain ⟨w, e, q3⟩ := q2.opt
    exact ix_of j2 (j2.now (r1.mono l2).op) r2 e fun v rv => q3.ret j2 (RKd.of rv)
  | .slc a lo hi sp p, X, Z, n, k, ok => by
    obtain ⟨o1, o2⟩ := and_ok (show (a.okE c X.env.scope && (lo.okE c X.env.scope && hi.okE c X.env.scope)) = true from ok)
    obtain ⟨o2, o3⟩ := and_ok o2
    refine PE.imp (pe_slice (sl_list.or sl_tup) (E.pe a X Z n true o1) (Eo.po lo X Z n o2) (Eo.po hi X Z n o3)) ?_
    rintro σ H Q ⟨e0, F, ι, sl, h, j, q⟩
    refine ⟨e0, F, ι, sl, h, j, q.bind fun x h1 F1 ι1 H1 v l1 j1 r1 q1 => ⟨e0, F1, ι1, sl, h1, j1, q1.bind fun y h2 F2 ι2 H2 u l2 j2 r2 q2 => ⟨e0, F2, ι2, sl, h2, j2, q2.bind fun z h3 F3 ι3 H3 t l3 j3 r3 q3 => ?_⟩⟩⟩
    subst r2
    subst r3
    obtain ⟨w, e, q4⟩ := q3.opt
    have rn := j3.now ((r1.mono l2).mono l3).op
    cases hx : x.now h3 with
    | lst ws =>
      rw [hx] at e rn
      cases e
      obtain ⟨a, vs, rfl, ha, rv⟩ := rn.lst j3.hr.sub
      refine .inl ⟨a, vs, rfl, .inl (.inl ha), fun p hp => ?_⟩
      have rc := rv.cutR y z
      exact q4 _ _ _ (.ref p) (j3.newLe (o := .lst (cutV vs y z)) hp) (j3.new hp) (RKd.of (.lst upd_same (rc.mono (j3.newLe hp))))
    | tup ws =>
      rw [hx] at e rn
      have e : (match decide (HT.sIx ws.length 0 y = 0) && decide (HT.sIx ws.length ws.length z = ws.length) with | true => none | false => some (W.tup (cut ws y z))) = some w := e
      split at e
      · cases e
      · rename_i hw
        cases e
        have r := rn.rv (fun _ z => by cases z)
        cases r with
        | @tup _ a vs sq rv =>
          refine .inr ⟨a, vs, rfl, sqT_mono j3.hr.sub sq, fun ⟨z1, z2⟩ => ?_, fun p hp => ?_⟩
          · rw [← rv.length] at z1 z2
            rw [decide_eq_true z1, decide_eq_true z2] at hw
            cases hw
          · have rc := rv.cutR y z
            exact q4 _ _ _ (.ref p) (j3.newLe (o := .tup (cutV vs y z)) hp) (j3.new hp) (RKd.of (.tup (.inl (.inl upd_same)) (rc.mono (j3.newLe hp))))
    | _ => rw [hx] at e; cases e
  | .lc e tg it t vs sc p, X, Z, n, k, ok => by
    obtain ⟨o1, o2⟩ := and_ok (show (blkC c.N X.env.scope sc vs && (tgIt tg it && (it.okE c X.env.scope && (tg.okC c (relS sc X.env.scope) (ixs vs) && (e.okE c (relS sc X.env.scope) && t.okE c (relS sc X.env.scope)))))) = true from ok)
    obtain ⟨o2, o3⟩ := and_ok o2
    obtain ⟨o3, o4⟩ := and_ok o3
    obtain ⟨o4, o5⟩ := and_ok o4
    obtain ⟨o5, o6⟩ := and_ok o5
    refine PE.imp (lc_of (e := e) (sc := sc) (p := p) n o1 o4 (It.pi it X Z n tg o2 o3) (fun s H C cl fp => Eo.pt t (X.blk s H sc (compEnvC sc cl C X.env) fp) nox (n.blk ..) o6)
      (fun s H C cl fp => E.pe e (X.blk s H sc (compEnvC sc cl C X.env) fp) nox (n.blk ..) false o5)) ?_
    rintro σ H Q ⟨e0, F, ι, sl, h, j, q⟩
    exact ⟨e0, F, ι, sl, h, j, PoF.of q⟩
theorem Es.pa {D : Dn} {c : Oc} : ∀ (es : Es) (X : Cx) (Z : WX) (n : Cn X Z D c) (k : Bool), es.okE c X.env.scope = true → PA X es.un (tA X Z k (es.den D k))
  | .nil, X, Z, n, k, ok => PA.imp pa_nil fun σ H Q ⟨e0, F, ι, sl, h, j, q⟩ => q.ret j .nil
  | .cons e es, X, Z, n, k, ok => by
    obtain ⟨o1, o2⟩ := and_ok (show (e.okE c X.env.scope && es.okE c X.env.scope) = true from ok)
    refine PA.imp (pa_cons (E.pe e X Z n k o1) (Es.pa es X Z n k o2) (star_un e _)) ?_
    rintro σ H Q ⟨e0, F, ι, sl, h, j, q⟩
    exact ⟨e0, F, ι, sl, h, j, q.bind fun w h1 F1 ι1 H1 v l1 j1 r1 q1 => ⟨e0, F1, ι1, sl, h1, j1, q1.bind fun ws h2 F2 ι2 H2 us l2 j2 r2 q2 => q2.ret j2 (.cons (r1.mono l2) r2)⟩⟩
theorem Ks.pk {D : Dn} {c : Oc} : ∀ (ks : Ks) (X : Cx) (Z : WX) (n : Cn X Z D c), ks.okE c X.env.scope = true → PK X ks.un (tK X Z ks.names (ks.den D))
  | .nil, X, Z, n, ok => PK.imp pk_nil fun σ H Q ⟨e0, F, ι, sl, h, j, q⟩ => q.ret j ⟨rfl, .nil⟩
  | .cons x e p ks, X, Z, n, ok => by
    obtain ⟨o1, o2⟩ := and_ok (show (e.okE c X.env.scope && ks.okE c X.env.scope) = true from ok)
    refine PK.imp (pk_cons (E.pe e X Z n false o1) (Ks.pk ks X Z n o2)) ?_
    rintro σ H Q ⟨e0, F, ι, sl, h, j, q⟩
    exact ⟨e0, F, ι, sl, h, j, q.bind fun w h1 F1 ι1 H1 v l1 j1 r1 q1 => ⟨e0, F1, ι1, sl, h1, j1, q1.bind fun ws h2 F2 ι2 H2 us l2 j2 r2 q2 => q2.ret j2 ⟨congrArg (x :: ·) r2.1, .cons (r1.mono l2) r2.2⟩⟩⟩
theorem Eo.po {D : Dn} {c : Oc} : ∀ (o : Eo) (X : Cx) (Z : WX) (n : Cn X Z D c), o.okE c X.env.scope = true → PO X o.un (tI X Z (o.den D))
  | .non, X, Z, n, ok => PO.imp po_none fun σ H Q ⟨e0, F, ι, sl, h, j, q⟩ => q.ret j rfl
  | .some e, X, Z, n, ok => by
    refine PO.imp (po_some (E.pe e X Z n false ok)) ?_
    rintro σ H Q ⟨e0, F, ι, sl, h, j, q⟩
    refine ⟨e0, F, ι, sl, h, j, q.bind fun x h1 F1 ι1 H1 v l1 j1 r1 q1 => ?_⟩
    cases r1 with
    | int i => exact ⟨i, rfl, q1.ret j1 rfl⟩
    | _ => exact False.elim q1
theorem Eo.pt {D : Dn} {c : Oc} : ∀ (o : Eo) (X : Cx) (Z : WX) (n : Cn X Z D c), o.okE c X.env.scope = true → PTs X o.uns (tT X Z (o.tst D))
  | .non, X, Z, n, ok => ⟨fun pins s σ H Q I ⟨e0, F, ι, sl, h, j, q⟩ => pts_nil.run pins s σ H Q I (q.ret j rfl)⟩
  | .some e, X, Z, n, ok => pts_one (E.pt e X Z n ok)
theorem Es.pbo {D : Dn} {c : Oc} : ∀ (es : Es) (X : Cx) (Z : WX) (n : Cn X Z D c) (k : Bool) (op : BoolOp) (p : Pos), es.okE c X.env.scope = true → PE X (.BoolOp op es.un p) (tE X Z k (es.bo D op))
  | .nil, X, Z, n, k, op, p, ok => PE.never fun σ H Q ⟨e0, F, ι, sl, h, j, q⟩ => q
  | .cons e .nil, X, Z, n, k, op, p, ok => by
    obtain ⟨o1, o2⟩ := and_ok (show (e.okE c X.env.scope && Es.okE c X.env.scope .nil) = true from ok)
    refine PE.imp (pe_one (E.pe e X Z n false o1)) ?_
    rintro σ H Q ⟨e0, F, ι, sl, h, j, q⟩
    exact ⟨e0, F, ι, sl, h, j, q.bind fun x h1 F1 ι1 H1 v l1 j1 r1 q1 => q1.ret j1 (RKd.of r1)⟩
  | .cons e (.cons e2 es), X, Z, n, k, op, p, ok => by
    obtain ⟨o1, o2⟩ := and_ok (show (e.okE c X.env.scope && Es.okE c X.env.scope (.cons e2 es)) = true from ok)
    have h1 := E.pe e X Z n false o1
    have h2 := Es.pbo (.cons e2 es) X Z n k op p o2
    cases op with
    | And =>
      refine PE.imp (pe_and h1 h2) ?_
      rintro σ H Q ⟨e0, F, ι, sl, h, j, q⟩
      refine ⟨e0, F, ι, sl, h, j, q.bind fun x h1 F1 ι1 H1 v l1 j1 r1 q1 => ?_⟩
      cases r1 with
      | bl b =>
        refine ⟨b, rfl, ?_⟩
        cases b with
        | true => exact ⟨e0, F1, ι1, sl, h1, j1, q1⟩
        | false => exact Po.ret (show Po (bx X Z e0) F1 ι1 sl σ (RKd X.K sl σ k) (.ok (.bl false) h1) Q from q1) j1 (RKd.of (.bl false))
      | _ => exact False.elim q1
    | Or =>
      refine PE.imp (pe_or h1 h2) ?_
      rintro σ H Q ⟨e0, F, ι, sl, h, j, q⟩
      refine ⟨e0, F, ι, sl, h, j, q.bind fun x h1 F1 ι1 H1 v l1 j1 r1 q1 => ?_⟩
      cases r1 with
      | bl b =>
        refine ⟨b, rfl, ?_⟩
        cases b with
        | false => exact ⟨e0, F1, ι1, sl, h1, j1, q1⟩
        | true => exact Po.ret (show Po (bx X Z e0) F1 ι1 sl σ (RKd X.K sl σ k) (.ok (.bl true) h1) Q from q1) j1 (RKd.of (.bl true))
      | _ => exact False.elim q1
theorem Es.pw {D : Dn} {c : Oc} : ∀ (es : Es) (X : Cx) (Z : WX) (n : Cn X Z D c) (op : BoolOp) (p : Pos), es.okE c X.env.scope = true → PW X (.BoolOp op es.un p) (tT X Z (es.bt D op))
  | .nil, X, Z, n, op, p, ok => ⟨fun wh pins s σ H Q I ⟨e0, F, ι, sl, h, j, q⟩ => False.elim q⟩
  | .cons e .nil, X, Z, n, op, p, ok => by
    obtain ⟨o1, o2⟩ := and_ok (show (e.okE c X.env.scope && Es.okE c X.env.scope .nil) = true from ok)
    have h1 := E.pt e X Z n o1
    have go : ∀ σ H Q, tT X Z (Es.bt D op (.cons e .nil)) σ H Q → tT X Z (fun σ h => e.tst D σ h) σ H Q := by
      rintro σ H Q ⟨e0, F, ι, sl, h, j, q⟩
      refine ⟨e0, F, ι, sl, h, j, q.bind fun x h1 F1 ι1 H1 v l1 j1 r1 q1 => ?_⟩
      subst r1
      exact q1.ret j1 rfl
    cases op with
    | And => exact PW.imp (pw_and1 h1) go
    | Or => exact PW.imp (pw_or1 h1) go
  | .cons e (.cons e2 es), X, Z, n, op, p, ok => by
    obtain ⟨o1, o2⟩ := and_ok (show (e.okE c X.env.scope && Es.okE c X.env.scope (.cons e2 es)) = true from ok)
    have h1 := E.pt e X Z n o1
    have h2 := Es.pw (.cons e2 es) X Z n op p o2
    cases op with
    | And =>
      refine PW.imp (pw_and h1 h2) ?_
      rintro σ H Q ⟨e0, F, ι, sl, h, j, q⟩
      refine ⟨e0, F, ι, sl, h, j, q.bind fun x h1 F1 ι1 H1 v l1 j1 r1 q1 => ?_⟩
      subst r1
      cases x with
      | true => exact ⟨e0, F1, ι1, sl, h1, j1, q1⟩
      | false => exact Po.ret (show Po (bx X Z e0) F1 ι1 sl σ (fun _ _ a v => a = v) (.ok false h1) Q from q1) j1 rfl
    | Or =>
      refine PW.imp (pw_or h1 h2) ?_
      rintro σ H Q ⟨e0, F, ι, sl, h, j, q⟩
      refine ⟨e0, F, ι, sl, h, j, q.bind fun x h1 F1 ι1 H1 v l1 j1 r1 q1 => ?_⟩
      subst r1
      cases x with
      | false => exact ⟨e0, F1, ι1, sl, h1, j1, q1⟩
      | true => exact Po.ret (show Po (bx X Z e0) F1 ι1 sl σ (fun _ _ a v => a = v) (.ok true h1) Q from q1) j1 rfl
theorem E.pt {D : Dn} {c : Oc} : ∀ (e : E) (X : Cx) (Z : WX) (n : Cn X Z D c), e.okE c X.env.scope = true → PT X e.un (tT X Z (e.tst D))
  | .tr e, X, Z, n, ok => by
    obtain ⟨o1, o2⟩ := and_ok (show (e.plainT && e.okE c X.env.scope) = true from ok)
    refine PT.imp (pt_truth (E.pe e X Z n true o2) (isTrue_un e o1)) ?_
    rintro σ H Q ⟨e0, F, ι, sl, h, j, q⟩
    refine ⟨e0, F, ι, sl, h, j, q.bind fun x h1 F1 ι1 H1 v l1 j1 r1 q1 => ?_⟩
    obtain ⟨d, e, q2⟩ := q1.opt
    exact ⟨d, tru_of j1.hr.sub (j1.now r1.op) e, q2.ret j1 rfl⟩
  | .not a p, X, Z, n, ok => by
    refine PT.imp (pt_not (E.pt a X Z n ok)) ?_
    rintro σ H Q ⟨e0, F, ι, sl, h, j, q⟩
    refine ⟨e0, F, ι, sl, h, j, q.bind fun x h1 F1 ι1 H1 v l1 j1 r1 q1 => ?_⟩
    subst r1
    exact q1.ret j1 rfl
  | .bop op es p, X, Z, n, ok => (Es.pw es X Z n op p ok).pt
  | .cmp op a b p, X, Z, n, ok => by
    obtain ⟨o1, o2⟩ := and_ok (show (a.okE c X.env.scope && b.okE c X.env.scope) = true from ok)
    have hu := n.un
    refine PT.imp (pt_cmpR (cmp_ok op (by omega)) (E.pe a X Z n true o1) (E.pe b X Z n true o2) (marks_un _ b)) ?_
    rintro σ H Q ⟨e0, F, ι, sl, h, j, q⟩
    refine ⟨e0, F, ι, sl, h, j, q.bind fun x h1 F1 ι1 H1 v l1 j1 r1 q1 => ⟨e0, F1, ι1, sl, h1, j1, q1.bind fun y h2 F2 ι2 H2 u l2 j2 r2 q2 => ?_⟩⟩
    obtain ⟨d, e, q3⟩ := q2.opt
    exact ⟨F2, ι2, h2, _, _, d, j2.hr, j2.now (r1.mono l2).op, j2.now r2.op, e, d, rfl, q3.ret j2 rfl⟩
  | .chain op op' a b d p, X, Z, n, ok => by
    obtain ⟨o1, o2⟩ := and_ok (show (a.okE c X.env.scope && (b.okE c X.env.scope && d.okE c X.env.scope)) = true from ok)
    obtain ⟨o2, o3⟩ := and_ok o2
    have hu := n.un
    refine PT.imp (pt_chain (cmp_ok op (by omega)) (cmp_ok op' (by omega)) (E.pe a X Z n false o1) (E.pe b X Z n false o2) (E.pe d X Z n false o3) (marks_un _ d)) ?_
    rintro σ H Q ⟨e0, F, ι, sl, h, j, q⟩
    refine ⟨e0, F, ι, sl, h, j, q.bind fun x h1 F1 ι1 H1 v l1 j1 r1 q1 => ⟨e0, F1, ι1, sl, h1, j1, q1.bind fun y h2 F2 ι2 H2 u l2 j2 r2 q2 => ?_⟩⟩
    cases ht : cmpW op x y with
    | none => simp only [ht] at q2; exact False.elim q2
    | some g =>
      refine ⟨F2, ι2, h2, x, y, g, j2.hr, .inl (r1.mono l2), .inl r2, ht, g, rfl, ?_⟩
      cases g with
      | false =>
        simp only [ht] at q2
        simp only [Bool.false_eq_true, if_false]
        exact ⟨false, rfl, q2.ret j2 rfl⟩
      | true =>
        simp only [ht] at q2
        simp only [if_true]
        refine ⟨e0, F2, ι2, sl, h2, j2, q2.bind fun z h3 F3 ι3 H3 t l3 j3 r3 q3 => ?_⟩
        obtain ⟨g2, e, q4⟩ := q3.opt
        exact ⟨F3, ι3, h3, y, z, g2, j3.hr, .inl (r2.mono l3), .inl r3, e, g2, rfl, q4.ret j3 rfl⟩
  | .name .., X, Z, n, ok | .peek .., X, Z, n, ok | .cst .., X, Z, n, ok | .int .., X, Z, n, ok | .str .., X, Z, n, ok | .bl .., X, Z, n, ok | .non .., X, Z, n, ok | .tup .., X, Z, n, ok | .lst .., X, Z, n, ok | .lstH .., X, Z, n, ok | .emp .., X, Z, n, ok | .bin .., X, Z, n, ok | .neg .., X, Z, n, ok | .notV .., X, Z, n, ok | .ife .., X, Z, n, ok | .call .., X, Z, n, ok | .callK .., X, Z, n, ok | .blt .., X, Z, n, ok | .isi .., X, Z, n, ok | .isiT .., X, Z, n, ok | .sub .., X, Z, n, ok | .slc .., X, Z, n, ok | .lc .., X, Z, n, ok => PT.never fun σ H Q ⟨e0, F, ι, sl, h, j, q⟩ => q
theorem It.pi {D : Dn} {c : Oc} : ∀ (it : It) (X : Cx) (Z : WX) (n : Cn X Z D c) (tg : Tg), tgIt tg it = true → it.okE c X.env.scope = true → PI X tg.un it.un (tWk X Z (it.den D))
  | .seq e, X, Z, n, tg, tk, ok => by
    refine PI.imp (pi_seq (E.pe e X Z n false ok)) ?_
    rintro σ H Q ⟨e0, F, ι, sl, h, j, q⟩
    refine ⟨e0, F, ι, sl, h, j, q.bind fun x h1 F1 ι1 H1 v l1 j1 r1 q1 => ?_⟩
    obtain ⟨ws, e, q2⟩ := q1.opt
    cases r1 with
    | lst e1 rv =>
      cases e
      exact ⟨_, rfl, .inl ⟨⟨_, .inl (.inl (j1.hr.sub _ _ e1))⟩, q2.ret j1 (wk_list (.inl (.inl e1)) rv)⟩⟩
    | tup sq rv =>
      cases e
      exact ⟨_, rfl, .inr ⟨⟨_, sqT_mono j1.hr.sub sq⟩, q2.ret j1 (wk_tup sq rv)⟩⟩
    | scr sq =>
      cases e
      exact ⟨_, rfl, .inl ⟨⟨_, sqL_mono j1.hr.sub sq⟩, q2.ret j1 (wk_list sq (RVs.ints _))⟩⟩
    | _ => cases e
  | .rng xp es p, X, Z, n, tg, tk, ok => by
    obtain ⟨o1, o2⟩ := and_ok (show (glB X.env.scope "range" && es.okE c X.env.scope) = true from ok)
    have in_ok : ∀ {i : Int}, in62 i = true → -(2 ^ 62) ≤ i ∧ i < 2 ^ 62 := fun {i} hi => by
      obtain ⟨b1, b2⟩ := and_ok (show (decide (-(2 ^ 62) ≤ i) && decide (i < 2 ^ 62)) = true from hi)
      exact ⟨of_decide_eq_true b1, of_decide_eq_true b2⟩
    match es, o2 with
    | .nil, _ => exact ⟨fun pins s σ H Q I ⟨e0, F, ι, sl, h, j, q⟩ => False.elim q⟩
    | .cons e .nil, o2 =>
      obtain ⟨o2, _⟩ := and_ok (show (e.okE c X.env.scope && Es.okE c X.env.scope .nil) = true from o2)
      refine PI.imp (pi_range1 (glB_ok o1) n.rng (pa_cons (E.pe e X Z n false o2) pa_nil (star_un e _)) (star_un e _)) ?_
      rintro σ H Q ⟨e0, F, ι, sl, h, j, q⟩
      refine ⟨e0, F, ι, sl, h, j, q.bind fun x h1 F1 ι1 H1 v l1 j1 r1 q1 => ?_⟩
      cases r1 with
      | int i =>
        cases hi : in62 i with
        | false => simp only [rng1, hi] at q1; exact False.elim q1
        | true =>
          simp only [rng1, hi] at q1
          exact ⟨i, rfl, (in_ok hi).1, (in_ok hi).2, q1.ret j1 (wk_rng 0 _)⟩
      | _ => exact False.elim q1
    | .cons e (.cons e2 .nil), o2 =>
      obtain ⟨o2, o3⟩ := and_ok (show (e.okE c X.env.scope && Es.okE c X.env.scope (.cons e2 .nil)) = true from o2)
      obtain ⟨o3, _⟩ := and_ok (show (e2.okE c X.env.scope && Es.okE c X.env.scope .nil) = true from o3)
      refine PI.imp (pi_range2 (glB_ok o1) n.rng (pa_cons (E.pe e X Z n false o2) (pa_cons (E.pe e2 X Z n false o3) pa_nil (star_un e2 _)) (star_un e _)) (by rw [star_un, star_un]; rfl) (star_un e2 _)) ?_
      rintro σ H Q ⟨e0, F, ι, sl, h, j, q⟩
      refine ⟨e0, F, ι, sl, h, j, q.bind fun x h1 F1 ι1 H1 v l1 j1 r1 q1 => ⟨e0, F1, ι1, sl, h1, j1, q1.bind fun y h2 F2 ι2 H2 u l2 j2 r2 q2 => ?_⟩⟩
      cases r1 with
      | int i =>
        cases r2 with
        | int i2 =>
          cases hi : (in62 i && in62 i2) with
          | false => simp only [rng2, hi] at q2; exact False.elim q2
          | true =>
            obtain ⟨g1, g2⟩ := and_ok hi
            simp only [rng2, hi] at q2
            exact ⟨i, i2, rfl, ⟨(in_ok g1).1, (in_ok g1).2, (in_ok g2).1, (in_ok g2).2⟩, q2.ret j2 (wk_rng i _)⟩
        | _ => exact False.elim q2
      | _ => cases r2 <;> exact False.elim q2
    | .cons e (.cons e2 (.cons e3 es)), _ => exact ⟨fun pins s σ H Q I ⟨e0, F, ι, sl, h, j, q⟩ => False.elim q⟩
  | .enum xp e p, X, Z, n, tg, tk, ok => by
    obtain ⟨o1, o2⟩ := and_ok (show (glB X.env.scope "enumerate" && e.okE c X.env.scope) = true from ok)
    cases tg with
    | tup ts m tp =>
      refine PI.imp (pi_enum (glB_ok o1) n.enum (pa_cons (E.pe e X Z n false o2) pa_nil (star_un e _)) (star_un e _)) ?_
      rintro σ H Q ⟨e0, F, ι, sl, h, j, q⟩
      refine ⟨e0, F, ι, sl, h, j, q.bind fun x h1 F1 ι1 H1 v l1 j1 r1 q1 => ?_⟩
      cases r1 with
      | lst e1 rv => exact ⟨_, _, rfl, .inl (.inl (j1.hr.sub _ _ e1)), q1.ret j1 (wk_enum (.inl (.inl e1)) rv)⟩
      | _ => exact False.elim q1
    | _ => cases tk
  | .zip xp a b p, X, Z, n, tg, tk, ok => by
    obtain ⟨o1, o2⟩ := and_ok (show (glB X.env.scope "zip" && (a.okE c X.env.scope && b.okE c X.env.scope)) = true from ok)
    obtain ⟨o2, o3⟩ := and_ok o2
    cases tg with
    | tup ts m tp =>
      refine PI.imp (pi_zip (glB_ok o1) n.zip (pa_cons (E.pe a X Z n false o2) (pa_cons (E.pe b X Z n false o3) pa_nil (star_un b _)) (star_un a _)) (star_un a _) (by rw [star_un b]; rfl)) ?_
      rintro σ H Q ⟨e0, F, ι, sl, h, j, q⟩
      refine ⟨e0, F, ι, sl, h, j, q.bind fun x h1 F1 ι1 H1 v l1 j1 r1 q1 => ⟨e0, F1, ι1, sl, h1, j1, q1.bind fun y h2 F2 ι2 H2 u l2 j2 r2 q2 => ?_⟩⟩
      cases r1 with
      | lst e1 rv =>
        cases r2 with
        | lst e2 rv2 => exact ⟨_, _, _, _, rfl, .inl (.inl (j2.hr.sub _ _ (l2.f _ _ e1))), .inl (.inl (j2.hr.sub _ _ e2)), q2.ret j2 (wk_zip (.inl (.inl (l2.f _ _ e1))) (rv.mono l2) (.inl (.inl e2)) rv2)⟩
        | _ => exact False.elim q2
      | _ => cases r2 <;> exact False.elim q2
    | _ => cases tk
end
end Ev

set_option maxHeartbeats 1000000
namespace Ev
open PySem PySem.Spec PyProof.Rows L2

/-! ## what a statement is asked -/
def PoS (X : Cx) (Z : WX) (e0 : Ent) (F : Hp) (ι : List Addr) (r : Out) (G : Ends) : Prop := match r with
  | .nx s' h' => ∀ F' ι' σ' H', Le F ι F' ι' → J X.K e0 F' ι' s' h' σ' H' → G.nx σ' H'
  | .bk s' h' => ∀ F' ι' σ' H', Le F ι F' ι' → J X.K e0 F' ι' s' h' σ' H' → G.bk σ' H'
  | .ct s' h' => ∀ F' ι' σ' H', Le F ι F' ι' → J X.K e0 F' ι' s' h' σ' H' → G.ct σ' H'
  | .rt w h' => ∀ F' ι' s' σ' H' v, Le F ι F' ι' → J X.K e0 F' ι' s' h' σ' H' → RV X.K F' ι' w v → G.rt v H'
  | .exc x s' h' => ∀ F' ι' σ' H' cls d, Le F ι F' ι' → J X.K e0 F' ι' s' h' σ' H' → RX X.K X.mg F' ι' x cls d → Z cls d σ' H'
  | .bad => False
def tS (X : Cx) (Z : WX) (m : Sls → Obs → Out) : TS := fun G σ H => ∃ e0 F ι sl h, J X.K e0 F ι sl h σ H ∧ PoS X Z e0 F ι (m sl h) G
section
variable {X : Cx} {Z : WX} {e0 : Ent} {F F1 : Hp} {ι ι1 : List Addr} {sl : Sls} {σ : VS} {G : Ends} {β : Type}
theorem PoS.le {r : Out} (p : PoS X Z e0 F ι r G) (l : Le F ι F1 ι1) : PoS X Z e0 F1 ι1 r G := by
  cases r with
  | nx s' h' => exact fun F' ι' σ' H' l2 j => p F' ι' σ' H' (l.trans l2) j
  | bk s' h' => exact fun F' ι' σ' H' l2 j => p F' ι' σ' H' (l.trans l2) j
  | ct s' h' => exact fun F' ι' σ' H' l2 j => p F' ι' σ' H' (l.trans l2) j
  | rt w h' => exact fun F' ι' s' σ' H' v l2 j r => p F' ι' s' σ' H' v (l.trans l2) j r
  | exc x s' h' => exact fun F' ι' σ' H' cls d l2 j r => p F' ι' σ' H' cls d (l.trans l2) j r
  | bad => exact p
/-- a value, then the rest -/
theorem PoS.out {rel : Hp → List Addr → W → β → Prop} {r : R W} {f : W → Obs → Out} {Q1 : β → Hp → Prop} (p : PoS X Z e0 F ι (r.out sl f) G)
    (k : ∀ a h1 F1 ι1 H1 v, Le F ι F1 ι1 → J X.K e0 F1 ι1 sl h1 σ H1 → rel F1 ι1 a v → PoS X Z e0 F1 ι1 (f a h1) G → Q1 v H1) : Po (bx X Z e0) F ι sl σ rel r Q1 := by
  cases r with
  | ok a h => exact fun F1 ι1 H1 v l j q => k a h F1 ι1 H1 v l j q (PoS.le (show PoS X Z e0 F ι (f a h) G from p) l)
  | exc x h => exact fun F1 ι1 H1 cls d l j q => p F1 ι1 σ H1 cls d l j q
  | bad => exact p
/-- a test -/
theorem PoS.tst {r : R Bool} {f g : Obs → Out} {Q1 : Bool → Hp → Prop} (p : PoS X Z e0 F ι (match r with | .ok true h => f h | .ok false h => g h | .exc x h => .exc x sl h | .bad => .bad) G)
    (k : ∀ a h1 F1 ι1 H1, Le F ι F1 ι1 → J X.K e0 F1 ι1 sl h1 σ H1 → PoS X Z e0 F1 ι1 (match a with | true => f h1 | false => g h1) G → Q1 a H1) : Po (bx X Z e0) F ι sl σ (fun _ _ a v => a = v) r Q1 := by
  cases r with
  | ok a h =>
    intro F1 ι1 H1 v l j q
    subst q
    cases a with
    | true => exact k true h F1 ι1 H1 l j (PoS.le (show PoS X Z e0 F ι (f h) G from p) l)
    | false => exact k false h F1 ι1 H1 l j (PoS.le (show PoS X Z e0 F ι (g h) G from p) l)
  | exc x h => exact fun F1 ι1 H1 cls d l j q => p F1 ι1 σ H1 cls d l j q
  | bad => exact p
end
section
variable {X : Cx} {st : Stmt} {sts : List Stmt}
theorem PS.imp {t t' : TS} (h : PS X st t) (i : ∀ G σ H, t' G σ H → t G σ H) : PS X st t' := ⟨fun pins s σ H G I q => h.run pins s σ H G I (i G σ H q)⟩
theorem PS.never {t : TS} (n : ∀ G σ H, ¬ t G σ H) : PS X st t := ⟨fun pins s σ H G I q => absurd q (n G σ H)⟩
theorem PSs.imp {t t' : TS} (h : PSs X sts t) (i : ∀ G σ H, t' G σ H → t G σ H) : PSs X sts t' := ⟨fun pins s σ H G I q => h.run pins s σ H G I (i G σ H q)⟩
end

/-! ## what the syntax asks of a scope -/
def E.isLc : E → Bool
  | .tr e => e.isLc
  | .lc .. => true
  | _ => false
def E.isTup : E → Bool
  | .tr e => e.isTup
  | .tup .. => true
  | _ => false
def Tg.isName : Tg → Bool
  | .name .. => true
  | _ => false
def Tg.isTupT : Tg → Bool
  | .tup .. => true
  | _ => false
def slotL (N : List Str) (sc : Scope) (x : Str) (i : Nat) : Bool := decide (N[i]? = some x) && locB sc x
mutual
def Tg.okT (c : Oc) (sc : Scope) : Tg → Bool
  | .name x i _ => slotL c.N sc x i
  | .tup ts _ _ => ts.okT c sc
  | .sub a i _ => a.okE c sc && i.okE c sc
def Tgs.okT (c : Oc) (sc : Scope) : Tgs → Bool
  | .nil => true
  | .cons t ts => t.okT c sc && ts.okT c sc
end
mutual
def S.okS (c : Oc) (sc : Scope) : S → Bool
  | .asg x i _ e _ => slotL c.N sc x i && e.okE c sc
  | .asgO x i _ e _ => slotL c.N sc x i && e.okE c sc
  | .par _ _ x i xp y j yp _ _ a b _ _ _ => slotL c.N sc x i && (slotL c.N sc y j && (decide (i ≠ j) && (decide (yp.line = xp.line) && ((!([a.un, b.un].all (foldedForSure 8)) && !([a.un, b.un].all (constantsAlone 8))) && (a.okE c sc && b.okE c sc)))))
  | .asgT t e _ => (!(t.isName && e.isLc) && !(t.isTupT && e.isTup)) && (t.okT c sc && e.okE c sc)
  | .pop t x i _ ap cp _ => (ap.endLine == cp.line) && (slotB c.N sc x i && t.okT c sc)
  | .app x i _ ap e cp _ => (ap.endLine == cp.line) && (slotB c.N sc x i && e.okE c sc)
  | .ext x i _ ap e cp _ => (ap.endLine == cp.line) && (slotB c.N sc x i && e.okE c sc)
  | .expr e _ => !e.isLc && e.okE c sc
  | .ret e _ => e.okE c sc
  | .retN _ => true
  | .ite t a b _ => t.okE c sc && (a.okS c sc && b.okS c sc)
  | .whl t b _ => t.okE c sc && b.okS c sc
  | .for t it b _ => tgIt t it && (t.okT c sc && (it.okE c sc && b.okS c sc))
  | .frz _ s => s.okS c sc
  | .pass _ => true | .brk _ => true | .cnt _ => true
def Ss.okS (c : Oc) (sc : Scope) : Ss → Bool
  | .nil => true
  | .cons s ss => s.okS c sc && ss.okS c sc
end
theorem slotL_ok {N : List Str} {sc : Scope} {x : Str} {i : Nat} (h : slotL N sc x i = true) : N[i]? = some x ∧ sc.names.lookup x = some .local := by
  obtain ⟨h1, h2⟩ := and_ok h
  exact ⟨of_decide_eq_true h1, locB_ok h2⟩
section
variable {env : Env}
theorem sw_un (t : Option Expr) (l : Nat) : ∀ (e : E), e.isLc = false → swapsWith e.un t l env = pure false
  | .tr e, h => sw_un t l e h
  | .lc .., h => by cases h
  | .name .., _ | .peek .., _ | .cst .., _ | .int .., _ | .str .., _ | .bl .., _ | .non .., _ | .tup .., _ | .lst .., _ | .lstH .., _ | .emp .., _ | .bin .., _ | .neg .., _ | .not .., _ | .notV .., _ | .bop .., _ | .cmp .., _ | .chain .., _ | .ife .., _ | .call .., _ | .callK .., _ | .blt .., _ | .isi .., _ | .isiT .., _ | .sub .., _ | .slc .., _ => rfl
theorem sw_tg (l : Nat) : ∀ (t : Tg) (e : E), (!(t.isName && e.isLc)) = true → swapsWithSole [t.un] e.un l env = pure false
  | .name x i p, e, h => show swapsWith e.un (some (.Name x p)) l env = pure false from sw_un (some (.Name x p)) l e (by
    cases q : e.isLc with
    | false => rfl
    | true =>
      have h : (!(true && e.isLc)) = true := h
      rw [q] at h
      cases h)
  | .tup ts k p, e, _ => show swapsWith e.un (some (Tg.un (.tup ts k p))) l env = pure false from sw_other l (Tg.un (.tup ts k p)) (fun _ _ z => by cases z) e
  | .sub a i p, e, _ => show swapsWith e.un (some (Tg.un (.sub a i p))) l env = pure false from sw_other l (Tg.un (.sub a i p)) (fun _ _ z => by cases z) e
where sw_other (l : Nat) (t : Expr) (ht : ∀ x p, t ≠ .Name x p) : ∀ e : E, swapsWith e.un (some t) l env = pure false
  | .tr e => sw_other l t ht e
  | .lc .. => by
    cases t <;> first | rfl | exact absurd rfl (ht _ _)
  | .name .. | .peek .. | .cst .. | .int .. | .str .. | .bl .. | .non .. | .tup .. | .lst .. | .lstH .. | .emp .. | .bin .. | .neg .. | .not .. | .notV .. | .bop .. | .cmp .. | .chain .. | .ife .. | .call .. | .callK .. | .blt .. | .isi .. | .isiT .. | .sub .. | .slc .. => rfl
theorem stores_un : ∀ (t : Tg) (e : E), (!(t.isTupT && e.isTup)) = true → swappedStores [t.un] e.un env = pure none
  | .name .., e, _ => rfl
  | .sub .., e, _ => rfl
  | .tup ts k p, e, h => no_tup ts.un k p e (by
    have h : (!(true && e.isTup)) = true := h
    cases q : e.isTup with
    | false => rfl
    | true => rw [q] at h; cases h)
where no_tup (ts : List Expr) (k : Nat) (p : Pos) : ∀ e : E, e.isTup = false → swappedStores [.Tuple ts k p] e.un env = pure none
  | .tr e, h => no_tup ts k p e h
  | .tup .., h => by cases h
  | .name .., _ | .peek .., _ | .cst .., _ | .int .., _ | .str .., _ | .bl .., _ | .non .., _ | .lst .., _ | .lstH .., _ | .emp .., _ | .bin .., _ | .neg .., _ | .not .., _ | .notV .., _ | .bop .., _ | .cmp .., _ | .chain .., _ | .ife .., _ | .call .., _ | .callK .., _ | .blt .., _ | .isi .., _ | .isiT .., _ | .sub .., _ | .slc .., _ | .lc .., _ => rfl
end

/-! ## new lists -/
section
variable {X : Cx} {Z : WX} {D : Dn} {c : Oc}
theorem E.plc (n : Cn X Z D c) {e : E} {tg : Tg} {it : It} {t : Eo} {vs : List (Str × Nat)} {sc : Scope} {p : Pos} (ok : E.okE c X.env.scope (.lc e tg it t vs sc p) = true) :
    PE X (E.un (.lc e tg it t vs sc p)) (tF X Z (fun σ h => match noOwn σ (ixs vs) with
      | true => (it.den D σ h).bind fun xs h => lcGo (fun x => tg.put x (wipeS σ (ixs vs))) (fun σ h => t.tst D σ h) (fun σ h => e.den D false σ h) xs [] h
      | false => .bad)) := by
  obtain ⟨o1, o2⟩ := and_ok (show (blkC c.N X.env.scope sc vs && (tgIt tg it && (it.okE c X.env.scope && (tg.okC c (relS sc X.env.scope) (ixs vs) && (e.okE c (relS sc X.env.scope) && t.okE c (relS sc X.env.scope)))))) = true from ok)
  obtain ⟨o2, o3⟩ := and_ok o2
  obtain ⟨o3, o4⟩ := and_ok o3
  obtain ⟨o4, o5⟩ := and_ok o4
  obtain ⟨o5, o6⟩ := and_ok o5
  exact lc_of (e := e) (sc := sc) (p := p) n o1 o4 (It.pi it X Z n tg o2 o3) (fun s H C cl fp => Eo.pt t (X.blk s H sc (compEnvC sc cl C X.env) fp) nox (n.blk ..) o6)
      (fun s H C cl fp => E.pe e (X.blk s H sc (compEnvC sc cl C X.env) fp) nox (n.blk ..) false o5)
/-- a list by a sum: new -/
theorem cat_new {e0 : Ent} {F : Hp} {ι : List Addr} {sl : Sls} {h : Obs} {σ : VS} {H : Hp} {x y : W} {v u : V} {ws : List W} (j : J X.K e0 F ι sl h σ H) (r1 : RN X.K F ι H x v) (r2 : RN X.K F ι H y u) (e : binW .add x y = some (.lst ws)) {Q : VK}
    (k : ∀ p vs, H p = none → RVs X.K F ι ws vs → Q (.ref p) (upd H p (.lst vs))) : rCat v u H Q := by
  have e : addW x y = some (.lst ws) := e
  cases x with
  | lst a =>
    cases y with
    | lst b =>
      have e : (match lineN (a.length + b.length) with | true => some (W.lst (a ++ b)) | false => none) = some (.lst ws) := e
      obtain ⟨p, xs, rfl, hp, rx⟩ := r1.lst j.hr.sub
      obtain ⟨q, ys, rfl, hq, ry⟩ := r2.lst j.hr.sub
      split at e
      · rename_i hl
        cases e
        refine ⟨p, q, xs, ys, rfl, rfl, hp, hq, by rw [← rx.length, ← ry.length]; exact lineN_ok hl, fun l hl => k l _ hl (rx.append ry)⟩
      · cases e
    | _ => cases e
  | int i => cases y <;> cases e
  | str s =>
    cases y with
    | str t =>
      have e : (match lineN (s.length + t.length) with | true => some (W.str (s ++ t)) | false => none) = some (.lst ws) := e
      split at e <;> cases e
    | _ => cases e
  | _ => cases e
theorem E.pf (n : Cn X Z D c) : ∀ (e : E), e.okE c X.env.scope = true → PE X e.un (tF X Z (e.fresh D))
  | .lst es p, ok => by
    refine PE.imp (pe_lst (Es.pa es X Z n false ok)) ?_
    rintro σ H Q ⟨e0, F, ι, sl, h, j, q⟩
    refine ⟨e0, F, ι, sl, h, j, PoF.bind q fun ws h1 F1 ι1 H1 vs l1 j1 r1 q1 => ?_⟩
    cases hl : lineN ws.length with
    | false => simp only [hl] at q1; exact False.elim q1
    | true =>
      simp only [hl] at q1
      refine ⟨by rw [← r1.rvs.length]; exact lineN_ok hl, fun a ha => ?_⟩
      exact q1 F1 ι1 _ a vs .refl (j1.loose ha) (j1.nw ha) r1.rvs
  | .bin .add a b p, ok => by
    obtain ⟨o1, o2⟩ := and_ok (show (a.okE c X.env.scope && b.okE c X.env.scope) = true from ok)
    refine PE.imp (pe_op op_cat (E.pe a X Z n true o1) (E.pe b X Z n true o2)) ?_
    rintro σ H Q ⟨e0, F, ι, sl, h, j, q⟩
    refine ⟨e0, F, ι, sl, h, j, PoF.bind q fun x h1 F1 ι1 H1 v l1 j1 r1 q1 => ⟨e0, F1, ι1, sl, h1, j1, PoF.bind q1 fun y h2 F2 ι2 H2 u l2 j2 r2 q2 => ?_⟩⟩
    cases hb : binW .add (x.now h2) (y.now h2) with
    | none => simp only [hb] at q2; exact False.elim q2
    | some w =>
      cases w with
      | lst ws =>
        simp only [hb] at q2
        exact cat_new j2 (j2.now (r1.mono l2).op) (j2.now r2.op) hb fun p vs hp rv => q2 F2 ι2 _ p vs .refl (j2.loose hp) (j2.nw hp) rv
      | _ => simp only [hb] at q2; exact False.elim q2
  | .blt .list xp es p, ok => by
    obtain ⟨o1, o2⟩ := and_ok (show (glB X.env.scope "list" && (!es.isNil && es.okE c X.env.scope)) = true from ok)
    obtain ⟨o2, o3⟩ := and_ok o2
    have ha := Es.pa es X Z n true o3
    cases es with
    | nil => cases o2
    | cons e es =>
      refine PE.imp (pe_callTy call_list_of (glB_ok o1) (n.bt .list) (bt_boot .list) ha (bt_name .list).1 (bt_name .list).2 (star_un e es.un) (plain_un p es)) ?_
      rintro σ H Q ⟨e0, F, ι, sl, h, j, q⟩
      refine ⟨e0, F, ι, sl, h, j, PoF.bind q fun ws h1 F1 ι1 H1 vs l1 j1 r1 q1 => ?_⟩
      have rn := r1.rns j1
      cases hb : bltW .list (ws.map (W.now h1)) with
      | none => simp only [hb] at q1; exact False.elim q1
      | some w =>
        obtain ⟨a, ea, eb⟩ := on1_ok (f := listW) hb
        rw [ea] at rn
        obtain ⟨v, rfl, rv⟩ := rn.one
        have fin : ∀ {us : List W}, a.items = some us → w = .lst us → ∃ p vs, v = .ref p ∧ (SqL X.K H1 p vs ∨ SqT X.K H1 p vs) ∧ ∀ l, H1 l = none → Q (.ref l) (upd H1 l (.lst vs)) := fun {us} hi ew => by
          subst ew
          simp only [hb] at q1
          obtain ⟨p, vs, rfl, sq, rvs⟩ := rv.items j1.hr.sub hi
          exact ⟨p, vs, rfl, sq, fun l hl => q1 F1 ι1 _ l vs .refl (j1.loose hl) (j1.nw hl) rvs⟩
        unfold listW at eb
        split at eb
        · cases eb
          obtain ⟨p, vs, rfl, sq, k⟩ := fin rfl rfl
          exact ⟨p, vs, rfl, sq, k⟩
        · cases eb
          obtain ⟨p, vs, rfl, sq, k⟩ := fin rfl rfl
          exact ⟨p, vs, rfl, sq, k⟩
        · cases eb
  | .slc a lo hi sp p, ok => by
    obtain ⟨o1, o2⟩ := and_ok (show (a.okE c X.env.scope && (lo.okE c X.env.scope && hi.okE c X.env.scope)) = true from ok)
    obtain ⟨o2, o3⟩ := and_ok o2
    refine PE.imp (pe_slice sl_list (E.pe a X Z n true o1) (Eo.po lo X Z n o2) (Eo.po hi X Z n o3)) ?_
    rintro σ H Q ⟨e0, F, ι, sl, h, j, q⟩
    have q : PoF (bx X Z e0) F ι sl σ ((a.den D true sl h).bind fun x h => (lo.den D sl h).bind fun l h => (hi.den D sl h).bind fun u h => (R.opt (slcW (x.now h) l u) h).bind fun w h => match w with | .lst ws => .ok ws h | _ => .bad) Q := by
      have z : ∀ {α β γ : Type} (r : R α) (f : α → Obs → R β) (g : β → Obs → R γ), (r.bind f).bind g = r.bind fun a h => (f a h).bind g := fun r f g => by cases r <;> rfl
      have q : PoF (bx X Z e0) F ι sl σ (((a.den D true sl h).bind fun x h => (lo.den D sl h).bind fun l h => (hi.den D sl h).bind fun u h => R.opt (slcW (x.now h) l u) h).bind fun w h => match w with | .lst ws => .ok ws h | _ => .bad) Q := q
      simp only [z] at q
      exact q
    refine ⟨e0, F, ι, sl, h, j, PoF.bind q fun x h1 F1 ι1 H1 v l1 j1 r1 q1 => ⟨e0, F1, ι1, sl, h1, j1, PoF.bind q1 fun y h2 F2 ι2 H2 u l2 j2 r2 q2 => ⟨e0, F2, ι2, sl, h2, j2, PoF.bind q2 fun z h3 F3 ι3 H3 t l3 j3 r3 q3 => ?_⟩⟩⟩
    subst r2
    subst r3
    have rn := j3.now ((r1.mono l2).mono l3).op
    cases hx : x.now h3 with
    | lst ws =>
      rw [hx] at rn
      simp only [hx] at q3
      obtain ⟨a, vs, rfl, ha, rv⟩ := rn.lst j3.hr.sub
      exact ⟨a, vs, rfl, .inl (.inl ha), fun p hp => q3 F3 ι3 _ p _ .refl (j3.loose hp) (j3.nw hp) (rv.cutR y z)⟩
    | tup ws =>
      simp only [hx, slcW] at q3
      cases hd : (decide (HT.sIx ws.length 0 y = 0) && decide (HT.sIx ws.length ws.length z = ws.length)) <;> (simp only [hd] at q3; exact False.elim q3)
    | _ => simp only [hx] at q3; exact False.elim q3
  | .lc e tg it t vs sc p, ok => PE.imp (E.plc n ok) fun σ H Q q => q
  | .bin .sub .., ok | .bin .mul .., ok | .bin .fdiv .., ok | .bin .mod .., ok | .bin .pow .., ok => PE.never fun σ H Q ⟨e0, F, ι, sl, h, j, q⟩ => q
  | .blt .len .., ok | .blt .abs .., ok | .blt .max .., ok | .blt .min .., ok | .blt .int .., ok | .blt .divmod .., ok | .blt .repr .., ok | .blt .all .., ok | .blt .tuple .., ok => PE.never fun σ H Q ⟨e0, F, ι, sl, h, j, q⟩ => q
  | .tr .., ok | .name .., ok | .peek .., ok | .cst .., ok | .int .., ok | .str .., ok | .bl .., ok | .non .., ok | .tup .., ok | .lstH .., ok | .emp .., ok | .neg .., ok | .not .., ok | .notV .., ok | .bop .., ok | .cmp .., ok | .chain .., ok | .ife .., ok | .call .., ok | .callK .., ok | .isi .., ok | .isiT .., ok | .sub .., ok => PE.never fun σ H Q ⟨e0, F, ι, sl, h, j, q⟩ => q
end
/-! ## targets -/
def tTg (X : Cx) (m : W → Sls → Obs → R Sls) : TG := fun v σ H Q => ∃ e0 F ι sl h w, J X.K e0 F ι sl h σ H ∧ RV X.K F ι w v ∧ match m w sl h with
  | .ok s1 h1 => ∀ F1 ι1 σ1 H1, Le F ι F1 ι1 → J X.K e0 F1 ι1 s1 h1 σ1 H1 → Q σ1 H1
  | _ => False
def tTgs (X : Cx) (m : List W → Sls → Obs → R Sls) : TGs := fun vs σ H Q => ∃ e0 F ι sl h ws, J X.K e0 F ι sl h σ H ∧ RVs X.K F ι ws vs ∧ match m ws sl h with
  | .ok s1 h1 => ∀ F1 ι1 σ1 H1, Le F ι F1 ι1 → J X.K e0 F1 ι1 s1 h1 σ1 H1 → Q σ1 H1
  | _ => False
theorem asub_un {env : Env} (o : Expr) (p : Pos) (v : Value) : ∀ (i : E), assign (.Subscript o i.un p) env v = (do
      let a ← holding [v] (eval o env)
      let b ← holding [v, a] (eval i.un env)
      standAt p
      holding [v, a, b] (setItem a b v)
      release [v, a, b] [])
  | .tr e => asub_un o p v e
  | .name .. | .peek .. | .cst .. | .int .. | .str .. | .bl .. | .non .. | .tup .. | .lst .. | .lstH .. | .emp .. | .bin .. | .neg .. | .not .. | .notV .. | .bop .. | .cmp .. | .chain .. | .ife .. | .call .. | .callK .. | .blt .. | .isi .. | .isiT .. | .sub .. | .slc .. | .lc .. => rfl
theorem tgs_len {D : Dn} : ∀ {ts : Tgs} {ws : List W} {sl s1 : Sls} {h h1 : Obs}, ts.den D ws sl h = .ok s1 h1 → ws.length = ts.len
  | .nil, [], _, _, _, _, _ => rfl
  | .nil, _ :: _, _, _, _, _, z => by cases z
  | .cons t ts, [], _, _, _, _, z => by cases z
  | .cons t ts, w :: ws, sl, s1, h, h1, z => by
    have z : (match t.den D w sl h with | .ok s h => ts.den D ws s h | _ => .bad) = R.ok s1 h1 := z
    cases q : t.den D w sl h with
    | ok s h2 =>
      rw [q] at z
      exact congrArg (· + 1) (tgs_len z)
    | exc x h2 => rw [q] at z; cases z
    | bad => rw [q] at z; cases z
section
variable {X : Cx} {Z : WX} {D : Dn} {c : Oc}
mutual
theorem Tg.pg (n : Cn X Z D c) : ∀ (t : Tg), t.okT c X.env.scope = true → PG X t.un (tTg X (t.den D))
  | .name x i p, ok => by
    obtain ⟨h1, h2⟩ := slotL_ok ok
    refine PG.imp (pg_name n.nd (i := i) (by rw [n.N]; exact h1) (.inl h2) (.inr h2)) ?_
    rintro v σ H Q ⟨e0, F, ι, sl, h, w, j, r, k⟩
    exact k F ι _ H .refl (j.setV r)
  | .tup ts m p, ok => by
    refine PG.imp (pg_tup n.calm (Tgs.pg n ts ok) (each_len ts) (each_star ts)) ?_
    rintro v σ H Q ⟨e0, F, ι, sl, h, w, j, r, k⟩
    cases r with
    | @tup ws a vs sq rv =>
      refine ⟨_, _, rfl, sqT_mono j.hr.sub sq, ?_, e0, F, ι, sl, h, ws, j, rv, k⟩
      have k : (match ts.den D ws sl h with | .ok s1 h1 => ∀ F1 ι1 σ1 H1, Le F ι F1 ι1 → J X.K e0 F1 ι1 s1 h1 σ1 H1 → Q σ1 H1 | _ => False) := k
      rw [← rv.length]
      cases q : ts.den D ws sl h with
      | ok s1 h1 => exact tgs_len q
      | exc x h1 => rw [q] at k; exact False.elim k
      | bad => rw [q] at k; exact False.elim k
    | _ => exact False.elim k
  | .sub a i p, ok => by
    obtain ⟨o1, o2⟩ := and_ok (show (a.okE c X.env.scope && i.okE c X.env.scope) = true from ok)
    refine PG.imp (pg_sub (E.pe a X Z n false o1) (E.pe i X Z n false o2) set_list (fun v => asub_un a.un p v i)) ?_
    rintro v σ H Q ⟨e0, F, ι, sl, h, w, j, r, k⟩
    have k : (match (match a.den D false sl h with
      | .ok (.ref n) h => (match i.den D false sl h with
        | .ok (.int k) h => (match h[n]? with
          | some (.lst ws) => (match ixN ws.length k with
            | some j => R.ok sl (h.set n (.lst (ws.set j w)))
            | none => .bad)
          | none => .bad)
        | _ => .bad)
      | _ => .bad) with | .ok s1 h1 => ∀ F1 ι1 σ1 H1, Le F ι F1 ι1 → J X.K e0 F1 ι1 s1 h1 σ1 H1 → Q σ1 H1 | _ => False) := k
    refine ⟨e0, F, ι, sl, h, j, ?_⟩
    cases q1 : a.den D false sl h with
    | ok x h1 =>
      rw [q1] at k
      intro F1 ι1 H1 v1 l1 j1 r1
      cases r1 with
      | @ref nn ad e1 =>
        refine ⟨e0, F1, ι1, sl, h1, j1, ?_⟩
        have k : (match (match i.den D false sl h1 with
          | .ok (.int k) h => (match h[nn]? with
            | some (.lst ws) => (match ixN ws.length k with
              | some j => R.ok sl (h.set nn (.lst (ws.set j w)))
              | none => .bad)
            | none => .bad)
          | _ => .bad) with | .ok s1 h1 => ∀ F1 ι1 σ1 H1, Le F ι F1 ι1 → J X.K e0 F1 ι1 s1 h1 σ1 H1 → Q σ1 H1 | _ => False) := k
        cases q2 : i.den D false sl h1 with
        | ok y h2 =>
          rw [q2] at k
          intro F2 ι2 H2 v2 l2 j2 r2
          cases r2 with
          | int m =>
            have k : (match (match h2[nn]? with
                | some (.lst ws) => (match ixN ws.length m with
                  | some j => R.ok sl (h2.set nn (.lst (ws.set j w)))
                  | none => .bad)
                | none => .bad) with | .ok s1 h1 => ∀ F1 ι1 σ1 H1, Le F ι F1 ι1 → J X.K e0 F1 ι1 s1 h1 σ1 H1 → Q σ1 H1 | _ => False) := k
            cases q3 : h2[nn]? with
            | none => rw [q3] at k; exact False.elim k
            | some o =>
              rw [q3] at k
              cases o with
              | lst ws =>
                have k : (match (match ixN ws.length m with
                  | some j => R.ok sl (h2.set nn (.lst (ws.set j w)))
                  | none => .bad) with | .ok s1 h1 => ∀ F1 ι1 σ1 H1, Le F ι F1 ι1 → J X.K e0 F1 ι1 s1 h1 σ1 H1 → Q σ1 H1 | _ => False) := k
                have e2 := l2.at e1
                obtain ⟨fn, xs, hx, rx⟩ := j2.hr.ob nn ad _ e2 q3
                cases q4 : ixN ws.length m with
                | none => rw [q4] at k; exact False.elim k
                | some jj =>
                  rw [q4] at k
                  refine ⟨ad, xs, m, jj, rfl, rfl, hx, by rw [← rx.length]; exact q4, ?_⟩
                  exact k F2 ι2 σ _ (l1.trans l2) (j2.mutH e2 fn (by rw [hx]; simp) (rx.set (r.mono (l1.trans l2)) jj))
          | _ => exact False.elim k
        | exc x h2 => rw [q2] at k; exact False.elim k
        | bad => rw [q2] at k; exact False.elim k
      | _ => exact False.elim k
    | exc x h1 => rw [q1] at k; exact False.elim k
    | bad => rw [q1] at k; exact False.elim k
theorem Tgs.pg (n : Cn X Z D c) : ∀ (ts : Tgs), ts.okT c X.env.scope = true → PGs X ts.un (tTgs X (ts.den D))
  | .nil, ok => by
    refine PGs.imp pgs_nil ?_
    rintro vs σ H Q ⟨e0, F, ι, sl, h, ws, j, r, k⟩
    cases r with
    | nil => exact ⟨rfl, k F ι σ H .refl j⟩
    | cons _ _ => exact False.elim k
  | .cons t ts, ok => by
    obtain ⟨o1, o2⟩ := and_ok (show (t.okT c X.env.scope && ts.okT c X.env.scope) = true from ok)
    refine PGs.imp (pgs_cons (Tg.pg n t o1) (Tgs.pg n ts o2) (by rw [assignEach_un]; rfl)) ?_
    rintro vs σ H Q ⟨e0, F, ι, sl, h, ws, j, r, k⟩
    cases r with
    | nil => exact False.elim k
    | @cons w v ws us r1 rr =>
      refine ⟨_, _, rfl, e0, F, ι, sl, h, w, j, r1, ?_⟩
      have k : (match (match t.den D w sl h with | .ok s h => ts.den D ws s h | _ => .bad) with | .ok s1 h1 => ∀ F1 ι1 σ1 H1, Le F ι F1 ι1 → J X.K e0 F1 ι1 s1 h1 σ1 H1 → Q σ1 H1 | _ => False) := k
      cases q : t.den D w sl h with
      | ok s1 h1 =>
        rw [q] at k
        intro F1 ι1 σ1 H1 l1 j1
        refine ⟨e0, F1, ι1, s1, h1, ws, j1, rr.mono l1, ?_⟩
        have k : (match ts.den D ws s1 h1 with | .ok s1 h1 => ∀ F1 ι1 σ1 H1, Le F ι F1 ι1 → J X.K e0 F1 ι1 s1 h1 σ1 H1 → Q σ1 H1 | _ => False) := k
        cases q2 : ts.den D ws s1 h1 with
        | ok s2 h2 =>
          rw [q2] at k
          exact fun F2 ι2 σ2 H2 l2 j2 => k F2 ι2 σ2 H2 (l1.trans l2) j2
        | exc x h2 => rw [q2] at k; exact k
        | bad => rw [q2] at k; exact k
      | exc x h1 => rw [q] at k; exact k
      | bad => rw [q] at k; exact k
end
end
end Ev

set_option maxHeartbeats 1000000
namespace Ev
open PySem PySem.Spec PyProof.Rows L2

/-! ## what a name is given -/
def PoV (X : Cx) (Z : WX) (e0 : Ent) (F : Hp) (ι : List Addr) (sl : Sls) (σ : VS) (r : R Sl) (Q : V → Hp → Prop) : Prop := match r with
  | .ok (.val w) h' => ∀ F' ι' H' v, Le F ι F' ι' → J X.K e0 F' ι' sl h' σ H' → RV X.K F' ι' w v → Q v H'
  | .ok (.own ws) h' => ∀ F' ι' H' p us, Le F ι F' ι' → J X.K e0 F' ι' sl h' σ H' → Nw e0 F' ι' sl σ H' p us → RVs X.K F' ι' ws us → Q (.ref p) H'
  | .exc x h' => ∀ F' ι' H' cls d, Le F ι F' ι' → J X.K e0 F' ι' sl h' σ H' → RX X.K X.mg F' ι' x cls d → Z cls d σ H'
  | _ => False
def tV (X : Cx) (Z : WX) (m : Sls → Obs → R Sl) : TE := fun σ H Q => ∃ e0 F ι sl h, J X.K e0 F ι sl h σ H ∧ PoV X Z e0 F ι sl σ (m sl h) Q
section
variable {X : Cx} {Z : WX} {D : Dn} {c : Oc}
theorem E.pv (n : Cn X Z D c) (o : Bool) (e : E) (ok : e.okE c X.env.scope = true) : PE X e.un (tV X Z (e.give D o)) := by
  cases o with
  | true =>
    refine PE.imp (E.pf n e ok) ?_
    rintro σ H Q ⟨e0, F, ι, sl, h, j, q⟩
    refine ⟨e0, F, ι, sl, h, j, ?_⟩
    have q : PoV X Z e0 F ι sl σ ((e.fresh D sl h).bind fun ws h => .ok (.own ws) h) Q := q
    cases hr : e.fresh D sl h with
    | ok ws h1 => rw [hr] at q; exact q
    | exc x h1 => rw [hr] at q; exact q
    | bad => rw [hr] at q; exact q
  | false =>
    refine PE.imp (E.pe e X Z n false ok) ?_
    rintro σ H Q ⟨e0, F, ι, sl, h, j, q⟩
    refine ⟨e0, F, ι, sl, h, j, ?_⟩
    have q : PoV X Z e0 F ι sl σ ((e.den D false sl h).bind fun w h => .ok (.val w) h) Q := q
    cases hr : e.den D false sl h with
    | ok ws h1 => rw [hr] at q; exact q
    | exc x h1 => rw [hr] at q; exact q
    | bad => rw [hr] at q; exact q
/-- the slot's new state -/
theorem PoV.of {e0 : Ent} {F : Hp} {ι : List Addr} {sl : Sls} {σ : VS} {r : R Sl} {Q : V → Hp → Prop} {i : Nat} (k : ∀ s h' F' ι' H' v, r = .ok s h' → Le F ι F' ι' → J X.K e0 F' ι' (sl.set i s) h' (σ.set i (some v)) H' → Q v H')
    (x : ∀ y h' F' ι' H' cls d, r = .exc y h' → Le F ι F' ι' → J X.K e0 F' ι' sl h' σ H' → RX X.K X.mg F' ι' y cls d → Z cls d σ H') (nb : r ≠ .bad) (nn : ∀ h', r ≠ .ok .non h') : PoV X Z e0 F ι sl σ r Q := by
  cases r with
  | ok s h' =>
    cases s with
    | non => exact absurd rfl (nn h')
    | val w => exact fun F' ι' H' v l j q => k _ h' F' ι' H' v rfl l (j.setV q)
    | own ws => exact fun F' ι' H' p us l j n q => k _ h' F' ι' H' (.ref p) rfl l (j.setO n q)
  | exc y h' => exact fun F' ι' H' cls d l j q => x y h' F' ι' H' cls d rfl l j q
  | bad => exact absurd rfl nb
theorem give_non {o : Bool} {e : E} {sl : Sls} {h h' : Obs} : e.give D o sl h ≠ .ok .non h' := by
  intro z
  cases o with
  | true =>
    have z : ((e.fresh D sl h).bind fun ws h => R.ok (Sl.own ws) h) = .ok .non h' := z
    cases q : e.fresh D sl h <;> (rw [q] at z; cases z)
  | false =>
    have z : ((e.den D false sl h).bind fun w h => R.ok (Sl.val w) h) = .ok .non h' := z
    cases q : e.den D false sl h <;> (rw [q] at z; cases z)

/-! ## name = value -/
theorem asg_ps (n : Cn X Z D c) (o : Bool) {x : Str} {i : Nat} {xp p : Pos} {e : E} (ok : (slotL c.N X.env.scope x i && e.okE c X.env.scope) = true) :
    PS X (.Assign [.Name x xp] e.un p) (fun G σ H => tV X Z (e.give D o) σ H fun v H1 => G.nx (σ.set i (some v)) H1) := by
  obtain ⟨o1, o2⟩ := and_ok ok
  obtain ⟨h1, h2⟩ := slotL_ok o1
  have plain : swapsWith e.un (some (.Name x xp)) p.line X.env = pure false → PS X (.Assign [.Name x xp] e.un p) (fun G σ H => tV X Z (e.give D o) σ H fun v H1 => G.nx (σ.set i (some v)) H1) := fun hs =>
    PS.imp (ps_set n.nd (i := i) (by rw [n.N]; exact h1) (.inl h2) (E.pv n o e o2) hs (.inr h2)) fun G σ H q => q
  have go : ∀ e' : E, e'.un = e.un → e'.isLc = false → swapsWith e.un (some (.Name x xp)) p.line X.env = pure false := fun e' h1 h2 => by rw [← h1]; exact sw_un _ _ e' h2
  have lc : ∀ e' : E, e'.okE c X.env.scope = true → (∀ (σ : VS) (H : Hp) (Q : VK), tV X Z (e.give D o) σ H Q → tV X Z (e'.give D o) σ H Q) → e'.un = e.un → PS X (.Assign [.Name x xp] e.un p) (fun G σ H => tV X Z (e.give D o) σ H fun v H1 => G.nx (σ.set i (some v)) H1) := fun e' ok' im hu => by
    cases e' with
    | lc e1 tg it t vs sc q =>
      rw [← hu]
      refine ⟨fun pins s σ H G I hq => ?_⟩
      have kd := I.ok.kind
      have bk : X.env.blockKind = .function := by unfold Env.blockKind; rw [kd]; rfl
      have hs : swapsWith (E.un (.lc e1 tg it t vs sc q)) (some (.Name x xp)) p.line X.env = pure (xp.line == q.line && !sc.names.any fun (n, k) => n == x && (k == .local || k == .cell)) := by
        show pure (X.env.blockKind == .function && X.env.kindOf x == some .local && xp.line == q.line && !sc.names.any fun (n, k) => n == x && (k == .local || k == .cell)) = _
        have hk : X.env.kindOf x = some .local := h2
        rw [bk, hk]
        rfl
      cases hb : (xp.line == q.line && !sc.names.any fun (n, k) => n == x && (k == .local || k == .cell)) with
      | false =>
        rw [hb] at hs
        exact (PS.imp (ps_set n.nd (i := i) (by rw [n.N]; exact h1) (.inl h2) (E.pv n o _ ok') hs (.inr h2)) fun G σ H q => im σ H _ q).run pins s σ H G I hq
      | true =>
        rw [hb] at hs
        obtain ⟨o1, o2⟩ := and_ok (show (blkC c.N X.env.scope sc vs && (tgIt tg it && (it.okE c X.env.scope && (tg.okC c (relS sc X.env.scope) (ixs vs) && (e1.okE c (relS sc X.env.scope) && t.okE c (relS sc X.env.scope)))))) = true from ok')
        obtain ⟨o2, o3⟩ := and_ok o2
        obtain ⟨o3, o4⟩ := and_ok o3
        obtain ⟨o4, o5⟩ := and_ok o4
        obtain ⟨o5, o6⟩ := and_ok o5
        refine (PS.imp (t' := fun G σ H => tV X Z (e.give D o) σ H fun v H1 => G.nx (σ.set i (some v)) H1) (ps_setLc (i := i) (wi := tWk X Z (fun σ h => it.den D σ h)) (g := tPut X (ixs vs) tg.put) (tt := tT X nox (fun σ h => t.tst D σ h)) (te := tE X nox false (fun σ h => e1.den D false σ h)) n.calm n.nd (by rw [n.N]; exact h1) h2 hs (It.pi it X Z n tg o2 o3) (blkOk_by (by rw [n.N]; exact o1))
          (fun s H C cl fp => Tg.pput (X := X.blk s H sc (compEnvC sc cl C X.env) fp) n.calm n.N n.nd tg o4) (fun s H C cl fp => Eo.pt t (X.blk s H sc (compEnvC sc cl C X.env) fp) nox (n.blk ..) o6)
          (fun s H C cl fp => E.pe e1 (X.blk s H sc (compEnvC sc cl C X.env) fp) nox (n.blk ..) false o5) (foldedI_un it)) ?_).run pins s σ H G I hq
        intro G σ H hq
        obtain ⟨e0, F, ι, sl, h, j, hq⟩ := im σ H _ hq
        refine lc_rd ⟨e0, F, ι, sl, h, j, ?_⟩
        have up : PoF (bx X Z e0) F ι sl σ (E.fresh D (.lc e1 tg it t vs sc q) sl h) (fun v H1 => G.nx (σ.set i (some v)) H1) := by
          cases o with
          | true =>
            have hq : PoV X Z e0 F ι sl σ ((E.fresh D (.lc e1 tg it t vs sc q) sl h).bind fun ws h => .ok (.own ws) h) (fun v H1 => G.nx (σ.set i (some v)) H1) := hq
            cases hr : E.fresh D (.lc e1 tg it t vs sc q) sl h with
            | ok ws h1 => rw [hr] at hq; exact hq
            | exc x h1 => rw [hr] at hq; exact hq
            | bad => rw [hr] at hq; exact hq
          | false =>
            refine PoF.of (k := false) ?_
            have hq : PoV X Z e0 F ι sl σ (((E.fresh D (.lc e1 tg it t vs sc q) sl h).bind fun ws h => .ok (.lst ws) h).bind fun w h => .ok (.val w) h) (fun v H1 => G.nx (σ.set i (some v)) H1) := hq
            cases hr : E.fresh D (.lc e1 tg it t vs sc q) sl h with
            | ok ws h1 => rw [hr] at hq; exact hq
            | exc x h1 => rw [hr] at hq; exact hq
            | bad => rw [hr] at hq; exact hq
        exact up
    | tr e2 => exact PS.never (fun G σ H q => by
        obtain ⟨e0, F, ι, sl, h, j, q⟩ := im σ H _ q
        cases o <;> exact q)
    | _ => exact plain (go _ hu rfl)
  exact lc e o2 (fun _ _ _ q => q) rfl

/-! ## two names, two values -/
theorem not_ok {b : Bool} (h : (!b) = true) : b = false := by
  cases b with
  | false => rfl
  | true => cases h
theorem swap_two {env : Env} {x y : Str} {xp yp tp ep : Pos} {k1 k2 : Nat} {a b : Expr} (hk : env.scope.kind = .function) (hx : env.scope.names.lookup x = some .local) (hy : env.scope.names.lookup y = some .local) (hne : x ≠ y) (hl : yp.line = xp.line)
    (hf : [a, b].all (foldedForSure 8) = false) (hc : [a, b].all (constantsAlone 8) = false) (hs : ([a, b].any fun | .Starred .. => true | _ => false) = false) :
    swappedStores [.Tuple [.Name x xp, .Name y yp] k1 tp] (.Tuple [a, b] k2 ep) env = pure (some [x, y]) := by
  have bk : env.blockKind = .function := by unfold Env.blockKind; rw [hk]; rfl
  have kx : env.kindOf x = some .local := hx
  have ky : env.kindOf y = some .local := hy
  have e1 : (x == y) = false := beq_false_of_ne hne
  have e2 : (y == x) = false := beq_false_of_ne (Ne.symm hne)
  unfold swappedStores
  simp only [bk, hs]
  simp only [List.filterMap_cons, List.filterMap_nil, List.head?_cons, Option.map_some, Option.getD_some, kx, ky, Expr.pos, hl, beq_self_eq_true, Bool.and_self, if_true]
  simp [hf, hc, e1, e2, List.eraseDups_cons, bk]
  intro z
  simp only [List.any_cons, List.any_nil, Bool.or_false, Bool.or_eq_false_iff] at hs
  rcases z with z | z
  · exact Bool.noConfusion (hs.1.symm.trans z)
  · exact Bool.noConfusion (hs.2.symm.trans z)
theorem no_star : ∀ (e : E), (match e.un with | .Starred .. => true | _ => false) = false
  | .tr e => no_star e
  | .name .. | .peek .. | .cst .. | .int .. | .str .. | .bl .. | .non .. | .tup .. | .lst .. | .lstH .. | .emp .. | .bin .. | .neg .. | .not .. | .notV .. | .bop .. | .cmp .. | .chain .. | .ife .. | .call .. | .callK .. | .blt .. | .isi .. | .isiT .. | .sub .. | .slc .. | .lc .. => rfl

/-! ## statements -/
structure Cs (X : Cx) (Z : WX) (D : Dn) (c : Oc) : Prop extends Cn X Z D c where
  po : PassesOwn (model X.prog X.w) X.A X.env X.xe
section
variable {X : Cx} {Z : WX} {D : Dn} {c : Oc}
/-- x, y = a, b -/
theorem par_ps (n : Cn X Z D c) {o1 o2 : Bool} {x y : Str} {i k : Nat} {xp yp tp ep p : Pos} {k1 k2 : Nat} {a b : E} (ok : S.okS c X.env.scope (.par o1 o2 x i xp y k yp k1 tp a b k2 ep p) = true) :
    PS X (S.un (.par o1 o2 x i xp y k yp k1 tp a b k2 ep p)) (tS X Z (S.den D (.par o1 o2 x i xp y k yp k1 tp a b k2 ep p))) := by
  obtain ⟨g1, ok⟩ := and_ok (show (slotL c.N X.env.scope x i && (slotL c.N X.env.scope y k && (decide (i ≠ k) && (decide (yp.line = xp.line) && ((!([a.un, b.un].all (foldedForSure 8)) && !([a.un, b.un].all (constantsAlone 8))) && (a.okE c X.env.scope && b.okE c X.env.scope)))))) = true from ok)
  obtain ⟨g2, ok⟩ := and_ok ok
  obtain ⟨g3, ok⟩ := and_ok ok
  obtain ⟨g4, ok⟩ := and_ok ok
  obtain ⟨g5, ok⟩ := and_ok ok
  obtain ⟨g5, g6⟩ := and_ok g5
  obtain ⟨g7, g8⟩ := and_ok ok
  obtain ⟨x1, x2⟩ := slotL_ok g1
  obtain ⟨y1, y2⟩ := slotL_ok g2
  have hik : i ≠ k := of_decide_eq_true g3
  have hxy : x ≠ y := fun z => hik (nodup_ix n.nd (by rw [n.N]; exact x1) (by rw [n.N, z]; exact y1))
  refine ⟨fun pins s σ H G I hq => ?_⟩
  have hs : ([a.un, b.un].any fun | .Starred .. => true | _ => false) = false := by
    have z1 := no_star a
    have z2 := no_star b
    simp only [List.any_cons, List.any_nil, Bool.or_false, Bool.or_eq_false_iff]
    exact ⟨z1, z2⟩
  have hw := swap_two (xp := xp) (yp := yp) (tp := tp) (ep := ep) (k1 := k1) (k2 := k2) (a := a.un) (b := b.un) I.ok.kind x2 y2 hxy (of_decide_eq_true g4) (not_ok g5) (not_ok g6) hs
  refine (PS.imp (t' := tS X Z (S.den D (.par o1 o2 x i xp y k yp k1 tp a b k2 ep p))) (ps_par (i := i) (j := k) n.calm n.nd (by rw [n.N]; exact x1) (by rw [n.N]; exact y1) hik x2 y2 (pa_cons (E.pv n o1 a g7) (pa_cons (E.pv n o2 b g8) pa_nil (star_un b _)) (star_un a _)) hw) ?_).run pins s σ H G I hq
  rintro G σ H ⟨e0, F, ι, sl, h, j, q⟩
  have q : PoS X Z e0 F ι (match a.give D o1 sl h with
    | .ok s1 h => (match b.give D o2 sl h with
      | .ok s2 h => .nx ((sl.set i s1).set k s2) h
      | .exc x h => .exc x sl h
      | .bad => .bad)
    | .exc x h => .exc x sl h
    | .bad => .bad) G := q
  refine ⟨e0, F, ι, sl, h, j, ?_⟩
  cases ha : a.give D o1 sl h with
  | bad => rw [ha] at q; exact False.elim q
  | exc y h1 =>
    rw [ha] at q
    exact fun F1 ι1 H1 cls d l1 j1 r1 => q F1 ι1 σ H1 cls d l1 j1 r1
  | ok s1 h1 =>
    rw [ha] at q
    have q : PoS X Z e0 F ι (match b.give D o2 sl h1 with
      | .ok s2 h => .nx ((sl.set i s1).set k s2) h
      | .exc x h => .exc x sl h
      | .bad => .bad) G := q
    cases s1 with
    | non => exact absurd ha give_non
    | val w =>
      intro F1 ι1 H1 v l1 j1 r1
      refine ⟨e0, F1, ι1, sl, h1, j1, ?_⟩
      cases hb : b.give D o2 sl h1 with
      | bad => rw [hb] at q; exact False.elim q
      | exc y h2 =>
        rw [hb] at q
        exact fun F2 ι2 H2 cls d l2 j2 r2 => q F2 ι2 σ H2 cls d (l1.trans l2) j2 r2
      | ok s2 h2 =>
        rw [hb] at q
        cases s2 with
        | non => exact absurd hb give_non
        | val w2 => exact fun F2 ι2 H2 v2 l2 j2 r2 => ⟨v, v2, rfl, q F2 ι2 _ H2 (l1.trans l2) ((j2.setV (r1.mono l2)).setV r2)⟩
        | own us => exact fun F2 ι2 H2 p2 vs l2 j2 n2 r2 => ⟨v, .ref p2, rfl, q F2 ι2 _ H2 (l1.trans l2) ((j2.setV (r1.mono l2)).setO n2.setV r2)⟩
    | own us1 =>
      intro F1 ι1 H1 p1 vs1 l1 j1 n1 r1
      have j1' := j1.holdN n1
      have back : ∀ {F2 : Hp} {ι2 : List Addr} {h2 : Obs} {H2 : Hp}, J X.K { e0 with hold := upd e0.hold p1 (.lst vs1) } F2 ι2 sl h2 σ H2 → J X.K e0 F2 ι2 sl h2 σ H2 ∧ Nw e0 F2 ι2 sl σ H2 p1 vs1 := fun {F2 ι2 h2 H2} j2 => J.unhold n1.o n1.hd j2
      refine ⟨_, F1, ι1, sl, h1, j1', ?_⟩
      cases hb : b.give D o2 sl h1 with
      | bad => rw [hb] at q; exact False.elim q
      | exc y h2 =>
        rw [hb] at q
        exact fun F2 ι2 H2 cls d l2 j2 r2 => q F2 ι2 σ H2 cls d (l1.trans l2) (back j2).1 r2
      | ok s2 h2 =>
        rw [hb] at q
        cases s2 with
        | non => exact absurd hb give_non
        | val w2 => exact fun F2 ι2 H2 v2 l2 j2 r2 => ⟨.ref p1, v2, rfl, q F2 ι2 _ H2 (l1.trans l2) (((back j2).1.setO (back j2).2 (r1.mono l2)).setV r2)⟩
        | own us =>
            intro F2 ι2 H2 p2 vs l2 j2 n2 r2
            have hne : p1 ≠ p2 := fun z => by
              have z2 : upd e0.hold p1 (.lst vs1) p2 = none := n2.hd
              rw [← z, upd_same] at z2
              cases z2
            have hd2 : e0.hold p2 = none := by
              have z2 : upd e0.hold p1 (.lst vs1) p2 = none := n2.hd
              rw [upd_ne (Ne.symm hne)] at z2
              exact z2
            have n2' : Nw e0 F2 ι2 sl σ H2 p2 vs := ⟨n2.at_, n2.f, n2.i, n2.o, hd2, n2.sl⟩
            exact ⟨.ref p1, .ref p2, rfl, q F2 ι2 _ H2 (l1.trans l2) (((back j2).1.setO (back j2).2 (r1.mono l2)).setO (n2'.setO hne) r2)⟩
/-- a loop -/
theorem whl_rd {G : Ends} {σ : VS} {H : Hp} {tst : Sls → Obs → R Bool} {body : Sls → Obs → Out} {m0 : Nat} {e0 : Ent} {F : Hp} {ι : List Addr} {sl : Sls} {h : Obs} (j : J X.K e0 F ι sl h σ H) (q : PoS X Z e0 F ι (whlGo tst body m0 sl h) G) :
    tWhile (tT X Z tst) (tS X Z body) G σ H := by
  refine ⟨fun m σ H => ∃ F1 ι1 sl h, J X.K e0 F1 ι1 sl h σ H ∧ PoS X Z e0 F1 ι1 (whlGo tst body m sl h) G, ⟨m0, F, ι, sl, h, j, q⟩, ?_⟩
  rintro m σ H ⟨F, ι, sl, h, j, q⟩
  cases m with
  | zero => exact False.elim q
  | succ m =>
    refine ⟨e0, F, ι, sl, h, j, PoS.tst (f := fun h => match body sl h with
      | .nx σ h => whlGo tst body m σ h
      | .ct σ h => whlGo tst body m σ h
      | .bk σ h => .nx σ h
      | .rt w h => .rt w h
      | .exc x σ h => .exc x σ h
      | .bad => .bad) (g := fun h => .nx sl h) (G := G) ?_ fun a h1 F1 ι1 H1 l1 j1 q1 => ?_⟩
    · have q : PoS X Z e0 F ι (match tst sl h with
        | .ok true h => (match body sl h with
          | .nx σ h => whlGo tst body m σ h
          | .ct σ h => whlGo tst body m σ h
          | .bk σ h => .nx σ h
          | .rt w h => .rt w h
          | .exc x σ h => .exc x σ h
          | .bad => .bad)
        | .ok false h => .nx sl h
        | .exc x h => .exc x sl h
        | .bad => .bad) G := q
      cases ht : tst sl h with
      | ok b h1 =>
        rw [ht] at q
        cases b <;> exact q
      | exc x h1 => rw [ht] at q; exact q
      | bad => rw [ht] at q; exact q
    · cases a with
      | false =>
        simp only [Bool.false_eq_true, if_false]
        exact q1 F1 ι1 σ H1 .refl j1
      | true =>
        simp only [if_true]
        refine ⟨fun σ' H' => ∃ F1 ι1 sl h, J X.K e0 F1 ι1 sl h σ' H' ∧ PoS X Z e0 F1 ι1 (whlGo tst body m sl h) G, fun σ' H' w => ⟨m, Nat.lt_succ_self m, w⟩, e0, F1, ι1, sl, h1, j1, ?_⟩
        simp only at q1
        cases hb : body sl h1 with
        | nx s2 h2 => rw [hb] at q1; exact fun F2 ι2 σ2 H2 l2 j2 => ⟨F2, ι2, s2, h2, j2, q1.le l2⟩
        | ct s2 h2 => rw [hb] at q1; exact fun F2 ι2 σ2 H2 l2 j2 => ⟨F2, ι2, s2, h2, j2, q1.le l2⟩
        | bk s2 h2 => rw [hb] at q1; exact q1
        | rt w h2 => rw [hb] at q1; exact q1
        | exc x s2 h2 => rw [hb] at q1; exact q1
        | bad => rw [hb] at q1; exact q1
theorem for_rd {G : Ends} {σ : VS} {H : Hp} {mi : Sls → Obs → R (List W)} {put : W → Sls → Obs → R Sls} {body : Sls → Obs → Out} {e0 : Ent} {F : Hp} {ι : List Addr} {sl : Sls} {h : Obs} (j : J X.K e0 F ι sl h σ H)
    (q : PoS X Z e0 F ι (match mi sl h with | .ok xs h => forGo put body xs sl h | .exc x h => .exc x sl h | .bad => .bad) G) : tFor (tWk X Z mi) (tTg X put) (tS X Z body) G σ H := by
  refine ⟨e0, F, ι, sl, h, j, ?_⟩
  cases hm : mi sl h with
  | bad => rw [hm] at q; exact False.elim q
  | exc x h1 =>
    rw [hm] at q
    exact fun F1 ι1 H1 cls d l1 j1 r1 => q F1 ι1 σ H1 cls d l1 j1 r1
  | ok xs h1 =>
    rw [hm] at q
    have q : PoS X Z e0 F ι (forGo put body xs sl h1) G := q
    intro F1 ι1 H1 t l1 j1 wk
    refine ⟨fun i m σ H => m = xs.length - i ∧ i ≤ xs.length ∧ ∃ F2 ι2 sl h, Le F1 ι1 F2 ι2 ∧ J X.K e0 F2 ι2 sl h σ H ∧ PoS X Z e0 F2 ι2 (forGo put body (xs.drop i) sl h) G, ⟨xs.length, by simp, Nat.zero_le _, F1, ι1, sl, h1, .refl, j1, q.le l1⟩, ?_⟩
    rintro i m σ2 H2 ⟨rfl, hi, F2, ι2, s2, h2, l2, j2, q2⟩
    have w2 := wk i e0 F2 ι2 s2 h2 σ2 H2 l2 j2
    by_cases hlt : i < xs.length
    · right
      have ei : xs[i]? = some xs[i] := List.getElem?_eq_getElem hlt
      obtain ⟨go, yl⟩ := w2.2 _ ei
      refine ⟨go, fun σ' H' => xs.length - (i + 1) = xs.length - (i + 1) ∧ i + 1 ≤ xs.length ∧ ∃ F2 ι2 sl h, Le F1 ι1 F2 ι2 ∧ J X.K e0 F2 ι2 sl h σ' H' ∧ PoS X Z e0 F2 ι2 (forGo put body (xs.drop (i + 1)) sl h) G, fun σ' H' w => ⟨_, by omega, w⟩, fun x H' y => ?_⟩
      obtain ⟨F3, ι3, l3, j3, rx⟩ := yl x H' y
      rw [List.drop_eq_getElem_cons hlt] at q2
      refine ⟨e0, F3, ι3, s2, h2, xs[i], j3, rx, ?_⟩
      have q2 : PoS X Z e0 F2 ι2 (match put xs[i] s2 h2 with
        | .ok σ h => (match body σ h with
          | .nx σ h => forGo put body (xs.drop (i + 1)) σ h
          | .ct σ h => forGo put body (xs.drop (i + 1)) σ h
          | .bk σ h => .nx σ h
          | .rt w h => .rt w h
          | .exc x σ h => .exc x σ h
          | .bad => .bad)
        | _ => .bad) G := q2
      cases hp : put xs[i] s2 h2 with
      | exc z h3 => rw [hp] at q2; exact False.elim q2
      | bad => rw [hp] at q2; exact False.elim q2
      | ok s3 h3 =>
        rw [hp] at q2
        intro F4 ι4 σ4 H4 l4 j4
        refine ⟨e0, F4, ι4, s3, h3, j4, ?_⟩
        have l24 := l3.trans l4
        have q2 : PoS X Z e0 F2 ι2 (match body s3 h3 with
          | .nx σ h => forGo put body (xs.drop (i + 1)) σ h
          | .ct σ h => forGo put body (xs.drop (i + 1)) σ h
          | .bk σ h => .nx σ h
          | .rt w h => .rt w h
          | .exc x σ h => .exc x σ h
          | .bad => .bad) G := q2
        replace q2 := q2.le l24
        cases hb : body s3 h3 with
        | nx s5 h5 => rw [hb] at q2; exact fun F5 ι5 σ5 H5 l5 j5 => ⟨rfl, hlt, F5, ι5, s5, h5, l2.trans (l24.trans l5), j5, q2.le l5⟩
        | ct s5 h5 => rw [hb] at q2; exact fun F5 ι5 σ5 H5 l5 j5 => ⟨rfl, hlt, F5, ι5, s5, h5, l2.trans (l24.trans l5), j5, q2.le l5⟩
        | bk s5 h5 => rw [hb] at q2; exact q2
        | rt w h5 => rw [hb] at q2; exact q2
        | exc z s5 h5 => rw [hb] at q2; exact q2
        | bad => rw [hb] at q2; exact q2
    · left
      rw [List.drop_eq_nil_of_le (by omega)] at q2
      exact ⟨w2.1 (by omega), q2 F2 ι2 σ2 H2 .refl j2⟩
/-- a list of one's own, looked up for a method -/
theorem own_at {e0 : Ent} {F : Hp} {ι : List Addr} {sl : Sls} {h : Obs} {σ : VS} {H : Hp} {i : Nat} {ws : List W} (j : J X.K e0 F ι sl h σ H) (e : sl[i]? = some (.own ws)) :
    ∃ p vs, σ[i]? = some (some (.ref p)) ∧ H p = some (.lst vs) ∧ RVs X.K F ι ws vs ∧ tyV X.K "list" (.ref p) H := by
  obtain ⟨p, vs, q1, q2, rv, _⟩ := j.at_ i _ e
  exact ⟨p, vs, q1, q2, rv, .inl ⟨rfl, _, .inl (.inl q2)⟩⟩
theorem few_one {env : Env} (cp : Pos) (e : E) : ((backTo cp (starEach [e.un] env)).all (fun x => !x.1) && (backToKw cp (keywordEach [] env)).all (fun x => x.1.isSome)
      && decide ([e.un].length + ([] : List Keyword).length + (if ([] : List Keyword).isEmpty then 0 else 1) < 30)) = true := by
  rw [star_un e []]
  rfl
mutual
theorem S.ps : ∀ (s : S) (n : Cs X Z D c), s.okS c X.env.scope = true → PS X s.un (tS X Z (s.den D))
  | .asg x i xp e p, n, ok => by
    refine PS.imp (asg_ps n.toCn false ok) ?_
    rintro G σ H ⟨e0, F, ι, sl, h, j, q⟩
    refine ⟨e0, F, ι, sl, h, j, ?_⟩
    have q : PoS X Z e0 F ι ((e.den D false sl h).out sl fun w h => .nx (sl.set i (.val w)) h) G := q
    show PoV X Z e0 F ι sl σ ((e.den D false sl h).bind fun w h => .ok (.val w) h) _
    cases hr : e.den D false sl h with
    | ok w h1 => rw [hr] at q; exact fun F1 ι1 H1 v l1 j1 r1 => q F1 ι1 _ H1 l1 (j1.setV r1)
    | exc y h1 => rw [hr] at q; exact fun F1 ι1 H1 cls d l1 j1 r1 => q F1 ι1 _ H1 cls d l1 j1 r1
    | bad => rw [hr] at q; exact q
  | .asgO x i xp e p, n, ok => by
    refine PS.imp (asg_ps n.toCn true ok) ?_
    rintro G σ H ⟨e0, F, ι, sl, h, j, q⟩
    refine ⟨e0, F, ι, sl, h, j, ?_⟩
    have q : PoS X Z e0 F ι (match e.fresh D sl h with | .ok ws h => .nx (sl.set i (.own ws)) h | .exc x h => .exc x sl h | .bad => .bad) G := q
    show PoV X Z e0 F ι sl σ ((e.fresh D sl h).bind fun ws h => .ok (.own ws) h) _
    cases hr : e.fresh D sl h with
    | ok w h1 => rw [hr] at q; exact fun F1 ι1 H1 p us l1 j1 n1 r1 => q F1 ι1 _ H1 l1 (j1.setO n1 r1)
    | exc y h1 => rw [hr] at q; exact fun F1 ι1 H1 cls d l1 j1 r1 => q F1 ι1 _ H1 cls d l1 j1 r1
    | bad => rw [hr] at q; exact q
  | .par .., n, ok => par_ps n.toCn ok
  | .asgT t e p, n, ok => by
    obtain ⟨o1, o2⟩ := and_ok (show ((!(t.isName && e.isLc) && !(t.isTupT && e.isTup)) && (t.okT c X.env.scope && e.okE c X.env.scope)) = true from ok)
    obtain ⟨a1, a2⟩ := and_ok o1
    obtain ⟨o2, o3⟩ := and_ok o2
    refine PS.imp (ps_asg (E.pe e X Z n.toCn false o3) (Tg.pg n.toCn t o2) (sw_tg _ t e a1) (stores_un t e a2) (by rw [assignEach_un]; rfl)) ?_
    rintro G σ H ⟨e0, F, ι, sl, h, j, q⟩
    refine ⟨e0, F, ι, sl, h, j, PoS.out q fun w h1 F1 ι1 H1 v l1 j1 r1 q1 => ⟨e0, F1, ι1, sl, h1, w, j1, r1, ?_⟩⟩
    cases hr : t.den D w sl h1 with
    | ok s2 h2 => rw [hr] at q1; exact q1
    | exc y h1 => rw [hr] at q1; exact q1
    | bad => rw [hr] at q1; exact q1
  | .pop t x i xp ap cp p, n, ok => by
    obtain ⟨o1, o2⟩ := and_ok (show ((ap.endLine == cp.line) && (slotB c.N X.env.scope x i && t.okT c X.env.scope)) = true from ok)
    obtain ⟨o2, o3⟩ := and_ok o2
    obtain ⟨h1, h2⟩ := and_ok (show (decide (c.N[i]? = some x) && (visB X.env.scope x && nmB x)) = true from o2)
    obtain ⟨h2, h3⟩ := and_ok h2
    have ho : PE X (.Name x xp) (tVar i) := pe_var (by rw [n.N]; exact of_decide_eq_true h1) (visB_ok h2) (nmB_ok h3).1 (nmB_ok h3).2
    have he := pe_bm0 (apos := ap) (cpos := cp) PySem.F.plainAttrs_list PySem.F.slot_list_pop PySem.F.type_list_pop mt_pop ho rfl o1
    refine PS.imp (ps_asg he (Tg.pg n.toCn t o3) (by cases t <;> rfl) (by cases t <;> rfl) (by rw [assignEach_un]; rfl)) ?_
    rintro G σ H ⟨e0, F, ι, sl, h, j, q⟩
    have q : PoS X Z e0 F ι (match sl[i]? with
      | some (.own ws) => (match ws[ws.length - 1]? with
        | some w => tgo (t.den D w (sl.set i (.own ws.dropLast)) h)
        | none => .bad)
      | _ => .bad) G := q
    split at q
    · rename_i ws e
      obtain ⟨a, vs, q1, q2, rv, ty⟩ := own_at j e
      refine ⟨.ref a, q1, ty, a, vs, ?_⟩
      split at q
      · rename_i w ew
        obtain ⟨v, e2, rw_⟩ := rv.get ew
        refine ⟨v, rfl, rfl, q2, by rw [← rv.length]; exact e2, e0, F, ι, _, h, w, j.mutO e q1 rv.dropLast, rw_, ?_⟩
        cases hr : t.den D w (sl.set i (.own ws.dropLast)) h with
        | ok s2 h2 => rw [hr] at q; exact q
        | exc y h1 => rw [hr] at q; exact q
        | bad => rw [hr] at q; exact q
      · exact False.elim q
    · exact False.elim q
  | .app x i xp ap e cp p, n, ok => by
    obtain ⟨o1, o2⟩ := and_ok (show ((ap.endLine == cp.line) && (slotB c.N X.env.scope x i && e.okE c X.env.scope)) = true from ok)
    obtain ⟨o2, o3⟩ := and_ok o2
    obtain ⟨h1, h2⟩ := and_ok (show (decide (c.N[i]? = some x) && (visB X.env.scope x && nmB x)) = true from o2)
    obtain ⟨h2, h3⟩ := and_ok h2
    have ho : PE X (.Name x xp) (tVar i) := pe_var (by rw [n.N]; exact of_decide_eq_true h1) (visB_ok h2) (nmB_ok h3).1 (nmB_ok h3).2
    have he := pe_bm (apos := ap) (cpos := cp) PySem.F.plainAttrs_list PySem.F.slot_list_append PySem.F.type_list_append mt_append ho (pa_cons (E.pe e X Z n.toCn false o3) pa_nil (star_un e _)) rfl (few_one cp e) o1 (star_un e _) rfl
    refine PS.imp (ps_expr he) ?_
    rintro G σ H ⟨e0, F, ι, sl, h, j, q⟩
    have q : PoS X Z e0 F ι (match sl[i]? with
      | some (.own ws) => (e.den D false sl h).out sl fun w h => (match decide (ws.length < sizeLine) with
        | true => .nx (sl.set i (.own (ws ++ [w]))) h
        | false => .bad)
      | _ => .bad) G := q
    split at q
    · rename_i ws e1
      obtain ⟨a, vs, q1, q2, rv, ty⟩ := own_at j e1
      refine ⟨.ref a, q1, ty, e0, F, ι, sl, h, j, PoS.out q fun w h1 F1 ι1 H1 v l1 j1 r1 q3 => ?_⟩
      obtain ⟨a', vs', z1, z2, rv', _⟩ := own_at j1 e1
      rw [q1] at z1
      cases z1
      cases hd : decide (ws.length < sizeLine) with
      | false => simp only [hd] at q3; exact False.elim q3
      | true =>
        simp only [hd] at q3
        exact ⟨a, vs', v, rfl, rfl, z2, by rw [← rv'.length]; exact of_decide_eq_true hd, q3 F1 ι1 σ _ .refl (j1.mutO e1 q1 (rv'.append (.cons r1 .nil)))⟩
    · exact False.elim q
  | .ext x i xp ap e cp p, n, ok => by
    obtain ⟨o1, o2⟩ := and_ok (show ((ap.endLine == cp.line) && (slotB c.N X.env.scope x i && e.okE c X.env.scope)) = true from ok)
    obtain ⟨o2, o3⟩ := and_ok o2
    obtain ⟨h1, h2⟩ := and_ok (show (decide (c.N[i]? = some x) && (visB X.env.scope x && nmB x)) = true from o2)
    obtain ⟨h2, h3⟩ := and_ok h2
    have ho : PE X (.Name x xp) (tVar i) := pe_var (by rw [n.N]; exact of_decide_eq_true h1) (visB_ok h2) (nmB_ok h3).1 (nmB_ok h3).2
    have he := pe_bm (apos := ap) (cpos := cp) PySem.F.plainAttrs_list PySem.F.slot_list_extend PySem.F.type_list_extend mt_extend ho (pa_cons (E.pe e X Z n.toCn false o3) pa_nil (star_un e _)) rfl (few_one cp e) o1 (star_un e _) rfl
    refine PS.imp (ps_expr he) ?_
    rintro G σ H ⟨e0, F, ι, sl, h, j, q⟩
    have q : PoS X Z e0 F ι (match sl[i]? with
      | some (.own ws) => (e.den D false sl h).out sl fun w h => (match w with
        | .lst us => (match lineN (ws.length + us.length) with
          | true => .nx (sl.set i (.own (ws ++ us))) h
          | false => .bad)
        | _ => .bad)
      | _ => .bad) G := q
    split at q
    · rename_i ws e1
      obtain ⟨a, vs, q1, q2, rv, ty⟩ := own_at j e1
      refine ⟨.ref a, q1, ty, e0, F, ι, sl, h, j, PoS.out q fun w h1 F1 ι1 H1 v l1 j1 r1 q3 => ?_⟩
      obtain ⟨a', vs', z1, z2, rv', _⟩ := own_at j1 e1
      rw [q1] at z1
      cases z1
      cases r1 with
      | @lst us b ys eb ry =>
        cases hd : lineN (ws.length + us.length) with
        | false => simp only [hd] at q3; exact False.elim q3
        | true =>
          simp only [hd] at q3
          exact ⟨a, b, vs', ys, rfl, rfl, z2, j1.hr.sub _ _ eb, by rw [← rv'.length, ← ry.length]; exact lineN_ok hd, q3 F1 ι1 σ _ .refl (j1.mutO e1 q1 (rv'.append ry))⟩
      | _ => exact False.elim q3
    · exact False.elim q
  | .expr e p, n, ok => by
    obtain ⟨o1, o2⟩ := and_ok (show (!e.isLc && e.okE c X.env.scope) = true from ok)
    refine PS.imp (ps_expr (E.pe e X Z n.toCn false o2) (sw_un none _ e (by simpa using o1))) ?_
    rintro G σ H ⟨e0, F, ι, sl, h, j, q⟩
    exact ⟨e0, F, ι, sl, h, j, PoS.out q fun w h1 F1 ι1 H1 v l1 j1 r1 q1 => q1 F1 ι1 σ H1 .refl j1⟩
  | .ret e p, n, ok => by
    refine PS.imp (ps_ret (E.pe e X Z n.toCn false ok)) ?_
    rintro G σ H ⟨e0, F, ι, sl, h, j, q⟩
    exact ⟨e0, F, ι, sl, h, j, PoS.out q fun w h1 F1 ι1 H1 v l1 j1 r1 q1 => q1 F1 ι1 sl σ H1 v .refl j1 r1⟩
  | .retN p, n, ok => PS.imp ps_retN fun G σ H ⟨e0, F, ι, sl, h, j, q⟩ => q F ι sl σ H .non .refl j .non
  | .ite t a b p, n, ok => by
    obtain ⟨o1, o2⟩ := and_ok (show (t.okE c X.env.scope && (a.okS c X.env.scope && b.okS c X.env.scope)) = true from ok)
    obtain ⟨o2, o3⟩ := and_ok o2
    refine PS.imp (ps_if (E.pt t X Z n.toCn o1) (Ss.pss a n o2) (Ss.pss b n o3)) ?_
    rintro G σ H ⟨e0, F, ι, sl, h, j, q⟩
    refine ⟨e0, F, ι, sl, h, j, PoS.tst (f := fun h => a.den D sl h) (g := fun h => b.den D sl h) (G := G) q fun k h1 F1 ι1 H1 l1 j1 q1 => ?_⟩
    cases k with
    | true => exact ⟨e0, F1, ι1, sl, h1, j1, q1⟩
    | false => exact ⟨e0, F1, ι1, sl, h1, j1, q1⟩
  | .whl t b p, n, ok => by
    obtain ⟨o1, o2⟩ := and_ok (show (t.okE c X.env.scope && b.okS c X.env.scope) = true from ok)
    refine PS.imp (ps_while n.po (E.pt t X Z n.toCn o1) (Ss.pss b n o2)) ?_
    rintro G σ H ⟨e0, F, ι, sl, h, j, q⟩
    exact whl_rd j q
  | .for t it b p, n, ok => by
    obtain ⟨o1, o2⟩ := and_ok (show (tgIt t it && (t.okT c X.env.scope && (it.okE c X.env.scope && b.okS c X.env.scope))) = true from ok)
    obtain ⟨o2, o3⟩ := and_ok o2
    obtain ⟨o3, o4⟩ := and_ok o3
    refine PS.imp (ps_for n.po n.calm (It.pi it X Z n.toCn t o1 o3) (Tg.pg n.toCn t o2) (Ss.pss b n o4) (foldedI_un it)) ?_
    rintro G σ H ⟨e0, F, ι, sl, h, j, q⟩
    exact for_rd j q
  | .frz is s, n, ok => by
    refine PS.imp (S.ps s n ok) ?_
    rintro G σ H ⟨e0, F, ι, sl, h, j, q⟩
    obtain ⟨F1, l1, j1⟩ := j.frzS is
    exact ⟨e0, F1, ι, _, h, j1, PoS.le (show PoS X Z e0 F ι (s.den D (frzS is sl) h) G from q) l1⟩
  | .pass p, n, ok => PS.imp ps_pass fun G σ H ⟨e0, F, ι, sl, h, j, q⟩ => q F ι σ H .refl j
  | .brk p, n, ok => PS.imp ps_break fun G σ H ⟨e0, F, ι, sl, h, j, q⟩ => q F ι σ H .refl j
  | .cnt p, n, ok => PS.imp ps_continue fun G σ H ⟨e0, F, ι, sl, h, j, q⟩ => q F ι σ H .refl j
theorem Ss.pss : ∀ (ss : Ss) (n : Cs X Z D c), ss.okS c X.env.scope = true → PSs X ss.un (tS X Z (ss.den D))
  | .nil, n, ok => PSs.imp pss_nil fun G σ H ⟨e0, F, ι, sl, h, j, q⟩ => q F ι σ H .refl j
  | .cons s ss, n, ok => by
    obtain ⟨o1, o2⟩ := and_ok (show (s.okS c X.env.scope && ss.okS c X.env.scope) = true from ok)
    refine PSs.imp (pss_cons (S.ps s n o1) (Ss.pss ss n o2)) ?_
    rintro G σ H ⟨e0, F, ι, sl, h, j, q⟩
    refine ⟨e0, F, ι, sl, h, j, ?_⟩
    have q : PoS X Z e0 F ι (match s.den D sl h with | .nx σ h => ss.den D σ h | o => o) G := q
    cases hr : s.den D sl h with
    | nx s1 h1 => rw [hr] at q; exact fun F1 ι1 σ1 H1 l1 j1 => ⟨e0, F1, ι1, s1, h1, j1, PoS.le (show PoS X Z e0 F ι (ss.den D s1 h1) G from q) l1⟩
    | bk s1 h1 => rw [hr] at q; exact q
    | ct s1 h1 => rw [hr] at q; exact q
    | rt w h1 => rw [hr] at q; exact q
    | exc x s1 h1 => rw [hr] at q; exact q
    | bad => rw [hr] at q; exact q
end
end
end
end Ev

set_option maxHeartbeats 1000000
namespace Ev
open PySem PySem.Spec PyProof.Rows L2

/-! ## a def by its body -/
section
variable {P : Program} {w : World} {K : PySem.W.Frag} {mg : Str → Option Value} {base : Heap}
theorem fk_of {k : Nat} {f : Addr} {nm qn : Str} {pars : Arguments} {body : List Stmt} {sc : Scope} {dV kV doc pm cdv ct oc : Value} {an od : Option Addr} {osl : Array (Option Value)} {N ps : List Str} {sp : Sp}
    (look : K.lookup f = some ⟨oc, od, .func (PySem.W.fnOf nm qn pars body sc dV kV doc pm an cdv ct), osl⟩) (code : PySem.W.codeIn K cdv qn = true) (S : FnScope N ps sc) (many : ∀ vs H Q Z, sp vs H Q Z → vs.length = ps.length)
    (bd : ∀ (A : Around) (up : List Env) (s : Shared) (H : Hp) (vs : List V) (Q : VK) (Z : XK), Room k (A.deeper (envOfC qn sc s.heap.objs.size f cdv)) → (A.deeper (envOfC qn sc s.heap.objs.size f cdv)).guards = some [] → sp vs H Q Z →
      ∃ t, PSs (cxOf (CX P w) P w K mg base N qn sc f cdv A up s H Z) body t ∧ t { nx := fun _ H' => Q .non H', rt := Q } (L2.start N vs) H) :
    Fk P w K mg base (k + 1) f (PySem.W.fnOf nm qn pars body sc dV kV doc pm an cdv ct) ps sp := ⟨by
  intro A up s H a us vs Q Z room grd ent bnd rel asked
  have many' := many _ _ _ _ asked
  have kept : ∀ b o, base.get? b = some o → s.heap.get? b = some o := fun b o e => (ent.bs b o e).1
  have inK : K.In s.heap := ent.mod.kin.keeps kept
  have kinds : ∀ y ∈ ps.zip us, sc.names.lookup y.1 = some .local ∨ (sc.names.lookup y.1 = some .cell ∧ ((cellsFrom (s.heap.objs.size + 1) sc.names []).lookup y.1).isSome = true) := fun y hy => by
    obtain ⟨y1, y2⟩ := y
    exact (S.par y1 (List.of_mem_zip hy).1).imp id fun q => ⟨q, PySem.W.cellsFrom_some _ _ _ (.inl q)⟩
  refine codeAny_call_function room.depth (inK _ _ look) rfl S.co S.gen rfl (PySem.W.codeRec_of inK code) (bnd _ _ _ _ (wpAny_newFunctionEnv_cells S.kind kinds fun env he s1 x => ?_))
  subst he
  obtain ⟨t, ht, hq⟩ := bd A up s H vs Q Z (room.deeper _) grd asked
  have I : Inv (cxOf (CX P w) P w K mg base N qn sc f cdv A up s H Z) [] (L2.start N vs) H s1 := inv_start S room.hd ent many' rel x
  refine ⟨(ent.mod.nolimit.keeps kept).keeps x.toInCall.keep, codeAny_func (wpAny_mono (ht.run [] s1 (L2.start N vs) H _ I hq) (fun fl s' out => ?_) fun _ _ out => out)⟩
  cases fl with
  | ret u =>
    obtain ⟨v, σ', H', I', rv, q⟩ := out
    exact ⟨v, H', I'.os, I'.bare, I'.base, I'.hok, rv, q⟩
  | next =>
    obtain ⟨σ', H', I', q⟩ := out
    exact ⟨.non, H', I'.os, I'.bare, I'.base, I'.hok, rfl, q⟩
  | brk =>
    obtain ⟨_, _, _, q⟩ := out
    exact False.elim q
  | cont =>
    obtain ⟨_, _, _, q⟩ := out
    exact False.elim q⟩

/-! ## all defs of a program -/
/-- a def as it stands in the module -/
structure DefOk (K : PySem.W.Frag) (mg : Str → Option Value) (fs : Nat → Option Str) (kws : List (Nat × Nat × List Str)) (i : Nat) (d : Df) : Prop where
  ex : ∃ (g : Addr) (pars : Arguments) (sc : Scope) (fd : FuncData), mg d.nm = some (.ref g) ∧ FunD K d.nm d.nm pars d.body.un sc [] [] g fd ∧ Binds K fd (d.N.take d.np) [] ∧ FnScope d.N (d.N.take d.np) sc ∧ d.body.okS ⟨d.N, fs, kws⟩ sc = true ∧ KwOk kws i fd (d.N.take d.np)
  np : d.np ≤ d.N.length
structure Sys (K : PySem.W.Frag) (mg : Str → Option Value) (pg : Pg) (kws : List (Nat × Nat × List Str)) : Prop where
  bt : ∀ b : Bt, mg b.nm = none
  ty : ∀ t : Ty, mg t.nm = none
  isi : mg "isinstance" = none
  rng : mg "range" = none
  enum : mg "enumerate" = none
  zip : mg "zip" = none
  cst : ∀ x w, pg.cst x = some w → ∃ v u, mg x = some u ∧ RelV v u ∧ ∀ F ι, RV K F ι w v
  df : ∀ (i : Nat) (d : Df), pg.defs[i]? = some d → DefOk K mg (fun (i : Nat) => (pg.defs[i]?).map Df.nm) kws i d
theorem startS_start {ws : List W} {vs : List V} {F : Hp} {ι : List Addr} {N : List Str} {h : Obs} {H : Hp} (hr : HR K F ι h H) (rv : RVs K F ι ws vs) (hl : ws.length ≤ N.length) : J K ⟨F, ι, H, fun _ => none⟩ F ι (startS N.length ws) h (L2.start N vs) H where
  hr := hr
  xt := .refl
  len := by
    unfold startS L2.start
    rw [List.length_append, List.length_append, List.length_map, List.length_map, List.length_replicate, List.length_replicate, rv.length]
  at_ := fun i s e => by
    unfold startS at e
    unfold L2.start
    by_cases hi : i < ws.length
    · rw [List.getElem?_append_left (by simpa using hi), List.getElem?_map] at e
      cases q : ws[i]? with
      | none => rw [q] at e; cases e
      | some w =>
        rw [q] at e
        cases e
        obtain ⟨v, e1, r⟩ := rv.get q
        exact ⟨v, by rw [List.getElem?_append_left (by rw [List.length_map, ← rv.length]; exact hi), List.getElem?_map, e1]; rfl, r⟩
    · rw [List.getElem?_append_right (by simpa using hi), List.getElem?_replicate] at e
      split at e
      · cases e; trivial
      · cases e
  ap := fun i j us us' p e1 _ _ _ => by
    unfold startS at e1
    by_cases hi : i < ws.length
    · rw [List.getElem?_append_left (by simpa using hi), List.getElem?_map] at e1
      cases q : ws[i]? with
      | none => rw [q] at e1; cases e1
      | some w => rw [q] at e1; cases e1
    · rw [List.getElem?_append_right (by simpa using hi), List.getElem?_replicate] at e1
      split at e1 <;> cases e1
  hd := fun a o e => by cases e
theorem T_len (pg : Pg) (k i : Nat) (ws : List W) (h : Obs) : pg.T k i ws h = .bad ∨ (∀ d, pg.defs[i]? = some d → d.np ≤ d.N.length) → pg.T k i ws h = .bad ∨ ws.length = (pg.par i).length := by
  rintro (z | z)
  · exact .inl z
  · cases k with
    | zero => exact .inl rfl
    | succ k =>
      cases q : pg.defs[i]? with
      | none => left; show (match pg.defs[i]? with | some d => d.run ⟨pg.T k, pg.cst, pg.par⟩ ws h | none => .bad) = _; rw [q]
      | some d =>
        cases hd : decide (ws.length = d.np) with
        | false =>
          left
          show (match pg.defs[i]? with | some d => d.run ⟨pg.T k, pg.cst, pg.par⟩ ws h | none => .bad) = _
          rw [q]
          show d.run ⟨pg.T k, pg.cst, pg.par⟩ ws h = _
          unfold Df.run
          rw [hd]
        | true =>
          right
          show ws.length = (match pg.defs[i]? with | some d => d.N.take d.np | none => []).length
          rw [q]
          show ws.length = (d.N.take d.np).length
          rw [List.length_take, of_decide_eq_true hd]
          have := z d q
          omega
/-- THE RULE: every def of the text does what the reading says, as deep as there is room -/
theorem Sys.fk {pg : Pg} {kws : List (Nat × Nat × List Str)} (S : Sys K mg pg kws) : ∀ (k i : Nat) (d : Df), pg.defs[i]? = some d → ∀ g fd, mg d.nm = some (.ref g) → (∃ pars sc, FunD K d.nm d.nm pars d.body.un sc [] [] g fd ∧ FnScope d.N (d.N.take d.np) sc ∧ d.body.okS ⟨d.N, fun i => (pg.defs[i]?).map Df.nm, kws⟩ sc = true) →
    Fk P w K mg base k g fd (d.N.take d.np) (spW K mg (d.N.take d.np).length (pg.T k i))
  | 0, i, d, hd, g, fd, hg, _ => ⟨fun A up s H a us vs Q Z _ _ _ _ _ ⟨F, ι, h, ws, _, _, _, q⟩ => False.elim q⟩
  | k + 1, i, d, hd, g, fd, hg, ⟨pars, sc, F, SC, ok⟩ => by
    obtain ⟨oc, od, dV, kV, doc, pm, an, cdv, ct, osl, rfl, look, code, _, _⟩ := F.ex
    refine fk_of look code SC (fun vs H Q Z ⟨_, _, _, _, e, _⟩ => e) fun A up s H vs Q Z room grd asked => ?_
    obtain ⟨F0, ι0, h0, ws, hl, hr, rv, q⟩ := asked
    have np := (S.df i d hd).np
    have n : Cs (cxOf (CX P w) P w K mg base d.N d.nm sc g cdv A up s H Z) (fun cls dd _ H => Z cls dd H) ⟨pg.T k, pg.cst, pg.par⟩ ⟨d.N, fun i => (pg.defs[i]?).map Df.nm, kws⟩ :=
      { calm := rfl
        tk := takes_of rfl rfl rfl rfl
        N := rfl
        nd := SC.nd
        gd := grd
        un := by have := room.un; show (A.deeper (envOfC d.nm sc s.heap.objs.size g cdv)).units + 70 < cLine; omega
        bt := S.bt
        ty := S.ty
        isi := S.isi
        rng := S.rng
        enum := S.enum
        zip := S.zip
        cst := S.cst
        fn := fun i x hx => by
          cases q : pg.defs[i]? with
          | none =>
            have hx : (pg.defs[i]?).map Df.nm = some x := hx
            rw [q] at hx; cases hx
          | some e =>
            have hx : (pg.defs[i]?).map Df.nm = some x := hx
            rw [q] at hx
            cases hx
            obtain ⟨g', pars', sc', fd', m1, m2, m3, m4, m5, m6⟩ := (S.df i e q).ex
            refine ⟨g', fd', e.N.take e.np, k, m1, m2.kp, m3, ?_, room, Sys.fk S k i e q g' fd' m1 ⟨pars', sc', m2, m4, m5⟩, m6⟩
            show (match pg.defs[i]? with | some d => d.N.take d.np | none => []) = _
            rw [q]
        ar := fun i ws h => T_len pg k i ws h (.inr fun d q => (S.df i d q).np)
        po := passes_of rfl }
    refine ⟨_, Ss.pss d.body n ok, ⟨F0, ι0, H, fun _ => none⟩, F0, ι0, startS d.N.length ws, h0, ?_, ?_⟩
    · refine startS_start hr rv ?_
      rw [rv.length, hl, List.length_take]
      omega
    · have q : (match (match pg.defs[i]? with | some d => d.run ⟨pg.T k, pg.cst, pg.par⟩ ws h0 | none => .bad) with
        | .ok w h' => ∀ F' ι' H' v, Xt F0 ι0 H F' ι' H' → HR K F' ι' h' H' → RV K F' ι' w v → Q v H'
        | .exc x h' => ∀ F' ι' H' cls dd, Xt F0 ι0 H F' ι' H' → HR K F' ι' h' H' → RX K mg F' ι' x cls dd → Z cls dd H'
        | .bad => False) := q
      rw [hd] at q
      have q : (match d.run ⟨pg.T k, pg.cst, pg.par⟩ ws h0 with
        | .ok w h' => ∀ F' ι' H' v, Xt F0 ι0 H F' ι' H' → HR K F' ι' h' H' → RV K F' ι' w v → Q v H'
        | .exc x h' => ∀ F' ι' H' cls dd, Xt F0 ι0 H F' ι' H' → HR K F' ι' h' H' → RX K mg F' ι' x cls dd → Z cls dd H'
        | .bad => False) := q
      unfold Df.run at q
      cases hn : decide (ws.length = d.np) with
      | false => rw [hn] at q; exact False.elim q
      | true =>
        rw [hn] at q
        simp only at q
        cases hb : d.body.den ⟨pg.T k, pg.cst, pg.par⟩ (startS d.N.length ws) h0 with
        | nx s1 h1 => simp only [hb] at q; exact fun F1 ι1 σ1 H1 l1 j1 => q F1 ι1 H1 .non j1.xt j1.hr .non
        | rt u h1 => simp only [hb] at q; exact fun F1 ι1 s1 σ1 H1 v l1 j1 r1 => q F1 ι1 H1 v j1.xt j1.hr r1
        | exc x s1 h1 => simp only [hb] at q; exact fun F1 ι1 σ1 H1 cls dd l1 j1 r1 => q F1 ι1 H1 cls dd j1.xt j1.hr r1
        | bk s1 h1 => simp only [hb] at q
        | ct s1 h1 => simp only [hb] at q
        | bad => simp only [hb] at q
end

/-! ## a law's end -/
theorem law_end {P : Program} {w : World} {K : PySem.W.Frag} {mg mb : Str → Option Value} {k : Nat} {fa a : Addr} {fd : FuncData} {x : Str} {sp : Sp} {s : Shared} {vs : List Value} {ns : List Int}
    (inK : K.In s.heap) (glo : s.heap.Ns mainGlobals mg) (blt : s.heap.Ns builtinsNs mb) (boot : ∀ x : Str, x ≠ "__name__" → mb x = bootBuiltins x) (lim : s.heap.NoLimit) (gens : s.gens = #[])
    (at_ : s.heap.get? a = some { cls := .type "list", data := .seq vs.toArray }) (ia : IntsAre vs ns) (short : ns.length ≤ sizeLine) (room : Room k callerA)
    (fk : ∀ base : Heap, Fk P w K mg base k fa fd [x] sp) (bnd : ∀ (s : Shared) (u : Value), BindsTo s fd ⟨[u], []⟩ [(x, u)])
    (asked : ∀ H : Hp, Only H → SqL K H a (ns.map V.int) → sp [.ref a] H (fun v _ => v = .bl true) fun _ _ _ => False) :
    codeAny (model P w) callerA (.call (.ref fa) ⟨[.ref a], []⟩) (fun r s' => r = .ok (.ret (.bool true)) ∧ OldK s.heap s'.heap ∧ s'.os = s.os ∧ AllBare s'.gens) s := by
  have rel := vals_ints ia
  have go : ∀ H : Hp, Only H → SqL K H a (ns.map V.int) → HOk P w H s.heap → (∀ b u, H b = some u → b = a ∧ K.lookup a = none) →
      codeAny (model P w) callerA (.call (.ref fa) ⟨[.ref a], []⟩) (fun r s' => r = .ok (.ret (.bool true)) ∧ OldK s.heap s'.heap ∧ s'.os = s.os ∧ AllBare s'.gens) s := by
    intro H only sq hok one
    have nodict : ∀ {b : Addr} {o : Obj} {es : Array DictEntry} {ep : Nat}, s.heap.get? b = some o → o.data = .dict es ep → H b = none := fun {b o es ep} e d => by
      cases q : H b with
      | none => rfl
      | some u =>
        rw [(one b u q).1, at_] at e
        cases e
        cases d
    have ns_ : ∀ {b : Addr} {m : Str → Option Value}, s.heap.Ns b m → (hidT s.heap H).Ns b m := fun {b m} z => by
      obtain ⟨o, es, ep, e, d, r⟩ := z
      exact ⟨o, es, ep, hidT_get e (nodict e d), d, r⟩
    have inB : K.In (hidT s.heap H) := fun b o e => hidT_get (inK b o e) (by
      cases q : H b with
      | none => rfl
      | some u =>
        obtain ⟨z1, z2⟩ := one b u q
        rw [z1, z2] at e; cases e)
    have ent : Env0 P w K mg (hidT s.heap H) callerA [] s H := ⟨rfl, ⟨inB, ns_ glo, ⟨mb, ns_ blt, boot⟩, by
        obtain ⟨mc, h1, h2⟩ := lim
        exact ⟨mc, ns_ h1, h2⟩⟩, fun b o e => of_hidT e, Nat.le_of_eq (hidT_size _ _), trivial, fun b hb => (by simp [frs] at hb), hok, .of_eq gens⟩
    refine codeAny_mono ((fk (hidT s.heap H)).run callerA [] s H ⟨[.ref a], []⟩ [.ref a] [.ref a] _ _ room rfl ent (bnd s (.ref a)) (.cons rfl .nil) (asked H only sq)) fun r s' out => ?_
    match r, out with
    | .error e, out =>
      obtain ⟨_, _, _, _, _, _, _, _, _, _, _, _, z⟩ := out
      exact False.elim z
    | .ok .next, out => exact False.elim out
    | .ok .brk, out => exact False.elim out
    | .ok .cont, out => exact False.elim out
    | .ok (.ret u), out =>
      obtain ⟨v, H', os, bare, un, hok', rv, rfl⟩ := out
      cases rv
      refine ⟨rfl, OldK.of_keep fun b o e => ?_, os, bare⟩
      rcases only b with z | ⟨ob, xs, z⟩
      · exact un.keep b o e z (by simp [frs]) (by simp)
      · have e1 := (hok b _ z).1
        have e2 := (hok' b _ (un.frzs b ob _ z)).1
        rw [e] at e1
        rw [e2, ← e1]
  cases look : K.lookup a with
  | some o =>
    have e := inK a o look
    rw [at_] at e
    cases e
    exact go (fun _ => none) (fun _ => .inl rfl) (.inr ⟨_, vs.toArray, _, look, rfl, rfl, rfl, by rw [List.size_toArray, ia.length]; exact short, by simpa using rel⟩) (fun b u z => by cases z) fun b u z => by cases z
  | none =>
    have one : ∀ b u, (upd (fun _ => none) a (HO.frz { cls := .type "list", data := .seq vs.toArray } (.lst (ns.map V.int)))) b = some u → b = a := fun b u z => by
      by_cases hb : b = a
      · exact hb
      · rw [upd_ne hb] at z; cases z
    refine go (upd (fun _ => none) a (.frz { cls := .type "list", data := .seq vs.toArray } (.lst (ns.map V.int)))) (fun b => ?_) (.inl (.inr ⟨_, upd_same⟩)) (fun b u z => ?_) fun b u z => ⟨one b u z, look⟩
    · by_cases hb : b = a
      · exact .inr ⟨_, _, by rw [hb]; exact upd_same⟩
      · exact .inl (upd_ne hb)
    · have e := one b u z
      subst e
      rw [upd_same] at z
      cases z
      exact ⟨at_, by rw [List.length_map]; exact short, vs, _, rel, at_⟩
/-- the goal that the head leaves, from the reading of the law's def -/
theorem walk_end {l : PySem.W.OpenLaw} {n k i : Nat} {q : Program} {loose : List Str} {XP : (Str → Option Value) → Heap → Prop} {YP : World → Heap → Prop} {d : DefRec} {pg : Pg} {kws : List (Nat × Nat × List Str)} {df : Df} {x : Str}
    (hn : l.most = some n) (hn2 : n ≤ sizeLine) (hdf : d.params.defaults = []) (room : Room k callerA) (hd : pg.defs[i]? = some df) (hN : df.N.take df.np = [x]) (hnm : df.nm = d.name)
    (F : ∀ (w : World) (mg : Str → Option Value) (h : Heap), YP w h → h.Ns mainGlobals mg → ∃ K : PySem.W.Frag, K.In h ∧ Sys K mg pg kws ∧
      ∀ g pars sc fd, mg df.nm = some (.ref g) → FunD K df.nm df.nm pars df.body.un sc [] [] g fd → ∀ (s : Shared) (u : Value), BindsTo s fd ⟨[u], []⟩ [(x, u)])
    (law : ∀ ns : List Int, ns.length ≤ n → ∃ h, pg.T k i [.scr ns] [] = .ok (.bl true) h) :
    PySem.W.WalkO q loose XP YP l.row.toRowW d [] (fun f vs => PySem.call f vs) := by
  refine Att.attach_call hn hdf fun w s₀ s₁ mg mb fa o pm cd doc a vs ns G Y ho hd' hcd hmg hobj hints hlen hg => ?_
  obtain ⟨K, KX, S, bnd⟩ := F w mg _ Y G.T.g
  obtain ⟨g, pars, sc, fd, m1, m2, m3, m4, m5, _⟩ := (S.df i df hd).ex
  have e : g = fa := by
    rw [hnm, hmg] at m1
    cases m1
    rfl
  subst e
  have fk := fun base => S.fk (P := l.row.prog) (w := w) (base := base) k i df hd g fd m1 ⟨pars, sc, m2, m4, m5⟩
  rw [hN] at fk
  refine law_end KX G.T.g G.T.b G.T.builtins G.T.nolimit hg hobj hints (Nat.le_trans hlen hn2) room fk (bnd g pars sc fd m1 m2) fun H only sq => ?_
  obtain ⟨h1, e1⟩ := law ns hlen
  have sub : ∀ b o, H b = some o → H b = some o := fun _ _ e => e
  refine ⟨H, [], [], [.scr ns], rfl, ⟨sub, rfl, .nil, fun n a o e _ => by simp at e⟩, .cons (.scr sq) .nil, ?_⟩
  rw [e1]
  intro F' ι' H' v _ _ r
  cases r
  rfl
end Ev

set_option maxHeartbeats 1000000
namespace Ev
open PySem PySem.Spec PyProof.Rows L2

/-! ## from the head's facts -/
/-- names that no module here binds -/
def frees : List Str := ["len", "abs", "max", "min", "int", "divmod", "repr", "all", "list", "tuple", "NoneType", "bool", "str", "dict", "isinstance", "range", "enumerate", "zip"]
def cstFa : Str × W → Option He.Fa
  | (x, .int i) => some (.int x i)
  | (x, .str z) => some (.str x z)
  | _ => none
def dtD (d : Df) (st : Stmt) : He.DefD := ⟨(d.nm, none), d.nm, d.nm, defArgs st, defBody st, defScope st, [], []⟩
/-- all that the head is asked about -/
def faOf (ds : List Df) (cs : List (Str × W)) : List He.Fa := ds.map (fun d => He.Fa.glo d.nm) ++ (frees.map He.Fa.free ++ cs.filterMap cstFa)
def fnOf2 (l : List (Df × Stmt)) : List He.DefD := l.map fun p => dtD p.1 p.2
section
variable {K : PySem.W.Frag} {mg : Str → Option Value} {h : Heap} {fa : List He.Fa} {fn : List He.DefD}
theorem def_of {d : Df} {st : Stmt} {g : Addr} {fd : FuncData} {fs : Nat → Option Str} {kws : List (Nat × Nat × List Str)} {i : Nat} (F : FunD K d.nm d.nm (defArgs st) (defBody st) (defScope st) [] [] g fd) (hg : mg d.nm = some (.ref g)) (hb : defBody st = d.body.un)
    (hs : FnScope d.N (d.N.take d.np) (defScope st)) (ok : d.body.okS ⟨d.N, fs, kws⟩ (defScope st) = true) (np : d.np ≤ d.N.length)
    (bnd : ∀ (kV doc pm : Value) (an : Option Addr) (cdv ct : Value) (us : List Value), us.length = (d.N.take d.np).length → bindArgs (PySem.W.fnOf d.nm d.nm (defArgs st) (defBody st) (defScope st) .none kV doc pm an cdv ct) ⟨us, []⟩ = pure ((d.N.take d.np).zip us))
    (kw : ∀ (kV doc pm : Value) (an : Option Addr) (cdv ct : Value), KwOk kws i (PySem.W.fnOf d.nm d.nm (defArgs st) (defBody st) (defScope st) .none kV doc pm an cdv ct) (d.N.take d.np)) : DefOk K mg fs kws i d := by
  refine ⟨⟨g, defArgs st, defScope st, fd, hg, hb ▸ F, F.bindsN bnd, hs, ok, ?_⟩, np⟩
  obtain ⟨oc, od, dV, kV, doc, pm, an, cdv, ct, osl, rfl, lk, hcd, hD, hK⟩ := F.ex
  rcases hD with ⟨_, rfl⟩ | ⟨e, _⟩
  · exact kw kV doc pm an cdv ct
  · exact absurd rfl e
theorem sys_of (X : K.In h) (G : h.Ns mainGlobals mg) (c : He.SaysD fa fn K) {pg : Pg} {kws : List (Nat × Nat × List Str)} {cs : List (Str × W)} (hfa : fa = faOf pg.defs cs) (hc : pg.cst = fun x => cs.lookup x) (hcs : cs.all (fun p => (cstFa p).isSome) = true)
    (hd : ∀ (i : Nat) (d : Df), pg.defs[i]? = some d → DefOk K mg (fun (i : Nat) => (pg.defs[i]?).map Df.nm) kws i d) : Sys K mg pg kws := by
  subst hfa
  have free : ∀ x ∈ frees, mg x = none := fun x hx => He.free_ok X G (c.facts (List.mem_append_right _ (List.mem_append_left _ (List.mem_map.mpr ⟨x, hx, rfl⟩))))
  refine ⟨fun b => free _ (by cases b <;> decide +kernel), fun t => free _ (by cases t <;> decide +kernel), free _ (by decide +kernel), free _ (by decide +kernel), free _ (by decide +kernel), free _ (by decide +kernel), fun x w e => ?_, hd⟩
  rw [hc] at e
  have hm := PySem.mem_of_lookup e
  have hs := List.all_eq_true.mp hcs _ hm
  have fact : ∀ f, cstFa (x, w) = some f → f.ok K = true := fun f hf => c.facts (List.mem_append_right _ (List.mem_append_right _ (List.mem_filterMap.mpr ⟨(x, w), hm, hf⟩)))
  cases w with
  | int i =>
    obtain ⟨t, e⟩ := He.int_ok X G (fact _ rfl)
    exact ⟨.int i, _, e, ⟨t, rfl⟩, fun _ _ => .int i⟩
  | str z =>
    obtain ⟨t, e⟩ := He.str_ok X G (fact _ rfl)
    exact ⟨.str z, _, e, ⟨t, rfl⟩, fun _ _ => .str z⟩
  | _ => cases hs
end
end Ev

namespace K12
open PySem Ev
/-- is_integer -/
def b0 : Ss :=
 (.cons (.ret (.bop .And (.cons (.isi (.name "value" 0 ⟨3, 22, 3, 27⟩) .int ⟨3, 11, 3, 21⟩ ⟨3, 29, 3, 32⟩ ⟨3, 11, 3, 33⟩) (.cons (.notV (.isi (.name "value" 0 ⟨3, 54, 3, 59⟩) .bl ⟨3, 43, 3, 53⟩ ⟨3, 61, 3, 65⟩ ⟨3, 43, 3, 66⟩) ⟨3, 39, 3, 66⟩) .nil)) ⟨3, 11, 3, 67⟩) ⟨3, 4, 3, 67⟩)
 .nil)
/-- is_count -/
def b1 : Ss :=
 (.cons (.ret (.bop .And (.cons (.call 0 "is_integer" ⟨5, 11, 5, 21⟩ (.cons (.name "value" 0 ⟨5, 22, 5, 27⟩) .nil) ⟨5, 11, 5, 28⟩) (.cons (.cmp .ge (.name "value" 0 ⟨5, 33, 5, 38⟩) (.int 0 0 ⟨5, 42, 5, 43⟩) ⟨5, 33, 5, 43⟩) .nil)) ⟨5, 11, 5, 43⟩) ⟨5, 4, 5, 43⟩)
 .nil)
/-- is_list -/
def b2 : Ss :=
 (.cons (.ret (.isiT (.name "value" 0 ⟨7, 22, 7, 27⟩) .lst ⟨7, 30, 7, 34⟩ .tup ⟨7, 36, 7, 41⟩ 0 ⟨7, 11, 7, 21⟩ ⟨7, 29, 7, 42⟩ ⟨7, 11, 7, 43⟩) ⟨7, 4, 7, 43⟩)
 .nil)
/-- is_leaf -/
def b3 : Ss :=
 (.cons (.ite (.bop .Or (.cons (.not (.tr (.isi (.name "value" 0 ⟨18, 22, 18, 27⟩) .tup ⟨18, 11, 18, 21⟩ ⟨18, 29, 18, 34⟩ ⟨18, 11, 18, 35⟩)) ⟨18, 7, 18, 35⟩) (.cons (.cmp .eq (.blt .len ⟨18, 39, 18, 42⟩ (.cons (.name "value" 0 ⟨18, 43, 18, 48⟩) .nil) ⟨18, 39, 18, 49⟩) (.int 0 0 ⟨18, 53, 18, 54⟩) ⟨18, 39, 18, 54⟩) .nil)) ⟨18, 7, 18, 54⟩) (.cons (.ret (.bl false 0 ⟨19, 15, 19, 20⟩) ⟨19, 8, 19, 20⟩)
 .nil) .nil ⟨18, 4, 19, 20⟩)
 (.cons (.ite (.cmp .eq (.blt .len ⟨20, 7, 20, 10⟩ (.cons (.name "value" 0 ⟨20, 11, 20, 16⟩) .nil) ⟨20, 7, 20, 17⟩) (.int 1 0 ⟨20, 21, 20, 22⟩) ⟨20, 7, 20, 22⟩) (.cons (.ret (.bop .And (.cons (.isi (.sub (.name "value" 0 ⟨21, 26, 21, 31⟩) (.int 0 0 ⟨21, 32, 21, 33⟩) ⟨21, 26, 21, 34⟩) .str ⟨21, 15, 21, 25⟩ ⟨21, 36, 21, 39⟩ ⟨21, 15, 21, 40⟩) (.cons (.cmp .eq (.sub (.name "value" 0 ⟨21, 45, 21, 50⟩) (.int 0 0 ⟨21, 51, 21, 52⟩) ⟨21, 45, 21, 53⟩) (.cst "TELLING" ⟨21, 57, 21, 64⟩) ⟨21, 45, 21, 64⟩) .nil)) ⟨21, 15, 21, 64⟩) ⟨21, 8, 21, 64⟩)
 .nil) .nil ⟨20, 4, 21, 64⟩)
 (.cons (.ret (.bop .And (.cons (.cmp .eq (.blt .len ⟨22, 11, 22, 14⟩ (.cons (.name "value" 0 ⟨22, 15, 22, 20⟩) .nil) ⟨22, 11, 22, 21⟩) (.int 2 0 ⟨22, 25, 22, 26⟩) ⟨22, 11, 22, 26⟩) (.cons (.call 4 "is_letter_word" ⟨22, 31, 22, 45⟩ (.cons (.sub (.name "value" 0 ⟨22, 46, 22, 51⟩) (.int 0 0 ⟨22, 52, 22, 53⟩) ⟨22, 46, 22, 54⟩) .nil) ⟨22, 31, 22, 55⟩) (.cons (.call 5 "is_letter" ⟨22, 60, 22, 69⟩ (.cons (.sub (.name "value" 0 ⟨22, 70, 22, 75⟩) (.int 1 0 ⟨22, 76, 22, 77⟩) ⟨22, 70, 22, 78⟩) .nil) ⟨22, 60, 22, 79⟩) .nil))) ⟨22, 11, 22, 79⟩) ⟨22, 4, 22, 79⟩)
 .nil)))
/-- is_letter_word -/
def b4 : Ss :=
 (.cons (.ret (.bop .And (.cons (.isi (.name "value" 0 ⟨24, 22, 24, 27⟩) .str ⟨24, 11, 24, 21⟩ ⟨24, 29, 24, 32⟩ ⟨24, 11, 24, 33⟩) (.cons (.cmp .eq (.name "value" 0 ⟨24, 38, 24, 43⟩) (.cst "LETTER" ⟨24, 47, 24, 53⟩) ⟨24, 38, 24, 53⟩) .nil)) ⟨24, 11, 24, 53⟩) ⟨24, 4, 24, 53⟩)
 .nil)
/-- is_letter -/
def b5 : Ss :=
 (.cons (.ret (.bop .And (.cons (.call 1 "is_count" ⟨26, 11, 26, 19⟩ (.cons (.name "value" 0 ⟨26, 20, 26, 25⟩) .nil) ⟨26, 11, 26, 26⟩) (.cons (.cmp .le (.name "value" 0 ⟨26, 31, 26, 36⟩) (.cst "MOST_LETTER" ⟨26, 40, 26, 51⟩) ⟨26, 31, 26, 51⟩) .nil)) ⟨26, 11, 26, 51⟩) ⟨26, 4, 26, 51⟩)
 .nil)
/-- is_branch -/
def b6 : Ss :=
 (.cons (.ite (.bop .Or (.cons (.not (.tr (.isi (.name "value" 0 ⟨28, 22, 28, 27⟩) .tup ⟨28, 11, 28, 21⟩ ⟨28, 29, 28, 34⟩ ⟨28, 11, 28, 35⟩)) ⟨28, 7, 28, 35⟩) (.cons (.cmp .ne (.blt .len ⟨28, 39, 28, 42⟩ (.cons (.name "value" 0 ⟨28, 43, 28, 48⟩) .nil) ⟨28, 39, 28, 49⟩) (.int 3 0 ⟨28, 53, 28, 54⟩) ⟨28, 39, 28, 54⟩) .nil)) ⟨28, 7, 28, 54⟩) (.cons (.ret (.bl false 0 ⟨29, 15, 29, 20⟩) ⟨29, 8, 29, 20⟩)
 .nil) .nil ⟨28, 4, 29, 20⟩)
 (.cons (.ret (.bop .And (.cons (.isi (.sub (.name "value" 0 ⟨30, 22, 30, 27⟩) (.int 0 0 ⟨30, 28, 30, 29⟩) ⟨30, 22, 30, 30⟩) .str ⟨30, 11, 30, 21⟩ ⟨30, 32, 30, 35⟩ ⟨30, 11, 30, 36⟩) (.cons (.cmp .isin (.sub (.name "value" 0 ⟨30, 41, 30, 46⟩) (.int 0 0 ⟨30, 47, 30, 48⟩) ⟨30, 41, 30, 49⟩) (.tup (.cons (.cst "PAIR" ⟨30, 54, 30, 58⟩) (.cons (.cst "SUM" ⟨30, 60, 30, 63⟩) (.cons (.cst "FUN" ⟨30, 65, 30, 68⟩) .nil))) 0 ⟨30, 53, 30, 69⟩) ⟨30, 41, 30, 69⟩) .nil)) ⟨30, 11, 30, 69⟩) ⟨30, 4, 30, 69⟩)
 .nil))
/-- is_kind -/
def b7 : Ss :=
 (.cons (.par true false "left" 1 ⟨32, 4, 32, 8⟩ "signs" 2 ⟨32, 10, 32, 15⟩ 0 ⟨32, 4, 32, 15⟩ (.lst (.cons (.tup (.cons (.name "value" 0 ⟨32, 21, 32, 26⟩) (.cons (.int 1 0 ⟨32, 28, 32, 29⟩) .nil)) 0 ⟨32, 20, 32, 30⟩) .nil) ⟨32, 19, 32, 31⟩) (.int 0 0 ⟨32, 33, 32, 34⟩) 0 ⟨32, 18, 32, 35⟩ ⟨32, 4, 32, 35⟩)
 (.cons (.whl (.cmp .gt (.blt .len ⟨33, 10, 33, 13⟩ (.cons (.peek "left" 1 ⟨33, 14, 33, 18⟩) .nil) ⟨33, 10, 33, 19⟩) (.int 0 0 ⟨33, 22, 33, 23⟩) ⟨33, 10, 33, 23⟩) (.cons (.pop (.tup (.cons (.name "one" 3 ⟨34, 8, 34, 11⟩) (.cons (.name "deep" 4 ⟨34, 13, 34, 17⟩) .nil)) 0 ⟨34, 8, 34, 17⟩) "left" 1 ⟨34, 20, 34, 24⟩ ⟨34, 20, 34, 28⟩ ⟨34, 20, 34, 30⟩ ⟨34, 8, 34, 30⟩)
 (.cons (.asg "signs" 2 ⟨35, 8, 35, 13⟩ (.bin .add (.name "signs" 2 ⟨35, 16, 35, 21⟩) (.int 1 0 ⟨35, 24, 35, 25⟩) ⟨35, 16, 35, 25⟩) ⟨35, 8, 35, 25⟩)
 (.cons (.ite (.bop .Or (.cons (.cmp .gt (.name "signs" 2 ⟨36, 11, 36, 16⟩) (.cst "MOST_SIGNS" ⟨36, 19, 36, 29⟩) ⟨36, 11, 36, 29⟩) (.cons (.cmp .gt (.name "deep" 4 ⟨36, 33, 36, 37⟩) (.cst "MOST_DEEP" ⟨36, 40, 36, 49⟩) ⟨36, 33, 36, 49⟩) .nil)) ⟨36, 11, 36, 49⟩) (.cons (.ret (.bl false 0 ⟨37, 19, 37, 24⟩) ⟨37, 12, 37, 24⟩)
 .nil) .nil ⟨36, 8, 37, 24⟩)
 (.cons (.ite (.tr (.call 6 "is_branch" ⟨38, 11, 38, 20⟩ (.cons (.name "one" 3 ⟨38, 21, 38, 24⟩) .nil) ⟨38, 11, 38, 25⟩)) (.cons (.ext "left" 1 ⟨39, 12, 39, 16⟩ ⟨39, 12, 39, 23⟩ (.lst (.cons (.tup (.cons (.sub (.name "one" 3 ⟨39, 26, 39, 29⟩) (.int 1 0 ⟨39, 30, 39, 31⟩) ⟨39, 26, 39, 32⟩) (.cons (.bin .add (.name "deep" 4 ⟨39, 34, 39, 38⟩) (.int 1 0 ⟨39, 41, 39, 42⟩) ⟨39, 34, 39, 42⟩) .nil)) 0 ⟨39, 25, 39, 43⟩) (.cons (.tup (.cons (.sub (.name "one" 3 ⟨39, 46, 39, 49⟩) (.int 2 0 ⟨39, 50, 39, 51⟩) ⟨39, 46, 39, 52⟩) (.cons (.bin .add (.name "deep" 4 ⟨39, 54, 39, 58⟩) (.int 1 0 ⟨39, 61, 39, 62⟩) ⟨39, 54, 39, 62⟩) .nil)) 0 ⟨39, 45, 39, 63⟩) .nil)) ⟨39, 24, 39, 64⟩) ⟨39, 12, 39, 65⟩ ⟨39, 12, 39, 65⟩)
 .nil) (.cons (.ite (.not (.tr (.call 3 "is_leaf" ⟨40, 17, 40, 24⟩ (.cons (.name "one" 3 ⟨40, 25, 40, 28⟩) .nil) ⟨40, 17, 40, 29⟩)) ⟨40, 13, 40, 29⟩) (.cons (.ret (.bl false 0 ⟨41, 19, 41, 24⟩) ⟨41, 12, 41, 24⟩)
 .nil) .nil ⟨40, 8, 41, 24⟩)
 .nil) ⟨38, 8, 41, 24⟩)
 .nil)))) ⟨33, 4, 41, 24⟩)
 (.cons (.ret (.bl true 0 ⟨42, 11, 42, 15⟩) ⟨42, 4, 42, 15⟩)
 .nil)))
/-- _law_pot -/
def b8 : Ss :=
 (.cons (.asg "_law_cell" 2 ⟨45, 4, 45, 13⟩ (.bin .add (.bin .mul (.int 487 0 ⟨45, 16, 45, 19⟩) (.name "_law_k" 1 ⟨45, 22, 45, 28⟩) ⟨45, 16, 45, 28⟩) (.int 317 0 ⟨45, 31, 45, 34⟩) ⟨45, 16, 45, 34⟩) ⟨45, 4, 45, 34⟩)
 (.cons (.ite (.cmp .lt (.name "_law_k" 1 ⟨46, 7, 46, 13⟩) (.blt .len ⟨46, 16, 46, 19⟩ (.cons (.name "_law_script" 0 ⟨46, 20, 46, 31⟩) .nil) ⟨46, 16, 46, 32⟩) ⟨46, 7, 46, 32⟩) (.cons (.asg "_law_cell" 2 ⟨47, 8, 47, 17⟩ (.blt .abs ⟨47, 20, 47, 23⟩ (.cons (.sub (.name "_law_script" 0 ⟨47, 24, 47, 35⟩) (.name "_law_k" 1 ⟨47, 36, 47, 42⟩) ⟨47, 24, 47, 43⟩) .nil) ⟨47, 20, 47, 44⟩) ⟨47, 8, 47, 44⟩)
 .nil) .nil ⟨46, 4, 47, 44⟩)
 (.cons (.ret (.lstH (.cons (.blt .max ⟨48, 12, 48, 15⟩ (.cons (.int 0 0 ⟨48, 16, 48, 17⟩) (.cons (.bin .sub (.name "_law_cell" 2 ⟨48, 19, 48, 28⟩) (.bin .pow (.int 10 0 ⟨48, 31, 48, 33⟩) (.int 18 0 ⟨48, 37, 48, 39⟩) ⟨48, 31, 48, 39⟩) ⟨48, 19, 48, 39⟩) .nil)) ⟨48, 12, 48, 40⟩) (.cons (.bin .add (.bin .mod (.blt .int ⟨48, 42, 48, 45⟩ (.cons (.bin .add (.bin .add (.bin .mul (.bin .mod (.blt .int ⟨48, 46, 48, 49⟩ (.cons (.name "_law_cell" 2 ⟨48, 50, 48, 59⟩) .nil) ⟨48, 46, 48, 60⟩) (.int 2147483549 0 ⟨48, 63, 48, 73⟩) ⟨48, 46, 48, 73⟩) (.int 48271 0 ⟨48, 76, 48, 81⟩) ⟨48, 46, 48, 81⟩) (.bin .mul (.int 3581 0 ⟨48, 84, 48, 88⟩) (.name "_law_k" 1 ⟨48, 91, 48, 97⟩) ⟨48, 84, 48, 97⟩) ⟨48, 46, 48, 97⟩) (.int 17 0 ⟨48, 100, 48, 102⟩) ⟨48, 46, 48, 102⟩) .nil) ⟨48, 42, 48, 103⟩) (.int 2147483563 0 ⟨48, 106, 48, 116⟩) ⟨48, 42, 48, 116⟩) (.int 1 0 ⟨48, 119, 48, 120⟩) ⟨48, 42, 48, 120⟩) .nil)) ⟨48, 11, 48, 121⟩) ⟨48, 4, 48, 121⟩)
 .nil)))
/-- _law_draw -/
def b9 : Ss :=
 (.cons (.ite (.cmp .gt (.sub (.name "_law_pot_here" 0 ⟨50, 7, 50, 20⟩) (.int 0 0 ⟨50, 21, 50, 22⟩) ⟨50, 7, 50, 23⟩) (.int 0 0 ⟨50, 26, 50, 27⟩) ⟨50, 7, 50, 27⟩) (.cons (.asgT (.tup (.cons (.sub (.name "_law_pot_here" 0 ⟨51, 8, 51, 21⟩) (.int 0 0 ⟨51, 22, 51, 23⟩) ⟨51, 8, 51, 24⟩) (.cons (.name "_law_digit" 2 ⟨51, 26, 51, 36⟩) .nil)) 0 ⟨51, 8, 51, 36⟩) (.blt .divmod ⟨51, 39, 51, 45⟩ (.cons (.sub (.name "_law_pot_here" 0 ⟨51, 46, 51, 59⟩) (.int 0 0 ⟨51, 60, 51, 61⟩) ⟨51, 46, 51, 62⟩) (.cons (.name "_law_size" 1 ⟨51, 64, 51, 73⟩) .nil)) ⟨51, 39, 51, 74⟩) ⟨51, 8, 51, 74⟩)
 (.cons (.ret (.name "_law_digit" 2 ⟨52, 15, 52, 25⟩) ⟨52, 8, 52, 25⟩)
 .nil)) .nil ⟨50, 4, 52, 25⟩)
 (.cons (.asgT (.sub (.name "_law_pot_here" 0 ⟨53, 4, 53, 17⟩) (.int 1 0 ⟨53, 18, 53, 19⟩) ⟨53, 4, 53, 20⟩) (.bin .mod (.blt .int ⟨53, 23, 53, 26⟩ (.cons (.bin .add (.bin .mul (.sub (.name "_law_pot_here" 0 ⟨53, 27, 53, 40⟩) (.int 1 0 ⟨53, 41, 53, 42⟩) ⟨53, 27, 53, 43⟩) (.int 39373 0 ⟨53, 46, 53, 51⟩) ⟨53, 27, 53, 51⟩) (.int 3581 0 ⟨53, 54, 53, 58⟩) ⟨53, 27, 53, 58⟩) .nil) ⟨53, 23, 53, 59⟩) (.int 2147483587 0 ⟨53, 62, 53, 72⟩) ⟨53, 23, 53, 72⟩) ⟨53, 4, 53, 72⟩)
 (.cons (.ret (.bin .mod (.blt .int ⟨54, 11, 54, 14⟩ (.cons (.bin .fdiv (.bin .mod (.blt .int ⟨54, 15, 54, 18⟩ (.cons (.bin .mul (.sub (.name "_law_pot_here" 0 ⟨54, 19, 54, 32⟩) (.int 1 0 ⟨54, 33, 54, 34⟩) ⟨54, 19, 54, 35⟩) (.sub (.name "_law_pot_here" 0 ⟨54, 38, 54, 51⟩) (.int 1 0 ⟨54, 52, 54, 53⟩) ⟨54, 38, 54, 54⟩) ⟨54, 19, 54, 54⟩) .nil) ⟨54, 15, 54, 55⟩) (.int 2147483563 0 ⟨54, 58, 54, 68⟩) ⟨54, 15, 54, 68⟩) (.int 17 0 ⟨54, 72, 54, 74⟩) ⟨54, 15, 54, 74⟩) .nil) ⟨54, 11, 54, 75⟩) (.name "_law_size" 1 ⟨54, 78, 54, 87⟩) ⟨54, 11, 54, 87⟩) ⟨54, 4, 54, 87⟩)
 .nil)))
/-- _law_pick -/
def b10 : Ss :=
 (.cons (.ret (.sub (.name "_law_some" 1 ⟨56, 11, 56, 20⟩) (.call 9 "_law_draw" ⟨56, 21, 56, 30⟩ (.cons (.name "_law_pot_here" 0 ⟨56, 31, 56, 44⟩) (.cons (.blt .len ⟨56, 46, 56, 49⟩ (.cons (.name "_law_some" 1 ⟨56, 50, 56, 59⟩) .nil) ⟨56, 46, 56, 60⟩) .nil)) ⟨56, 21, 56, 61⟩) ⟨56, 11, 56, 62⟩) ⟨56, 4, 56, 62⟩)
 .nil)
/-- _law_signs -/
def b11 : Ss :=
 (.cons (.ret (.ife (.cmp .isin (.sub (.name "_law_kind_here" 0 ⟨58, 80, 58, 94⟩) (.int 0 0 ⟨58, 95, 58, 96⟩) ⟨58, 80, 58, 97⟩) (.lst (.cons (.str "pair" 0 ⟨58, 102, 58, 108⟩) (.cons (.str "sum" 0 ⟨58, 110, 58, 115⟩) (.cons (.str "fun" 0 ⟨58, 117, 58, 122⟩) .nil))) ⟨58, 101, 58, 123⟩) ⟨58, 80, 58, 123⟩) (.bin .add (.bin .add (.int 1 0 ⟨58, 11, 58, 12⟩) (.call 11 "_law_signs" ⟨58, 15, 58, 25⟩ (.cons (.sub (.name "_law_kind_here" 0 ⟨58, 26, 58, 40⟩) (.int 1 0 ⟨58, 41, 58, 42⟩) ⟨58, 26, 58, 43⟩) .nil) ⟨58, 15, 58, 44⟩) ⟨58, 11, 58, 44⟩) (.call 11 "_law_signs" ⟨58, 47, 58, 57⟩ (.cons (.sub (.name "_law_kind_here" 0 ⟨58, 58, 58, 72⟩) (.int 2 0 ⟨58, 73, 58, 74⟩) ⟨58, 58, 58, 75⟩) .nil) ⟨58, 47, 58, 76⟩) ⟨58, 11, 58, 76⟩) (.int 1 0 ⟨58, 129, 58, 130⟩) ⟨58, 11, 58, 130⟩) ⟨58, 4, 58, 130⟩)
 .nil)
/-- _law_kind -/
def b12 : Ss :=
 (.cons (.asg "_law_way" 2 ⟨60, 4, 60, 12⟩ (.call 9 "_law_draw" ⟨60, 15, 60, 24⟩ (.cons (.name "_law_pot_here" 0 ⟨60, 25, 60, 38⟩) (.cons (.ife (.cmp .gt (.name "_law_deep" 1 ⟨60, 45, 60, 54⟩) (.int 0 0 ⟨60, 57, 60, 58⟩) ⟨60, 45, 60, 58⟩) (.int 6 0 ⟨60, 40, 60, 41⟩) (.int 3 0 ⟨60, 64, 60, 65⟩) ⟨60, 40, 60, 65⟩) .nil)) ⟨60, 15, 60, 66⟩) ⟨60, 4, 60, 66⟩)
 (.cons (.ite (.cmp .lt (.name "_law_way" 2 ⟨61, 7, 61, 15⟩) (.int 3 0 ⟨61, 18, 61, 19⟩) ⟨61, 7, 61, 19⟩) (.cons (.ret (.ife (.cmp .lt (.name "_law_way" 2 ⟨62, 39, 62, 47⟩) (.int 2 0 ⟨62, 50, 62, 51⟩) ⟨62, 39, 62, 51⟩) (.tup (.cons (.str "letter" 0 ⟨62, 16, 62, 24⟩) (.cons (.name "_law_way" 2 ⟨62, 26, 62, 34⟩) .nil)) 0 ⟨62, 15, 62, 35⟩) (.tup (.cons (.str "count" 0 ⟨62, 58, 62, 65⟩) .nil) 0 ⟨62, 57, 62, 67⟩) ⟨62, 15, 62, 67⟩) ⟨62, 8, 62, 67⟩)
 .nil) .nil ⟨61, 4, 62, 67⟩)
 (.cons (.asg "_law_near" 3 ⟨63, 4, 63, 13⟩ (.call 12 "_law_kind" ⟨63, 16, 63, 25⟩ (.cons (.name "_law_pot_here" 0 ⟨63, 26, 63, 39⟩) (.cons (.bin .sub (.name "_law_deep" 1 ⟨63, 41, 63, 50⟩) (.int 1 0 ⟨63, 53, 63, 54⟩) ⟨63, 41, 63, 54⟩) .nil)) ⟨63, 16, 63, 55⟩) ⟨63, 4, 63, 55⟩)
 (.cons (.ret (.tup (.cons (.sub (.lst (.cons (.str "pair" 0 ⟨64, 13, 64, 19⟩) (.cons (.str "sum" 0 ⟨64, 21, 64, 26⟩) (.cons (.str "fun" 0 ⟨64, 28, 64, 33⟩) .nil))) ⟨64, 12, 64, 34⟩) (.bin .sub (.name "_law_way" 2 ⟨64, 35, 64, 43⟩) (.int 3 0 ⟨64, 46, 64, 47⟩) ⟨64, 35, 64, 47⟩) ⟨64, 12, 64, 48⟩) (.cons (.name "_law_near" 3 ⟨64, 50, 64, 59⟩) (.cons (.call 12 "_law_kind" ⟨64, 61, 64, 70⟩ (.cons (.name "_law_pot_here" 0 ⟨64, 71, 64, 84⟩) (.cons (.bin .sub (.name "_law_deep" 1 ⟨64, 86, 64, 95⟩) (.int 1 0 ⟨64, 98, 64, 99⟩) ⟨64, 86, 64, 99⟩) .nil)) ⟨64, 61, 64, 100⟩) .nil))) 0 ⟨64, 11, 64, 101⟩) ⟨64, 4, 64, 101⟩)
 .nil))))
/-- _law_is_kind -/
def b13 : Ss :=
 (.cons (.ite (.bop .Or (.cons (.cmp .gt (.name "_law_deep" 1 ⟨66, 7, 66, 16⟩) (.int 12 0 ⟨66, 19, 66, 21⟩) ⟨66, 7, 66, 21⟩) (.cons (.not (.tr (.isi (.name "_law_value" 0 ⟨66, 40, 66, 50⟩) .tup ⟨66, 29, 66, 39⟩ ⟨66, 52, 66, 57⟩ ⟨66, 29, 66, 58⟩)) ⟨66, 25, 66, 58⟩) (.cons (.cmp .eq (.blt .len ⟨66, 62, 66, 65⟩ (.cons (.name "_law_value" 0 ⟨66, 66, 66, 76⟩) .nil) ⟨66, 62, 66, 77⟩) (.int 0 0 ⟨66, 81, 66, 82⟩) ⟨66, 62, 66, 82⟩) (.cons (.not (.tr (.isi (.sub (.name "_law_value" 0 ⟨66, 102, 66, 112⟩) (.int 0 0 ⟨66, 113, 66, 114⟩) ⟨66, 102, 66, 115⟩) .str ⟨66, 91, 66, 101⟩ ⟨66, 117, 66, 120⟩ ⟨66, 91, 66, 121⟩)) ⟨66, 87, 66, 121⟩) .nil)))) ⟨66, 7, 66, 122⟩) (.cons (.ret (.bl false 0 ⟨67, 15, 67, 20⟩) ⟨67, 8, 67, 20⟩)
 .nil) .nil ⟨66, 4, 67, 20⟩)
 (.cons (.ite (.cmp .eq (.sub (.name "_law_value" 0 ⟨68, 7, 68, 17⟩) (.int 0 0 ⟨68, 18, 68, 19⟩) ⟨68, 7, 68, 20⟩) (.str "count" 0 ⟨68, 24, 68, 31⟩) ⟨68, 7, 68, 31⟩) (.cons (.ret (.cmp .eq (.blt .len ⟨69, 15, 69, 18⟩ (.cons (.name "_law_value" 0 ⟨69, 19, 69, 29⟩) .nil) ⟨69, 15, 69, 30⟩) (.int 1 0 ⟨69, 34, 69, 35⟩) ⟨69, 15, 69, 35⟩) ⟨69, 8, 69, 35⟩)
 .nil) .nil ⟨68, 4, 69, 35⟩)
 (.cons (.ite (.cmp .eq (.sub (.name "_law_value" 0 ⟨70, 7, 70, 17⟩) (.int 0 0 ⟨70, 18, 70, 19⟩) ⟨70, 7, 70, 20⟩) (.str "letter" 0 ⟨70, 24, 70, 32⟩) ⟨70, 7, 70, 32⟩) (.cons (.ret (.bop .And (.cons (.cmp .eq (.blt .len ⟨71, 15, 71, 18⟩ (.cons (.name "_law_value" 0 ⟨71, 19, 71, 29⟩) .nil) ⟨71, 15, 71, 30⟩) (.int 2 0 ⟨71, 34, 71, 35⟩) ⟨71, 15, 71, 35⟩) (.cons (.isi (.sub (.name "_law_value" 0 ⟨71, 51, 71, 61⟩) (.int 1 0 ⟨71, 62, 71, 63⟩) ⟨71, 51, 71, 64⟩) .int ⟨71, 40, 71, 50⟩ ⟨71, 66, 71, 69⟩ ⟨71, 40, 71, 70⟩) (.cons (.notV (.isi (.sub (.name "_law_value" 0 ⟨71, 91, 71, 101⟩) (.int 1 0 ⟨71, 102, 71, 103⟩) ⟨71, 91, 71, 104⟩) .bl ⟨71, 80, 71, 90⟩ ⟨71, 106, 71, 110⟩ ⟨71, 80, 71, 111⟩) ⟨71, 76, 71, 111⟩) (.cons (.chain .le .le (.int 0 0 ⟨71, 118, 71, 119⟩) (.sub (.name "_law_value" 0 ⟨71, 123, 71, 133⟩) (.int 1 0 ⟨71, 134, 71, 135⟩) ⟨71, 123, 71, 136⟩) (.int 5 0 ⟨71, 140, 71, 141⟩) ⟨71, 118, 71, 141⟩) .nil)))) ⟨71, 15, 71, 142⟩) ⟨71, 8, 71, 142⟩)
 .nil) .nil ⟨70, 4, 71, 142⟩)
 (.cons (.ite (.bop .Or (.cons (.cmp .notin (.sub (.name "_law_value" 0 ⟨72, 7, 72, 17⟩) (.int 0 0 ⟨72, 18, 72, 19⟩) ⟨72, 7, 72, 20⟩) (.lst (.cons (.str "pair" 0 ⟨72, 29, 72, 35⟩) (.cons (.str "sum" 0 ⟨72, 37, 72, 42⟩) (.cons (.str "fun" 0 ⟨72, 44, 72, 49⟩) .nil))) ⟨72, 28, 72, 50⟩) ⟨72, 7, 72, 50⟩) (.cons (.cmp .ne (.blt .len ⟨72, 54, 72, 57⟩ (.cons (.name "_law_value" 0 ⟨72, 58, 72, 68⟩) .nil) ⟨72, 54, 72, 69⟩) (.int 3 0 ⟨72, 73, 72, 74⟩) ⟨72, 54, 72, 74⟩) .nil)) ⟨72, 7, 72, 74⟩) (.cons (.ret (.bl false 0 ⟨73, 15, 73, 20⟩) ⟨73, 8, 73, 20⟩)
 .nil) .nil ⟨72, 4, 73, 20⟩)
 (.cons (.ret (.bop .And (.cons (.call 13 "_law_is_kind" ⟨74, 11, 74, 23⟩ (.cons (.sub (.name "_law_value" 0 ⟨74, 24, 74, 34⟩) (.int 1 0 ⟨74, 35, 74, 36⟩) ⟨74, 24, 74, 37⟩) (.cons (.bin .add (.name "_law_deep" 1 ⟨74, 39, 74, 48⟩) (.int 1 0 ⟨74, 51, 74, 52⟩) ⟨74, 39, 74, 52⟩) .nil)) ⟨74, 11, 74, 53⟩) (.cons (.call 13 "_law_is_kind" ⟨74, 58, 74, 70⟩ (.cons (.sub (.name "_law_value" 0 ⟨74, 71, 74, 81⟩) (.int 2 0 ⟨74, 82, 74, 83⟩) ⟨74, 71, 74, 84⟩) (.cons (.bin .add (.name "_law_deep" 1 ⟨74, 86, 74, 95⟩) (.int 1 0 ⟨74, 98, 74, 99⟩) ⟨74, 86, 74, 99⟩) .nil)) ⟨74, 58, 74, 100⟩) .nil)) ⟨74, 11, 74, 100⟩) ⟨74, 4, 74, 100⟩)
 .nil)))))
/-- _law_bent -/
def b14 : Ss :=
 (.cons (.ite (.bop .Or (.cons (.cmp .notin (.sub (.name "_law_kind_here" 1 ⟨76, 7, 76, 21⟩) (.int 0 0 ⟨76, 22, 76, 23⟩) ⟨76, 7, 76, 24⟩) (.lst (.cons (.str "pair" 0 ⟨76, 33, 76, 39⟩) (.cons (.str "sum" 0 ⟨76, 41, 76, 46⟩) (.cons (.str "fun" 0 ⟨76, 48, 76, 53⟩) .nil))) ⟨76, 32, 76, 54⟩) ⟨76, 7, 76, 54⟩) (.cons (.cmp .eq (.call 9 "_law_draw" ⟨76, 58, 76, 67⟩ (.cons (.name "_law_pot_here" 0 ⟨76, 68, 76, 81⟩) (.cons (.int 3 0 ⟨76, 83, 76, 84⟩) .nil)) ⟨76, 58, 76, 85⟩) (.int 0 0 ⟨76, 89, 76, 90⟩) ⟨76, 58, 76, 90⟩) .nil)) ⟨76, 7, 76, 90⟩) (.cons (.ret (.name "_law_odd" 2 ⟨77, 15, 77, 23⟩) ⟨77, 8, 77, 23⟩)
 .nil) .nil ⟨76, 4, 77, 23⟩)
 (.cons (.ite (.cmp .eq (.call 9 "_law_draw" ⟨78, 7, 78, 16⟩ (.cons (.name "_law_pot_here" 0 ⟨78, 17, 78, 30⟩) (.cons (.int 2 0 ⟨78, 32, 78, 33⟩) .nil)) ⟨78, 7, 78, 34⟩) (.int 0 0 ⟨78, 38, 78, 39⟩) ⟨78, 7, 78, 39⟩) (.cons (.ret (.tup (.cons (.sub (.name "_law_kind_here" 1 ⟨79, 16, 79, 30⟩) (.int 0 0 ⟨79, 31, 79, 32⟩) ⟨79, 16, 79, 33⟩) (.cons (.call 14 "_law_bent" ⟨79, 35, 79, 44⟩ (.cons (.name "_law_pot_here" 0 ⟨79, 45, 79, 58⟩) (.cons (.sub (.name "_law_kind_here" 1 ⟨79, 60, 79, 74⟩) (.int 1 0 ⟨79, 75, 79, 76⟩) ⟨79, 60, 79, 77⟩) (.cons (.name "_law_odd" 2 ⟨79, 79, 79, 87⟩) .nil))) ⟨79, 35, 79, 88⟩) (.cons (.sub (.name "_law_kind_here" 1 ⟨79, 90, 79, 104⟩) (.int 2 0 ⟨79, 105, 79, 106⟩) ⟨79, 90, 79, 107⟩) .nil))) 0 ⟨79, 15, 79, 108⟩) ⟨79, 8, 79, 108⟩)
 .nil) .nil ⟨78, 4, 79, 108⟩)
 (.cons (.ret (.tup (.cons (.sub (.name "_law_kind_here" 1 ⟨80, 12, 80, 26⟩) (.int 0 0 ⟨80, 27, 80, 28⟩) ⟨80, 12, 80, 29⟩) (.cons (.sub (.name "_law_kind_here" 1 ⟨80, 31, 80, 45⟩) (.int 1 0 ⟨80, 46, 80, 47⟩) ⟨80, 31, 80, 48⟩) (.cons (.call 14 "_law_bent" ⟨80, 50, 80, 59⟩ (.cons (.name "_law_pot_here" 0 ⟨80, 60, 80, 73⟩) (.cons (.sub (.name "_law_kind_here" 1 ⟨80, 75, 80, 89⟩) (.int 2 0 ⟨80, 90, 80, 91⟩) ⟨80, 75, 80, 92⟩) (.cons (.name "_law_odd" 2 ⟨80, 94, 80, 102⟩) .nil))) ⟨80, 50, 80, 103⟩) .nil))) 0 ⟨80, 11, 80, 104⟩) ⟨80, 4, 80, 104⟩)
 .nil)))
/-- _law_right -/
def b15 : Ss :=
 (.cons (.par false true "_law_kind_here" 1 ⟨82, 4, 82, 18⟩ "_law_values" 2 ⟨82, 20, 82, 31⟩ 0 ⟨82, 4, 82, 31⟩ (.call 12 "_law_kind" ⟨82, 35, 82, 44⟩ (.cons (.name "_law_pot_here" 0 ⟨82, 45, 82, 58⟩) (.cons (.int 3 0 ⟨82, 60, 82, 61⟩) .nil)) ⟨82, 35, 82, 62⟩) (.lst (.cons (.non 0 ⟨82, 65, 82, 69⟩) (.cons (.int 0 0 ⟨82, 71, 82, 72⟩) (.cons (.neg (.int 1 0 ⟨82, 75, 82, 76⟩) ⟨82, 74, 82, 76⟩) (.cons (.bl true 0 ⟨82, 78, 82, 82⟩) (.cons (.str "count" 0 ⟨82, 84, 82, 91⟩) (.cons (.str "letter" 0 ⟨82, 93, 82, 101⟩) (.cons (.lst .nil ⟨82, 103, 82, 105⟩) (.cons (.tup .nil 0 ⟨82, 107, 82, 109⟩) (.cons (.emp ⟨82, 111, 82, 113⟩) (.cons (.tup (.cons (.str "count" 0 ⟨82, 116, 82, 123⟩) .nil) 0 ⟨82, 115, 82, 125⟩) (.cons (.lst (.cons (.str "count" 0 ⟨82, 128, 82, 135⟩) .nil) ⟨82, 127, 82, 136⟩) (.cons (.tup (.cons (.str "count" 0 ⟨82, 139, 82, 146⟩) (.cons (.int 0 0 ⟨82, 148, 82, 149⟩) .nil)) 0 ⟨82, 138, 82, 150⟩) (.cons (.tup (.cons (.str "letter" 0 ⟨82, 153, 82, 161⟩) .nil) 0 ⟨82, 152, 82, 163⟩) (.cons (.tup (.cons (.non 0 ⟨82, 166, 82, 170⟩) .nil) 0 ⟨82, 165, 82, 172⟩) (.cons (.tup (.cons (.int 1 0 ⟨82, 175, 82, 176⟩) (.cons (.int 2 0 ⟨82, 178, 82, 179⟩) .nil)) 0 ⟨82, 174, 82, 180⟩) .nil))))))))))))))) ⟨82, 64, 82, 181⟩) 0 ⟨82, 34, 82, 182⟩ ⟨82, 4, 82, 182⟩)
 (.cons (.for (.name "_law_odd" 3 ⟨83, 8, 83, 16⟩) (.seq (.lst (.cons (.non 0 ⟨83, 21, 83, 25⟩) (.cons (.tup (.cons (.str "letter" 0 ⟨83, 28, 83, 36⟩) (.cons (.int 6 0 ⟨83, 38, 83, 39⟩) .nil)) 0 ⟨83, 27, 83, 40⟩) (.cons (.tup (.cons (.str "letter" 0 ⟨83, 43, 83, 51⟩) (.cons (.neg (.int 1 0 ⟨83, 54, 83, 55⟩) ⟨83, 53, 83, 55⟩) .nil)) 0 ⟨83, 42, 83, 56⟩) (.cons (.tup (.cons (.str "letter" 0 ⟨83, 59, 83, 67⟩) (.cons (.bl true 0 ⟨83, 69, 83, 73⟩) .nil)) 0 ⟨83, 58, 83, 74⟩) (.cons (.tup (.cons (.str "letter" 0 ⟨83, 77, 83, 85⟩) (.cons (.str "a" 0 ⟨83, 87, 83, 90⟩) .nil)) 0 ⟨83, 76, 83, 91⟩) (.cons (.tup (.cons (.str "Letter" 0 ⟨83, 94, 83, 102⟩) (.cons (.int 0 0 ⟨83, 104, 83, 105⟩) .nil)) 0 ⟨83, 93, 83, 106⟩) (.cons (.lst (.cons (.str "letter" 0 ⟨83, 109, 83, 117⟩) (.cons (.int 0 0 ⟨83, 119, 83, 120⟩) .nil)) ⟨83, 108, 83, 121⟩) (.cons (.tup (.cons (.str "pair" 0 ⟨83, 124, 83, 130⟩) (.cons (.name "_law_kind_here" 1 ⟨83, 132, 83, 146⟩) .nil)) 0 ⟨83, 123, 83, 147⟩) (.cons (.tup (.cons (.str "fun" 0 ⟨83, 150, 83, 155⟩) (.cons (.name "_law_kind_here" 1 ⟨83, 157, 83, 171⟩) (.cons (.name "_law_kind_here" 1 ⟨83, 173, 83, 187⟩) (.cons (.name "_law_kind_here" 1 ⟨83, 189, 83, 203⟩) .nil)))) 0 ⟨83, 149, 83, 204⟩) (.cons (.tup (.cons (.str "sum" 0 ⟨83, 207, 83, 212⟩) (.cons (.name "_law_kind_here" 1 ⟨83, 214, 83, 228⟩) (.cons (.lst .nil ⟨83, 230, 83, 232⟩) .nil))) 0 ⟨83, 206, 83, 233⟩) .nil)))))))))) ⟨83, 20, 83, 234⟩)) (.cons (.ext "_law_values" 2 ⟨84, 8, 84, 19⟩ ⟨84, 8, 84, 26⟩ (.lst (.cons (.name "_law_odd" 3 ⟨84, 28, 84, 36⟩) (.cons (.call 14 "_law_bent" ⟨84, 38, 84, 47⟩ (.cons (.name "_law_pot_here" 0 ⟨84, 48, 84, 61⟩) (.cons (.name "_law_kind_here" 1 ⟨84, 63, 84, 77⟩) (.cons (.name "_law_odd" 3 ⟨84, 79, 84, 87⟩) .nil))) ⟨84, 38, 84, 88⟩) .nil)) ⟨84, 27, 84, 89⟩) ⟨84, 8, 84, 90⟩ ⟨84, 8, 84, 90⟩)
 .nil) ⟨83, 4, 84, 90⟩)
 (.cons (.ext "_law_values" 2 ⟨85, 4, 85, 15⟩ ⟨85, 4, 85, 22⟩ (.lst (.cons (.name "_law_kind_here" 1 ⟨85, 24, 85, 38⟩) (.cons (.blt .list ⟨85, 40, 85, 44⟩ (.cons (.name "_law_kind_here" 1 ⟨85, 45, 85, 59⟩) .nil) ⟨85, 40, 85, 60⟩) (.cons (.call 14 "_law_bent" ⟨85, 62, 85, 71⟩ (.cons (.name "_law_pot_here" 0 ⟨85, 72, 85, 85⟩) (.cons (.name "_law_kind_here" 1 ⟨85, 87, 85, 101⟩) (.cons (.tup (.cons (.str "letter" 0 ⟨85, 104, 85, 112⟩) (.cons (.int 5 0 ⟨85, 114, 85, 115⟩) .nil)) 0 ⟨85, 103, 85, 116⟩) .nil))) ⟨85, 62, 85, 117⟩) (.cons (.tup (.cons (.str "fun" 0 ⟨85, 120, 85, 125⟩) (.cons (.name "_law_kind_here" 1 ⟨85, 127, 85, 141⟩) (.cons (.name "_law_kind_here" 1 ⟨85, 143, 85, 157⟩) .nil))) 0 ⟨85, 119, 85, 158⟩) (.cons (.str "fun" 0 ⟨85, 160, 85, 165⟩) (.cons (.tup (.cons (.str "pair" 0 ⟨85, 168, 85, 174⟩) (.cons (.str "count" 0 ⟨85, 176, 85, 183⟩) (.cons (.str "count" 0 ⟨85, 185, 85, 192⟩) .nil))) 0 ⟨85, 167, 85, 193⟩) (.cons (.tup (.cons (.lst (.cons (.str "fun" 0 ⟨85, 197, 85, 202⟩) .nil) ⟨85, 196, 85, 203⟩) (.cons (.name "_law_kind_here" 1 ⟨85, 205, 85, 219⟩) (.cons (.name "_law_kind_here" 1 ⟨85, 221, 85, 235⟩) .nil))) 0 ⟨85, 195, 85, 236⟩) .nil))))))) ⟨85, 23, 85, 237⟩) ⟨85, 4, 85, 238⟩ ⟨85, 4, 85, 238⟩)
 (.cons (.par false false "_law_tower" 4 ⟨86, 4, 86, 14⟩ "_law_wide" 5 ⟨86, 16, 86, 25⟩ 0 ⟨86, 4, 86, 25⟩ (.tup (.cons (.str "letter" 0 ⟨86, 30, 86, 38⟩) (.cons (.call 9 "_law_draw" ⟨86, 40, 86, 49⟩ (.cons (.name "_law_pot_here" 0 ⟨86, 50, 86, 63⟩) (.cons (.int 6 0 ⟨86, 65, 86, 66⟩) .nil)) ⟨86, 40, 86, 67⟩) .nil)) 0 ⟨86, 29, 86, 68⟩) (.tup (.cons (.str "count" 0 ⟨86, 71, 86, 78⟩) .nil) 0 ⟨86, 70, 86, 80⟩) 0 ⟨86, 28, 86, 81⟩ ⟨86, 4, 86, 81⟩)
 (.cons (.for (.name "_law_turn" 6 ⟨87, 8, 87, 17⟩) (.rng ⟨87, 21, 87, 26⟩ (.cons (.int 13 0 ⟨87, 27, 87, 29⟩) .nil) ⟨87, 21, 87, 30⟩) (.cons (.asg "_law_tower" 4 ⟨88, 8, 88, 18⟩ (.ife (.cmp .eq (.call 9 "_law_draw" ⟨88, 99, 88, 108⟩ (.cons (.name "_law_pot_here" 0 ⟨88, 109, 88, 122⟩) (.cons (.int 2 0 ⟨88, 124, 88, 125⟩) .nil)) ⟨88, 99, 88, 126⟩) (.int 0 0 ⟨88, 130, 88, 131⟩) ⟨88, 99, 88, 131⟩) (.tup (.cons (.call 10 "_law_pick" ⟨88, 22, 88, 31⟩ (.cons (.name "_law_pot_here" 0 ⟨88, 32, 88, 45⟩) (.cons (.lst (.cons (.str "pair" 0 ⟨88, 48, 88, 54⟩) (.cons (.str "sum" 0 ⟨88, 56, 88, 61⟩) (.cons (.str "fun" 0 ⟨88, 63, 88, 68⟩) .nil))) ⟨88, 47, 88, 69⟩) .nil)) ⟨88, 22, 88, 70⟩) (.cons (.name "_law_tower" 4 ⟨88, 72, 88, 82⟩) (.cons (.tup (.cons (.str "count" 0 ⟨88, 85, 88, 92⟩) .nil) 0 ⟨88, 84, 88, 94⟩) .nil))) 0 ⟨88, 21, 88, 95⟩) (.tup (.cons (.str "fun" 0 ⟨88, 138, 88, 143⟩) (.cons (.tup (.cons (.str "count" 0 ⟨88, 146, 88, 153⟩) .nil) 0 ⟨88, 145, 88, 155⟩) (.cons (.name "_law_tower" 4 ⟨88, 157, 88, 167⟩) .nil))) 0 ⟨88, 137, 88, 168⟩) ⟨88, 21, 88, 168⟩) ⟨88, 8, 88, 168⟩)
 (.cons (.ite (.cmp .gt (.name "_law_turn" 6 ⟨89, 11, 89, 20⟩) (.int 9 0 ⟨89, 23, 89, 24⟩) ⟨89, 11, 89, 24⟩) (.cons (.app "_law_values" 2 ⟨90, 12, 90, 23⟩ ⟨90, 12, 90, 30⟩ (.name "_law_tower" 4 ⟨90, 31, 90, 41⟩) ⟨90, 12, 90, 42⟩ ⟨90, 12, 90, 42⟩)
 .nil) .nil ⟨89, 8, 90, 42⟩)
 .nil)) ⟨87, 4, 90, 42⟩)
 (.cons (.for (.name "_law_turn" 6 ⟨91, 8, 91, 17⟩) (.rng ⟨91, 21, 91, 26⟩ (.cons (.int 4 0 ⟨91, 27, 91, 28⟩) .nil) ⟨91, 21, 91, 29⟩) (.cons (.asg "_law_wide" 5 ⟨92, 8, 92, 17⟩ (.tup (.cons (.str "pair" 0 ⟨92, 21, 92, 27⟩) (.cons (.name "_law_wide" 5 ⟨92, 29, 92, 38⟩) (.cons (.name "_law_wide" 5 ⟨92, 40, 92, 49⟩) .nil))) 0 ⟨92, 20, 92, 50⟩) ⟨92, 8, 92, 50⟩)
 .nil) ⟨91, 4, 92, 50⟩)
 (.cons (.ext "_law_values" 2 ⟨93, 4, 93, 15⟩ ⟨93, 4, 93, 22⟩ (.lst (.cons (.tup (.cons (.str "fun" 0 ⟨93, 25, 93, 30⟩) (.cons (.name "_law_wide" 5 ⟨93, 32, 93, 41⟩) (.cons (.tup (.cons (.str "pair" 0 ⟨93, 44, 93, 50⟩) (.cons (.sub (.name "_law_wide" 5 ⟨93, 52, 93, 61⟩) (.int 1 0 ⟨93, 62, 93, 63⟩) ⟨93, 52, 93, 64⟩) (.cons (.sub (.name "_law_wide" 5 ⟨93, 66, 93, 75⟩) (.int 2 0 ⟨93, 76, 93, 77⟩) ⟨93, 66, 93, 78⟩) .nil))) 0 ⟨93, 43, 93, 79⟩) .nil))) 0 ⟨93, 24, 93, 80⟩) (.cons (.tup (.cons (.str "fun" 0 ⟨93, 83, 93, 88⟩) (.cons (.name "_law_wide" 5 ⟨93, 90, 93, 99⟩) (.cons (.tup (.cons (.str "pair" 0 ⟨93, 102, 93, 108⟩) (.cons (.sub (.name "_law_wide" 5 ⟨93, 110, 93, 119⟩) (.int 1 0 ⟨93, 120, 93, 121⟩) ⟨93, 110, 93, 122⟩) (.cons (.sub (.sub (.name "_law_wide" 5 ⟨93, 124, 93, 133⟩) (.int 1 0 ⟨93, 134, 93, 135⟩) ⟨93, 124, 93, 136⟩) (.int 1 0 ⟨93, 137, 93, 138⟩) ⟨93, 124, 93, 139⟩) .nil))) 0 ⟨93, 101, 93, 140⟩) .nil))) 0 ⟨93, 82, 93, 141⟩) (.cons (.tup (.cons (.str "fun" 0 ⟨93, 144, 93, 149⟩) (.cons (.name "_law_wide" 5 ⟨93, 151, 93, 160⟩) (.cons (.tup (.cons (.str "pair" 0 ⟨93, 163, 93, 169⟩) (.cons (.sub (.name "_law_wide" 5 ⟨93, 171, 93, 180⟩) (.int 1 0 ⟨93, 181, 93, 182⟩) ⟨93, 171, 93, 183⟩) (.cons (.tup (.cons (.str "pair" 0 ⟨93, 186, 93, 192⟩) (.cons (.sub (.sub (.name "_law_wide" 5 ⟨93, 194, 93, 203⟩) (.int 1 0 ⟨93, 204, 93, 205⟩) ⟨93, 194, 93, 206⟩) (.int 1 0 ⟨93, 207, 93, 208⟩) ⟨93, 194, 93, 209⟩) (.cons (.sub (.sub (.sub (.name "_law_wide" 5 ⟨93, 211, 93, 220⟩) (.int 1 0 ⟨93, 221, 93, 222⟩) ⟨93, 211, 93, 223⟩) (.int 1 0 ⟨93, 224, 93, 225⟩) ⟨93, 211, 93, 226⟩) (.int 1 0 ⟨93, 227, 93, 228⟩) ⟨93, 211, 93, 229⟩) .nil))) 0 ⟨93, 185, 93, 230⟩) .nil))) 0 ⟨93, 162, 93, 231⟩) .nil))) 0 ⟨93, 143, 93, 232⟩) .nil))) ⟨93, 23, 93, 233⟩) ⟨93, 4, 93, 234⟩ ⟨93, 4, 93, 234⟩)
 (.cons (.app "_law_values" 2 ⟨94, 4, 94, 15⟩ ⟨94, 4, 94, 22⟩ (.tup (.cons (.str "fun" 0 ⟨94, 24, 94, 29⟩) (.cons (.name "_law_wide" 5 ⟨94, 31, 94, 40⟩) (.cons (.tup (.cons (.str "pair" 0 ⟨94, 43, 94, 49⟩) (.cons (.sub (.name "_law_wide" 5 ⟨94, 51, 94, 60⟩) (.int 1 0 ⟨94, 61, 94, 62⟩) ⟨94, 51, 94, 63⟩) (.cons (.tup (.cons (.str "pair" 0 ⟨94, 66, 94, 72⟩) (.cons (.sub (.sub (.name "_law_wide" 5 ⟨94, 74, 94, 83⟩) (.int 1 0 ⟨94, 84, 94, 85⟩) ⟨94, 74, 94, 86⟩) (.int 1 0 ⟨94, 87, 94, 88⟩) ⟨94, 74, 94, 89⟩) (.cons (.tup (.cons (.str "pair" 0 ⟨94, 92, 94, 98⟩) (.cons (.sub (.sub (.sub (.name "_law_wide" 5 ⟨94, 100, 94, 109⟩) (.int 1 0 ⟨94, 110, 94, 111⟩) ⟨94, 100, 94, 112⟩) (.int 1 0 ⟨94, 113, 94, 114⟩) ⟨94, 100, 94, 115⟩) (.int 1 0 ⟨94, 116, 94, 117⟩) ⟨94, 100, 94, 118⟩) (.cons (.tup (.cons (.str "count" 0 ⟨94, 121, 94, 128⟩) .nil) 0 ⟨94, 120, 94, 130⟩) .nil))) 0 ⟨94, 91, 94, 131⟩) .nil))) 0 ⟨94, 65, 94, 132⟩) .nil))) 0 ⟨94, 42, 94, 133⟩) .nil))) 0 ⟨94, 23, 94, 134⟩) ⟨94, 4, 94, 135⟩ ⟨94, 4, 94, 135⟩)
 (.cons (.frz [2] (.for (.name "_law_value" 7 ⟨95, 8, 95, 18⟩) (.seq (.name "_law_values" 2 ⟨95, 22, 95, 33⟩)) (.cons (.asg "_law_whole" 8 ⟨96, 8, 96, 18⟩ (.bop .And (.cons (.isi (.name "_law_value" 7 ⟨96, 32, 96, 42⟩) .int ⟨96, 21, 96, 31⟩ ⟨96, 44, 96, 47⟩ ⟨96, 21, 96, 48⟩) (.cons (.notV (.isi (.name "_law_value" 7 ⟨96, 69, 96, 79⟩) .bl ⟨96, 58, 96, 68⟩ ⟨96, 81, 96, 85⟩ ⟨96, 58, 96, 86⟩) ⟨96, 54, 96, 86⟩) .nil)) ⟨96, 21, 96, 87⟩) ⟨96, 8, 96, 87⟩)
 (.cons (.ite (.cmp .ne (.blt .repr ⟨97, 11, 97, 15⟩ (.cons (.lst (.cons (.call 0 "is_integer" ⟨97, 17, 97, 27⟩ (.cons (.name "_law_value" 7 ⟨97, 28, 97, 38⟩) .nil) ⟨97, 17, 97, 39⟩) (.cons (.call 1 "is_count" ⟨97, 41, 97, 49⟩ (.cons (.name "_law_value" 7 ⟨97, 50, 97, 60⟩) .nil) ⟨97, 41, 97, 61⟩) (.cons (.call 2 "is_list" ⟨97, 63, 97, 70⟩ (.cons (.name "_law_value" 7 ⟨97, 71, 97, 81⟩) .nil) ⟨97, 63, 97, 82⟩) .nil))) ⟨97, 16, 97, 83⟩) .nil) ⟨97, 11, 97, 84⟩) (.blt .repr ⟨97, 88, 97, 92⟩ (.cons (.lst (.cons (.name "_law_whole" 8 ⟨97, 94, 97, 104⟩) (.cons (.bop .And (.cons (.name "_law_whole" 8 ⟨97, 106, 97, 116⟩) (.cons (.cmp .ge (.name "_law_value" 7 ⟨97, 121, 97, 131⟩) (.int 0 0 ⟨97, 135, 97, 136⟩) ⟨97, 121, 97, 136⟩) .nil)) ⟨97, 106, 97, 136⟩) (.cons (.isiT (.name "_law_value" 7 ⟨97, 149, 97, 159⟩) .lst ⟨97, 162, 97, 166⟩ .tup ⟨97, 168, 97, 173⟩ 0 ⟨97, 138, 97, 148⟩ ⟨97, 161, 97, 174⟩ ⟨97, 138, 97, 175⟩) .nil))) ⟨97, 93, 97, 176⟩) .nil) ⟨97, 88, 97, 177⟩) ⟨97, 11, 97, 177⟩) (.cons (.ret (.bl false 0 ⟨98, 19, 98, 24⟩) ⟨98, 12, 98, 24⟩)
 .nil) .nil ⟨97, 8, 98, 24⟩)
 (.cons (.asg "_law_due" 9 ⟨99, 8, 99, 16⟩ (.bop .And (.cons (.call 13 "_law_is_kind" ⟨99, 19, 99, 31⟩ (.cons (.name "_law_value" 7 ⟨99, 32, 99, 42⟩) (.cons (.int 1 0 ⟨99, 44, 99, 45⟩) .nil)) ⟨99, 19, 99, 46⟩) (.cons (.cmp .le (.call 11 "_law_signs" ⟨99, 51, 99, 61⟩ (.cons (.name "_law_value" 7 ⟨99, 62, 99, 72⟩) .nil) ⟨99, 51, 99, 73⟩) (.int 60 0 ⟨99, 77, 99, 79⟩) ⟨99, 51, 99, 79⟩) .nil)) ⟨99, 19, 99, 79⟩) ⟨99, 8, 99, 79⟩)
 (.cons (.ite (.cmp .ne (.blt .repr ⟨100, 11, 100, 15⟩ (.cons (.lst (.cons (.call 7 "is_kind" ⟨100, 17, 100, 24⟩ (.cons (.name "_law_value" 7 ⟨100, 25, 100, 35⟩) .nil) ⟨100, 17, 100, 36⟩) (.cons (.callK 7 "is_kind" ⟨100, 38, 100, 45⟩ .nil (.cons "value" (.name "_law_value" 7 ⟨100, 52, 100, 62⟩) ⟨100, 46, 100, 62⟩ .nil) ⟨100, 38, 100, 63⟩) .nil)) ⟨100, 16, 100, 64⟩) .nil) ⟨100, 11, 100, 65⟩) (.blt .repr ⟨100, 69, 100, 73⟩ (.cons (.lst (.cons (.name "_law_due" 9 ⟨100, 75, 100, 83⟩) (.cons (.name "_law_due" 9 ⟨100, 85, 100, 93⟩) .nil)) ⟨100, 74, 100, 94⟩) .nil) ⟨100, 69, 100, 95⟩) ⟨100, 11, 100, 95⟩) (.cons (.ret (.bl false 0 ⟨101, 19, 101, 24⟩) ⟨101, 12, 101, 24⟩)
 .nil) .nil ⟨100, 8, 101, 24⟩)
 .nil)))) ⟨95, 4, 101, 24⟩))
 (.cons (.ret (.bl true 0 ⟨102, 11, 102, 15⟩) ⟨102, 4, 102, 15⟩)
 .nil))))))))))
/-- law -/
def b16 : Ss :=
 (.cons (.ret (.call 15 "_law_right" ⟨104, 11, 104, 21⟩ (.cons (.call 8 "_law_pot" ⟨104, 22, 104, 30⟩ (.cons (.name "_law_script" 0 ⟨104, 31, 104, 42⟩) (.cons (.int 0 0 ⟨104, 44, 104, 45⟩) .nil)) ⟨104, 22, 104, 46⟩) .nil) ⟨104, 11, 104, 47⟩) ⟨104, 4, 104, 47⟩)
 .nil)
def defs : List Df := [
  ⟨"is_integer", ["value"], 1, b0⟩,
  ⟨"is_count", ["value"], 1, b1⟩,
  ⟨"is_list", ["value"], 1, b2⟩,
  ⟨"is_leaf", ["value"], 1, b3⟩,
  ⟨"is_letter_word", ["value"], 1, b4⟩,
  ⟨"is_letter", ["value"], 1, b5⟩,
  ⟨"is_branch", ["value"], 1, b6⟩,
  ⟨"is_kind", ["value", "left", "signs", "one", "deep"], 1, b7⟩,
  ⟨"_law_pot", ["_law_script", "_law_k", "_law_cell"], 2, b8⟩,
  ⟨"_law_draw", ["_law_pot_here", "_law_size", "_law_digit"], 2, b9⟩,
  ⟨"_law_pick", ["_law_pot_here", "_law_some"], 2, b10⟩,
  ⟨"_law_signs", ["_law_kind_here"], 1, b11⟩,
  ⟨"_law_kind", ["_law_pot_here", "_law_deep", "_law_way", "_law_near"], 2, b12⟩,
  ⟨"_law_is_kind", ["_law_value", "_law_deep"], 2, b13⟩,
  ⟨"_law_bent", ["_law_pot_here", "_law_kind_here", "_law_odd"], 3, b14⟩,
  ⟨"_law_right", ["_law_pot_here", "_law_kind_here", "_law_values", "_law_odd", "_law_tower", "_law_wide", "_law_turn", "_law_value", "_law_whole", "_law_due"], 1, b15⟩,
  ⟨"law", ["_law_script"], 1, b16⟩]
def csts : List (Str × W) := [
  ("LETTER", .str "letter"),
  ("TELLING", .str "count"),
  ("PAIR", .str "pair"),
  ("SUM", .str "sum"),
  ("FUN", .str "fun"),
  ("MOST_LETTER", .int 5),
  ("MOST_SIGNS", .int 60),
  ("MOST_DEEP", .int 12)]
def pg : Pg := ⟨defs, fun x => csts.lookup x⟩
abbrev f_is_integer : Nat := 0
abbrev f_is_count : Nat := 1
abbrev f_is_list : Nat := 2
abbrev f_is_leaf : Nat := 3
abbrev f_is_letter_word : Nat := 4
abbrev f_is_letter : Nat := 5
abbrev f_is_branch : Nat := 6
abbrev f_is_kind : Nat := 7
abbrev f_law_pot : Nat := 8
abbrev f_law_draw : Nat := 9
abbrev f_law_pick : Nat := 10
abbrev f_law_signs : Nat := 11
abbrev f_law_kind : Nat := 12
abbrev f_law_is_kind : Nat := 13
abbrev f_law_bent : Nat := 14
abbrev f_law_right : Nat := 15
abbrev f_law : Nat := 16
end K12

set_option maxHeartbeats 0
namespace K12
open PySem PySem.Spec PyProof.Rows L2 Ev
abbrev row_ : PySem.W.OpenRow := PySem.W.OpenLaw.row PySem.Challenge.rw_selfprint_k12_any_value_as_kind
def top (i : Nat) : Stmt := row_.prog.main.body.getD i (.Pass ⟨0, 0, 0, 0⟩)
def isDef : Stmt → Option Str
  | .FunctionDef n .. => some n
  | _ => none
def at_ (x : Str) : Stmt := (row_.prog.main.body.find? fun s => isDef s == some x).getD (.Pass ⟨0, 0, 0, 0⟩)
def kws_ : List (Nat × Nat × List Str) := [(7, 0, ["value"])]
def sts_ : List (Df × Stmt) := [(⟨"is_integer", ["value"], 1, b0⟩, at_ "is_integer"), (⟨"is_count", ["value"], 1, b1⟩, at_ "is_count"), (⟨"is_list", ["value"], 1, b2⟩, at_ "is_list"), (⟨"is_leaf", ["value"], 1, b3⟩, at_ "is_leaf"), (⟨"is_letter_word", ["value"], 1, b4⟩, at_ "is_letter_word"), (⟨"is_letter", ["value"], 1, b5⟩, at_ "is_letter"), (⟨"is_branch", ["value"], 1, b6⟩, at_ "is_branch"), (⟨"is_kind", ["value", "left", "signs", "one", "deep"], 1, b7⟩, at_ "is_kind"), (⟨"_law_pot", ["_law_script", "_law_k", "_law_cell"], 2, b8⟩, at_ "_law_pot"), (⟨"_law_draw", ["_law_pot_here", "_law_size", "_law_digit"], 2, b9⟩, at_ "_law_draw"), (⟨"_law_pick", ["_law_pot_here", "_law_some"], 2, b10⟩, at_ "_law_pick"), (⟨"_law_signs", ["_law_kind_here"], 1, b11⟩, at_ "_law_signs"), (⟨"_law_kind", ["_law_pot_here", "_law_deep", "_law_way", "_law_near"], 2, b12⟩, at_ "_law_kind"), (⟨"_law_is_kind", ["_law_value", "_law_deep"], 2, b13⟩, at_ "_law_is_kind"), (⟨"_law_bent", ["_law_pot_here", "_law_kind_here", "_law_odd"], 3, b14⟩, at_ "_law_bent"), (⟨"_law_right", ["_law_pot_here", "_law_kind_here", "_law_values", "_law_odd", "_law_tower", "_law_wide", "_law_turn", "_law_value", "_law_whole", "_law_due"], 1, b15⟩, at_ "_law_right"), (⟨"law", ["_law_script"], 1, b16⟩, at_ "law")]
def fn_ : List He.DefD := fnOf2 sts_
def fa_ : List He.Fa := faOf pg.defs csts
abbrev hk_ : PySem.W.Hook := He.hookD 4 fa_ fn_
def ob_ (s : PySem.W.SharedT) : He.AlD := He.obsDG 4 fa_ fn_ (HandSHeadRun.getT s)
theorem ob_eq_ (s : PySem.W.SharedT) : ob_ s = hk_.obs s.abs := He.obsDG_eq (HandSHeadRun.getT_eq s)
def nm_ : Stmt → List Str
  | .FunctionDef n .. => [n]
  | .ClassDef n .. => [n]
  | .Assign [.Name n _] _ _ => [n]
  | _ => []
def lawIx_ : Nat := row_.prog.main.body.length - 1
def loose_ : List Str := (row_.prog.main.body.dropLast.flatMap nm_).eraseDups
theorem run_ (w : World) : HandSHeadRun.RunEq row_ (PySem.W.view row_.prog [lawIx_]) hk_ ob_ 4000 loose_ w := by
  intro os
  kernel_rfl
abbrev fs_ : Nat → Option Str := fun (i : Nat) => (pg.defs[i]?).map Df.nm
section
variable {K : PySem.W.Frag} {h : Heap} {mg : Str → Option Value}
theorem un_0 : defBody (at_ "is_integer") = Ss.un b0 := by kernel_rfl
theorem sc_0 : FnScope (["value"] : List Str) (List.take 1 (["value"] : List Str)) (defScope (at_ "is_integer")) := ⟨by kernel_rfl, by kernel_rfl, by kernel_rfl, by decide +kernel, by kernel_rfl, by decide +kernel, by decide +kernel⟩
theorem ok_0 : Ss.okS ⟨(["value"] : List Str), fs_, kws_⟩ (defScope (at_ "is_integer")) b0 = true := by kernel_rfl
theorem bd_0 (kV doc pm : Value) (an : Option Addr) (cdv ct : Value) (us : List Value) (hl : us.length = (List.take 1 (["value"] : List Str)).length) : bindArgs (PySem.W.fnOf "is_integer" "is_integer" (defArgs (at_ "is_integer")) (defBody (at_ "is_integer")) (defScope (at_ "is_integer")) .none kV doc pm an cdv ct) ⟨us, []⟩ = pure ((List.take 1 (["value"] : List Str)).zip us) := match us, hl with | [_], _ => rfl
theorem kw_0 (kV doc pm : Value) (an : Option Addr) (cdv ct : Value) : KwOk kws_ 0 (PySem.W.fnOf "is_integer" "is_integer" (defArgs (at_ "is_integer")) (defBody (at_ "is_integer")) (defScope (at_ "is_integer")) .none kV doc pm an cdv ct) (List.take 1 (["value"] : List Str)) := by
  intro n ks hm us zs h1 h2
  simp only [kws_, List.mem_cons, List.not_mem_nil, or_false, Prod.mk.injEq] at hm
  omega
theorem df_0 (X : K.In h) (G : h.Ns mainGlobals mg) (c : He.SaysD fa_ fn_ K) : DefOk K mg fs_ kws_ 0 ⟨"is_integer", (["value"] : List Str), 1, b0⟩ := by
  obtain ⟨fd, F⟩ := c.def_ 0 (d := dtD ⟨"is_integer", (["value"] : List Str), 1, b0⟩ (at_ "is_integer")) rfl
  exact def_of (st := at_ "is_integer") F (He.glo_ok X G (c.fact 0 (f := .glo "is_integer") rfl)) un_0 sc_0 ok_0 (by decide) bd_0 kw_0
end
section
variable {K : PySem.W.Frag} {h : Heap} {mg : Str → Option Value}
theorem un_1 : defBody (at_ "is_count") = Ss.un b1 := by kernel_rfl
theorem sc_1 : FnScope (["value"] : List Str) (List.take 1 (["value"] : List Str)) (defScope (at_ "is_count")) := ⟨by kernel_rfl, by kernel_rfl, by kernel_rfl, by decide +kernel, by kernel_rfl, by decide +kernel, by decide +kernel⟩
theorem ok_1 : Ss.okS ⟨(["value"] : List Str), fs_, kws_⟩ (defScope (at_ "is_count")) b1 = true := by kernel_rfl
theorem bd_1 (kV doc pm : Value) (an : Option Addr) (cdv ct : Value) (us : List Value) (hl : us.length = (List.take 1 (["value"] : List Str)).length) : bindArgs (PySem.W.fnOf "is_count" "is_count" (defArgs (at_ "is_count")) (defBody (at_ "is_count")) (defScope (at_ "is_count")) .none kV doc pm an cdv ct) ⟨us, []⟩ = pure ((List.take 1 (["value"] : List Str)).zip us) := match us, hl with | [_], _ => rfl
theorem kw_1 (kV doc pm : Value) (an : Option Addr) (cdv ct : Value) : KwOk kws_ 1 (PySem.W.fnOf "is_count" "is_count" (defArgs (at_ "is_count")) (defBody (at_ "is_count")) (defScope (at_ "is_count")) .none kV doc pm an cdv ct) (List.take 1 (["value"] : List Str)) := by
  intro n ks hm us zs h1 h2
  simp only [kws_, List.mem_cons, List.not_mem_nil, or_false, Prod.mk.injEq] at hm
  omega
theorem df_1 (X : K.In h) (G : h.Ns mainGlobals mg) (c : He.SaysD fa_ fn_ K) : DefOk K mg fs_ kws_ 1 ⟨"is_count", (["value"] : List Str), 1, b1⟩ := by
  obtain ⟨fd, F⟩ := c.def_ 1 (d := dtD ⟨"is_count", (["value"] : List Str), 1, b1⟩ (at_ "is_count")) rfl
  exact def_of (st := at_ "is_count") F (He.glo_ok X G (c.fact 1 (f := .glo "is_count") rfl)) un_1 sc_1 ok_1 (by decide) bd_1 kw_1
end
section
variable {K : PySem.W.Frag} {h : Heap} {mg : Str → Option Value}
theorem un_2 : defBody (at_ "is_list") = Ss.un b2 := by kernel_rfl
theorem sc_2 : FnScope (["value"] : List Str) (List.take 1 (["value"] : List Str)) (defScope (at_ "is_list")) := ⟨by kernel_rfl, by kernel_rfl, by kernel_rfl, by decide +kernel, by kernel_rfl, by decide +kernel, by decide +kernel⟩
theorem ok_2 : Ss.okS ⟨(["value"] : List Str), fs_, kws_⟩ (defScope (at_ "is_list")) b2 = true := by kernel_rfl
theorem bd_2 (kV doc pm : Value) (an : Option Addr) (cdv ct : Value) (us : List Value) (hl : us.length = (List.take 1 (["value"] : List Str)).length) : bindArgs (PySem.W.fnOf "is_list" "is_list" (defArgs (at_ "is_list")) (defBody (at_ "is_list")) (defScope (at_ "is_list")) .none kV doc pm an cdv ct) ⟨us, []⟩ = pure ((List.take 1 (["value"] : List Str)).zip us) := match us, hl with | [_], _ => rfl
theorem kw_2 (kV doc pm : Value) (an : Option Addr) (cdv ct : Value) : KwOk kws_ 2 (PySem.W.fnOf "is_list" "is_list" (defArgs (at_ "is_list")) (defBody (at_ "is_list")) (defScope (at_ "is_list")) .none kV doc pm an cdv ct) (List.take 1 (["value"] : List Str)) := by
  intro n ks hm us zs h1 h2
  simp only [kws_, List.mem_cons, List.not_mem_nil, or_false, Prod.mk.injEq] at hm
  omega
theorem df_2 (X : K.In h) (G : h.Ns mainGlobals mg) (c : He.SaysD fa_ fn_ K) : DefOk K mg fs_ kws_ 2 ⟨"is_list", (["value"] : List Str), 1, b2⟩ := by
  obtain ⟨fd, F⟩ := c.def_ 2 (d := dtD ⟨"is_list", (["value"] : List Str), 1, b2⟩ (at_ "is_list")) rfl
  exact def_of (st := at_ "is_list") F (He.glo_ok X G (c.fact 2 (f := .glo "is_list") rfl)) un_2 sc_2 ok_2 (by decide) bd_2 kw_2
end
section
variable {K : PySem.W.Frag} {h : Heap} {mg : Str → Option Value}
theorem un_3 : defBody (at_ "is_leaf") = Ss.un b3 := by kernel_rfl
theorem sc_3 : FnScope (["value"] : List Str) (List.take 1 (["value"] : List Str)) (defScope (at_ "is_leaf")) := ⟨by kernel_rfl, by kernel_rfl, by kernel_rfl, by decide +kernel, by kernel_rfl, by decide +kernel, by decide +kernel⟩
theorem ok_3 : Ss.okS ⟨(["value"] : List Str), fs_, kws_⟩ (defScope (at_ "is_leaf")) b3 = true := by kernel_rfl
theorem bd_3 (kV doc pm : Value) (an : Option Addr) (cdv ct : Value) (us : List Value) (hl : us.length = (List.take 1 (["value"] : List Str)).length) : bindArgs (PySem.W.fnOf "is_leaf" "is_leaf" (defArgs (at_ "is_leaf")) (defBody (at_ "is_leaf")) (defScope (at_ "is_leaf")) .none kV doc pm an cdv ct) ⟨us, []⟩ = pure ((List.take 1 (["value"] : List Str)).zip us) := match us, hl with | [_], _ => rfl
theorem kw_3 (kV doc pm : Value) (an : Option Addr) (cdv ct : Value) : KwOk kws_ 3 (PySem.W.fnOf "is_leaf" "is_leaf" (defArgs (at_ "is_leaf")) (defBody (at_ "is_leaf")) (defScope (at_ "is_leaf")) .none kV doc pm an cdv ct) (List.take 1 (["value"] : List Str)) := by
  intro n ks hm us zs h1 h2
  simp only [kws_, List.mem_cons, List.not_mem_nil, or_false, Prod.mk.injEq] at hm
  omega
theorem df_3 (X : K.In h) (G : h.Ns mainGlobals mg) (c : He.SaysD fa_ fn_ K) : DefOk K mg fs_ kws_ 3 ⟨"is_leaf", (["value"] : List Str), 1, b3⟩ := by
  obtain ⟨fd, F⟩ := c.def_ 3 (d := dtD ⟨"is_leaf", (["value"] : List Str), 1, b3⟩ (at_ "is_leaf")) rfl
  exact def_of (st := at_ "is_leaf") F (He.glo_ok X G (c.fact 3 (f := .glo "is_leaf") rfl)) un_3 sc_3 ok_3 (by decide) bd_3 kw_3
end
section
variable {K : PySem.W.Frag} {h : Heap} {mg : Str → Option Value}
theorem un_4 : defBody (at_ "is_letter_word") = Ss.un b4 := by kernel_rfl
theorem sc_4 : FnScope (["value"] : List Str) (List.take 1 (["value"] : List Str)) (defScope (at_ "is_letter_word")) := ⟨by kernel_rfl, by kernel_rfl, by kernel_rfl, by decide +kernel, by kernel_rfl, by decide +kernel, by decide +kernel⟩
theorem ok_4 : Ss.okS ⟨(["value"] : List Str), fs_, kws_⟩ (defScope (at_ "is_letter_word")) b4 = true := by kernel_rfl
theorem bd_4 (kV doc pm : Value) (an : Option Addr) (cdv ct : Value) (us : List Value) (hl : us.length = (List.take 1 (["value"] : List Str)).length) : bindArgs (PySem.W.fnOf "is_letter_word" "is_letter_word" (defArgs (at_ "is_letter_word")) (defBody (at_ "is_letter_word")) (defScope (at_ "is_letter_word")) .none kV doc pm an cdv ct) ⟨us, []⟩ = pure ((List.take 1 (["value"] : List Str)).zip us) := match us, hl with | [_], _ => rfl
theorem kw_4 (kV doc pm : Value) (an : Option Addr) (cdv ct : Value) : KwOk kws_ 4 (PySem.W.fnOf "is_letter_word" "is_letter_word" (defArgs (at_ "is_letter_word")) (defBody (at_ "is_letter_word")) (defScope (at_ "is_letter_word")) .none kV doc pm an cdv ct) (List.take 1 (["value"] : List Str)) := by
  intro n ks hm us zs h1 h2
  simp only [kws_, List.mem_cons, List.not_mem_nil, or_false, Prod.mk.injEq] at hm
  omega
theorem df_4 (X : K.In h) (G : h.Ns mainGlobals mg) (c : He.SaysD fa_ fn_ K) : DefOk K mg fs_ kws_ 4 ⟨"is_letter_word", (["value"] : List Str), 1, b4⟩ := by
  obtain ⟨fd, F⟩ := c.def_ 4 (d := dtD ⟨"is_letter_word", (["value"] : List Str), 1, b4⟩ (at_ "is_letter_word")) rfl
  exact def_of (st := at_ "is_letter_word") F (He.glo_ok X G (c.fact 4 (f := .glo "is_letter_word") rfl)) un_4 sc_4 ok_4 (by decide) bd_4 kw_4
end
section
variable {K : PySem.W.Frag} {h : Heap} {mg : Str → Option Value}
theorem un_5 : defBody (at_ "is_letter") = Ss.un b5 := by kernel_rfl
theorem sc_5 : FnScope (["value"] : List Str) (List.take 1 (["value"] : List Str)) (defScope (at_ "is_letter")) := ⟨by kernel_rfl, by kernel_rfl, by kernel_rfl, by decide +kernel, by kernel_rfl, by decide +kernel, by decide +kernel⟩
theorem ok_5 : Ss.okS ⟨(["value"] : List Str), fs_, kws_⟩ (defScope (at_ "is_letter")) b5 = true := by kernel_rfl
theorem bd_5 (kV doc pm : Value) (an : Option Addr) (cdv ct : Value) (us : List Value) (hl : us.length = (List.take 1 (["value"] : List Str)).length) : bindArgs (PySem.W.fnOf "is_letter" "is_letter" (defArgs (at_ "is_letter")) (defBody (at_ "is_letter")) (defScope (at_ "is_letter")) .none kV doc pm an cdv ct) ⟨us, []⟩ = pure ((List.take 1 (["value"] : List Str)).zip us) := match us, hl with | [_], _ => rfl
theorem kw_5 (kV doc pm : Value) (an : Option Addr) (cdv ct : Value) : KwOk kws_ 5 (PySem.W.fnOf "is_letter" "is_letter" (defArgs (at_ "is_letter")) (defBody (at_ "is_letter")) (defScope (at_ "is_letter")) .none kV doc pm an cdv ct) (List.take 1 (["value"] : List Str)) := by
  intro n ks hm us zs h1 h2
  simp only [kws_, List.mem_cons, List.not_mem_nil, or_false, Prod.mk.injEq] at hm
  omega
theorem df_5 (X : K.In h) (G : h.Ns mainGlobals mg) (c : He.SaysD fa_ fn_ K) : DefOk K mg fs_ kws_ 5 ⟨"is_letter", (["value"] : List Str), 1, b5⟩ := by
  obtain ⟨fd, F⟩ := c.def_ 5 (d := dtD ⟨"is_letter", (["value"] : List Str), 1, b5⟩ (at_ "is_letter")) rfl
  exact def_of (st := at_ "is_letter") F (He.glo_ok X G (c.fact 5 (f := .glo "is_letter") rfl)) un_5 sc_5 ok_5 (by decide) bd_5 kw_5
end
section
variable {K : PySem.W.Frag} {h : Heap} {mg : Str → Option Value}
theorem un_6 : defBody (at_ "is_branch") = Ss.un b6 := by kernel_rfl
theorem sc_6 : FnScope (["value"] : List Str) (List.take 1 (["value"] : List Str)) (defScope (at_ "is_branch")) := ⟨by kernel_rfl, by kernel_rfl, by kernel_rfl, by decide +kernel, by kernel_rfl, by decide +kernel, by decide +kernel⟩
theorem ok_6 : Ss.okS ⟨(["value"] : List Str), fs_, kws_⟩ (defScope (at_ "is_branch")) b6 = true := by kernel_rfl
theorem bd_6 (kV doc pm : Value) (an : Option Addr) (cdv ct : Value) (us : List Value) (hl : us.length = (List.take 1 (["value"] : List Str)).length) : bindArgs (PySem.W.fnOf "is_branch" "is_branch" (defArgs (at_ "is_branch")) (defBody (at_ "is_branch")) (defScope (at_ "is_branch")) .none kV doc pm an cdv ct) ⟨us, []⟩ = pure ((List.take 1 (["value"] : List Str)).zip us) := match us, hl with | [_], _ => rfl
theorem kw_6 (kV doc pm : Value) (an : Option Addr) (cdv ct : Value) : KwOk kws_ 6 (PySem.W.fnOf "is_branch" "is_branch" (defArgs (at_ "is_branch")) (defBody (at_ "is_branch")) (defScope (at_ "is_branch")) .none kV doc pm an cdv ct) (List.take 1 (["value"] : List Str)) := by
  intro n ks hm us zs h1 h2
  simp only [kws_, List.mem_cons, List.not_mem_nil, or_false, Prod.mk.injEq] at hm
  omega
theorem df_6 (X : K.In h) (G : h.Ns mainGlobals mg) (c : He.SaysD fa_ fn_ K) : DefOk K mg fs_ kws_ 6 ⟨"is_branch", (["value"] : List Str), 1, b6⟩ := by
  obtain ⟨fd, F⟩ := c.def_ 6 (d := dtD ⟨"is_branch", (["value"] : List Str), 1, b6⟩ (at_ "is_branch")) rfl
  exact def_of (st := at_ "is_branch") F (He.glo_ok X G (c.fact 6 (f := .glo "is_branch") rfl)) un_6 sc_6 ok_6 (by decide) bd_6 kw_6
end
section
variable {K : PySem.W.Frag} {h : Heap} {mg : Str → Option Value}
theorem un_7 : defBody (at_ "is_kind") = Ss.un b7 := by kernel_rfl
theorem sc_7 : FnScope (["value", "left", "signs", "one", "deep"] : List Str) (List.take 1 (["value", "left", "signs", "one", "deep"] : List Str)) (defScope (at_ "is_kind")) := ⟨by kernel_rfl, by kernel_rfl, by kernel_rfl, by decide +kernel, by kernel_rfl, by decide +kernel, by decide +kernel⟩
theorem ok_7 : Ss.okS ⟨(["value", "left", "signs", "one", "deep"] : List Str), fs_, kws_⟩ (defScope (at_ "is_kind")) b7 = true := by kernel_rfl
theorem bd_7 (kV doc pm : Value) (an : Option Addr) (cdv ct : Value) (us : List Value) (hl : us.length = (List.take 1 (["value", "left", "signs", "one", "deep"] : List Str)).length) : bindArgs (PySem.W.fnOf "is_kind" "is_kind" (defArgs (at_ "is_kind")) (defBody (at_ "is_kind")) (defScope (at_ "is_kind")) .none kV doc pm an cdv ct) ⟨us, []⟩ = pure ((List.take 1 (["value", "left", "signs", "one", "deep"] : List Str)).zip us) := match us, hl with | [_], _ => rfl
theorem kw_7 (kV doc pm : Value) (an : Option Addr) (cdv ct : Value) : KwOk kws_ 7 (PySem.W.fnOf "is_kind" "is_kind" (defArgs (at_ "is_kind")) (defBody (at_ "is_kind")) (defScope (at_ "is_kind")) .none kV doc pm an cdv ct) (List.take 1 (["value", "left", "signs", "one", "deep"] : List Str)) := by
  intro n ks hm us zs h1 h2
  simp only [kws_, List.mem_cons, List.not_mem_nil, or_false, Prod.mk.injEq] at hm
  rcases hm with ⟨h, rfl, rfl⟩
  · match us, h1, zs, h2 with | [], _, [_], _ => exact ⟨_, rfl, fun s => .of_eq rfl⟩
theorem df_7 (X : K.In h) (G : h.Ns mainGlobals mg) (c : He.SaysD fa_ fn_ K) : DefOk K mg fs_ kws_ 7 ⟨"is_kind", (["value", "left", "signs", "one", "deep"] : List Str), 1, b7⟩ := by
  obtain ⟨fd, F⟩ := c.def_ 7 (d := dtD ⟨"is_kind", (["value", "left", "signs", "one", "deep"] : List Str), 1, b7⟩ (at_ "is_kind")) rfl
  exact def_of (st := at_ "is_kind") F (He.glo_ok X G (c.fact 7 (f := .glo "is_kind") rfl)) un_7 sc_7 ok_7 (by decide) bd_7 kw_7
end
section
variable {K : PySem.W.Frag} {h : Heap} {mg : Str → Option Value}
theorem un_8 : defBody (at_ "_law_pot") = Ss.un b8 := by kernel_rfl
theorem sc_8 : FnScope (["_law_script", "_law_k", "_law_cell"] : List Str) (List.take 2 (["_law_script", "_law_k", "_law_cell"] : List Str)) (defScope (at_ "_law_pot")) := ⟨by kernel_rfl, by kernel_rfl, by kernel_rfl, by decide +kernel, by kernel_rfl, by decide +kernel, by decide +kernel⟩
theorem ok_8 : Ss.okS ⟨(["_law_script", "_law_k", "_law_cell"] : List Str), fs_, kws_⟩ (defScope (at_ "_law_pot")) b8 = true := by kernel_rfl
theorem bd_8 (kV doc pm : Value) (an : Option Addr) (cdv ct : Value) (us : List Value) (hl : us.length = (List.take 2 (["_law_script", "_law_k", "_law_cell"] : List Str)).length) : bindArgs (PySem.W.fnOf "_law_pot" "_law_pot" (defArgs (at_ "_law_pot")) (defBody (at_ "_law_pot")) (defScope (at_ "_law_pot")) .none kV doc pm an cdv ct) ⟨us, []⟩ = pure ((List.take 2 (["_law_script", "_law_k", "_law_cell"] : List Str)).zip us) := match us, hl with | [_, _], _ => rfl
theorem kw_8 (kV doc pm : Value) (an : Option Addr) (cdv ct : Value) : KwOk kws_ 8 (PySem.W.fnOf "_law_pot" "_law_pot" (defArgs (at_ "_law_pot")) (defBody (at_ "_law_pot")) (defScope (at_ "_law_pot")) .none kV doc pm an cdv ct) (List.take 2 (["_law_script", "_law_k", "_law_cell"] : List Str)) := by
  intro n ks hm us zs h1 h2
  simp only [kws_, List.mem_cons, List.not_mem_nil, or_false, Prod.mk.injEq] at hm
  omega
theorem df_8 (X : K.In h) (G : h.Ns mainGlobals mg) (c : He.SaysD fa_ fn_ K) : DefOk K mg fs_ kws_ 8 ⟨"_law_pot", (["_law_script", "_law_k", "_law_cell"] : List Str), 2, b8⟩ := by
  obtain ⟨fd, F⟩ := c.def_ 8 (d := dtD ⟨"_law_pot", (["_law_script", "_law_k", "_law_cell"] : List Str), 2, b8⟩ (at_ "_law_pot")) rfl
  exact def_of (st := at_ "_law_pot") F (He.glo_ok X G (c.fact 8 (f := .glo "_law_pot") rfl)) un_8 sc_8 ok_8 (by decide) bd_8 kw_8
end
section
variable {K : PySem.W.Frag} {h : Heap} {mg : Str → Option Value}
theorem un_9 : defBody (at_ "_law_draw") = Ss.un b9 := by kernel_rfl
theorem sc_9 : FnScope (["_law_pot_here", "_law_size", "_law_digit"] : List Str) (List.take 2 (["_law_pot_here", "_law_size", "_law_digit"] : List Str)) (defScope (at_ "_law_draw")) := ⟨by kernel_rfl, by kernel_rfl, by kernel_rfl, by decide +kernel, by kernel_rfl, by decide +kernel, by decide +kernel⟩
theorem ok_9 : Ss.okS ⟨(["_law_pot_here", "_law_size", "_law_digit"] : List Str), fs_, kws_⟩ (defScope (at_ "_law_draw")) b9 = true := by kernel_rfl
theorem bd_9 (kV doc pm : Value) (an : Option Addr) (cdv ct : Value) (us : List Value) (hl : us.length = (List.take 2 (["_law_pot_here", "_law_size", "_law_digit"] : List Str)).length) : bindArgs (PySem.W.fnOf "_law_draw" "_law_draw" (defArgs (at_ "_law_draw")) (defBody (at_ "_law_draw")) (defScope (at_ "_law_draw")) .none kV doc pm an cdv ct) ⟨us, []⟩ = pure ((List.take 2 (["_law_pot_here", "_law_size", "_law_digit"] : List Str)).zip us) := match us, hl with | [_, _], _ => rfl
theorem kw_9 (kV doc pm : Value) (an : Option Addr) (cdv ct : Value) : KwOk kws_ 9 (PySem.W.fnOf "_law_draw" "_law_draw" (defArgs (at_ "_law_draw")) (defBody (at_ "_law_draw")) (defScope (at_ "_law_draw")) .none kV doc pm an cdv ct) (List.take 2 (["_law_pot_here", "_law_size", "_law_digit"] : List Str)) := by
  intro n ks hm us zs h1 h2
  simp only [kws_, List.mem_cons, List.not_mem_nil, or_false, Prod.mk.injEq] at hm
  omega
theorem df_9 (X : K.In h) (G : h.Ns mainGlobals mg) (c : He.SaysD fa_ fn_ K) : DefOk K mg fs_ kws_ 9 ⟨"_law_draw", (["_law_pot_here", "_law_size", "_law_digit"] : List Str), 2, b9⟩ := by
  obtain ⟨fd, F⟩ := c.def_ 9 (d := dtD ⟨"_law_draw", (["_law_pot_here", "_law_size", "_law_digit"] : List Str), 2, b9⟩ (at_ "_law_draw")) rfl
  exact def_of (st := at_ "_law_draw") F (He.glo_ok X G (c.fact 9 (f := .glo "_law_draw") rfl)) un_9 sc_9 ok_9 (by decide) bd_9 kw_9
end
section
variable {K : PySem.W.Frag} {h : Heap} {mg : Str → Option Value}
theorem un_10 : defBody (at_ "_law_pick") = Ss.un b10 := by kernel_rfl
theorem sc_10 : FnScope (["_law_pot_here", "_law_some"] : List Str) (List.take 2 (["_law_pot_here", "_law_some"] : List Str)) (defScope (at_ "_law_pick")) := ⟨by kernel_rfl, by kernel_rfl, by kernel_rfl, by decide +kernel, by kernel_rfl, by decide +kernel, by decide +kernel⟩
theorem ok_10 : Ss.okS ⟨(["_law_pot_here", "_law_some"] : List Str), fs_, kws_⟩ (defScope (at_ "_law_pick")) b10 = true := by kernel_rfl
theorem bd_10 (kV doc pm : Value) (an : Option Addr) (cdv ct : Value) (us : List Value) (hl : us.length = (List.take 2 (["_law_pot_here", "_law_some"] : List Str)).length) : bindArgs (PySem.W.fnOf "_law_pick" "_law_pick" (defArgs (at_ "_law_pick")) (defBody (at_ "_law_pick")) (defScope (at_ "_law_pick")) .none kV doc pm an cdv ct) ⟨us, []⟩ = pure ((List.take 2 (["_law_pot_here", "_law_some"] : List Str)).zip us) := match us, hl with | [_, _], _ => rfl
theorem kw_10 (kV doc pm : Value) (an : Option Addr) (cdv ct : Value) : KwOk kws_ 10 (PySem.W.fnOf "_law_pick" "_law_pick" (defArgs (at_ "_law_pick")) (defBody (at_ "_law_pick")) (defScope (at_ "_law_pick")) .none kV doc pm an cdv ct) (List.take 2 (["_law_pot_here", "_law_some"] : List Str)) := by
  intro n ks hm us zs h1 h2
  simp only [kws_, List.mem_cons, List.not_mem_nil, or_false, Prod.mk.injEq] at hm
  omega
theorem df_10 (X : K.In h) (G : h.Ns mainGlobals mg) (c : He.SaysD fa_ fn_ K) : DefOk K mg fs_ kws_ 10 ⟨"_law_pick", (["_law_pot_here", "_law_some"] : List Str), 2, b10⟩ := by
  obtain ⟨fd, F⟩ := c.def_ 10 (d := dtD ⟨"_law_pick", (["_law_pot_here", "_law_some"] : List Str), 2, b10⟩ (at_ "_law_pick")) rfl
  exact def_of (st := at_ "_law_pick") F (He.glo_ok X G (c.fact 10 (f := .glo "_law_pick") rfl)) un_10 sc_10 ok_10 (by decide) bd_10 kw_10
end
section
variable {K : PySem.W.Frag} {h : Heap} {mg : Str → Option Value}
theorem un_11 : defBody (at_ "_law_signs") = Ss.un b11 := by kernel_rfl
theorem sc_11 : FnScope (["_law_kind_here"] : List Str) (List.take 1 (["_law_kind_here"] : List Str)) (defScope (at_ "_law_signs")) := ⟨by kernel_rfl, by kernel_rfl, by kernel_rfl, by decide +kernel, by kernel_rfl, by decide +kernel, by decide +kernel⟩
theorem ok_11 : Ss.okS ⟨(["_law_kind_here"] : List Str), fs_, kws_⟩ (defScope (at_ "_law_signs")) b11 = true := by kernel_rfl
theorem bd_11 (kV doc pm : Value) (an : Option Addr) (cdv ct : Value) (us : List Value) (hl : us.length = (List.take 1 (["_law_kind_here"] : List Str)).length) : bindArgs (PySem.W.fnOf "_law_signs" "_law_signs" (defArgs (at_ "_law_signs")) (defBody (at_ "_law_signs")) (defScope (at_ "_law_signs")) .none kV doc pm an cdv ct) ⟨us, []⟩ = pure ((List.take 1 (["_law_kind_here"] : List Str)).zip us) := match us, hl with | [_], _ => rfl
theorem kw_11 (kV doc pm : Value) (an : Option Addr) (cdv ct : Value) : KwOk kws_ 11 (PySem.W.fnOf "_law_signs" "_law_signs" (defArgs (at_ "_law_signs")) (defBody (at_ "_law_signs")) (defScope (at_ "_law_signs")) .none kV doc pm an cdv ct) (List.take 1 (["_law_kind_here"] : List Str)) := by
  intro n ks hm us zs h1 h2
  simp only [kws_, List.mem_cons, List.not_mem_nil, or_false, Prod.mk.injEq] at hm
  omega
theorem df_11 (X : K.In h) (G : h.Ns mainGlobals mg) (c : He.SaysD fa_ fn_ K) : DefOk K mg fs_ kws_ 11 ⟨"_law_signs", (["_law_kind_here"] : List Str), 1, b11⟩ := by
  obtain ⟨fd, F⟩ := c.def_ 11 (d := dtD ⟨"_law_signs", (["_law_kind_here"] : List Str), 1, b11⟩ (at_ "_law_signs")) rfl
  exact def_of (st := at_ "_law_signs") F (He.glo_ok X G (c.fact 11 (f := .glo "_law_signs") rfl)) un_11 sc_11 ok_11 (by decide) bd_11 kw_11
end
section
variable {K : PySem.W.Frag} {h : Heap} {mg : Str → Option Value}
theorem un_12 : defBody (at_ "_law_kind") = Ss.un b12 := by kernel_rfl
theorem sc_12 : FnScope (["_law_pot_here", "_law_deep", "_law_way", "_law_near"] : List Str) (List.take 2 (["_law_pot_here", "_law_deep", "_law_way", "_law_near"] : List Str)) (defScope (at_ "_law_kind")) := ⟨by kernel_rfl, by kernel_rfl, by kernel_rfl, by decide +kernel, by kernel_rfl, by decide +kernel, by decide +kernel⟩
theorem ok_12 : Ss.okS ⟨(["_law_pot_here", "_law_deep", "_law_way", "_law_near"] : List Str), fs_, kws_⟩ (defScope (at_ "_law_kind")) b12 = true := by kernel_rfl
theorem bd_12 (kV doc pm : Value) (an : Option Addr) (cdv ct : Value) (us : List Value) (hl : us.length = (List.take 2 (["_law_pot_here", "_law_deep", "_law_way", "_law_near"] : List Str)).length) : bindArgs (PySem.W.fnOf "_law_kind" "_law_kind" (defArgs (at_ "_law_kind")) (defBody (at_ "_law_kind")) (defScope (at_ "_law_kind")) .none kV doc pm an cdv ct) ⟨us, []⟩ = pure ((List.take 2 (["_law_pot_here", "_law_deep", "_law_way", "_law_near"] : List Str)).zip us) := match us, hl with | [_, _], _ => rfl
theorem kw_12 (kV doc pm : Value) (an : Option Addr) (cdv ct : Value) : KwOk kws_ 12 (PySem.W.fnOf "_law_kind" "_law_kind" (defArgs (at_ "_law_kind")) (defBody (at_ "_law_kind")) (defScope (at_ "_law_kind")) .none kV doc pm an cdv ct) (List.take 2 (["_law_pot_here", "_law_deep", "_law_way", "_law_near"] : List Str)) := by
  intro n ks hm us zs h1 h2
  simp only [kws_, List.mem_cons, List.not_mem_nil, or_false, Prod.mk.injEq] at hm
  omega
theorem df_12 (X : K.In h) (G : h.Ns mainGlobals mg) (c : He.SaysD fa_ fn_ K) : DefOk K mg fs_ kws_ 12 ⟨"_law_kind", (["_law_pot_here", "_law_deep", "_law_way", "_law_near"] : List Str), 2, b12⟩ := by
  obtain ⟨fd, F⟩ := c.def_ 12 (d := dtD ⟨"_law_kind", (["_law_pot_here", "_law_deep", "_law_way", "_law_near"] : List Str), 2, b12⟩ (at_ "_law_kind")) rfl
  exact def_of (st := at_ "_law_kind") F (He.glo_ok X G (c.fact 12 (f := .glo "_law_kind") rfl)) un_12 sc_12 ok_12 (by decide) bd_12 kw_12
end
section
variable {K : PySem.W.Frag} {h : Heap} {mg : Str → Option Value}
theorem un_13 : defBody (at_ "_law_is_kind") = Ss.un b13 := by kernel_rfl
theorem sc_13 : FnScope (["_law_value", "_law_deep"] : List Str) (List.take 2 (["_law_value", "_law_deep"] : List Str)) (defScope (at_ "_law_is_kind")) := ⟨by kernel_rfl, by kernel_rfl, by kernel_rfl, by decide +kernel, by kernel_rfl, by decide +kernel, by decide +kernel⟩
theorem ok_13 : Ss.okS ⟨(["_law_value", "_law_deep"] : List Str), fs_, kws_⟩ (defScope (at_ "_law_is_kind")) b13 = true := by kernel_rfl
theorem bd_13 (kV doc pm : Value) (an : Option Addr) (cdv ct : Value) (us : List Value) (hl : us.length = (List.take 2 (["_law_value", "_law_deep"] : List Str)).length) : bindArgs (PySem.W.fnOf "_law_is_kind" "_law_is_kind" (defArgs (at_ "_law_is_kind")) (defBody (at_ "_law_is_kind")) (defScope (at_ "_law_is_kind")) .none kV doc pm an cdv ct) ⟨us, []⟩ = pure ((List.take 2 (["_law_value", "_law_deep"] : List Str)).zip us) := match us, hl with | [_, _], _ => rfl
theorem kw_13 (kV doc pm : Value) (an : Option Addr) (cdv ct : Value) : KwOk kws_ 13 (PySem.W.fnOf "_law_is_kind" "_law_is_kind" (defArgs (at_ "_law_is_kind")) (defBody (at_ "_law_is_kind")) (defScope (at_ "_law_is_kind")) .none kV doc pm an cdv ct) (List.take 2 (["_law_value", "_law_deep"] : List Str)) := by
  intro n ks hm us zs h1 h2
  simp only [kws_, List.mem_cons, List.not_mem_nil, or_false, Prod.mk.injEq] at hm
  omega
theorem df_13 (X : K.In h) (G : h.Ns mainGlobals mg) (c : He.SaysD fa_ fn_ K) : DefOk K mg fs_ kws_ 13 ⟨"_law_is_kind", (["_law_value", "_law_deep"] : List Str), 2, b13⟩ := by
  obtain ⟨fd, F⟩ := c.def_ 13 (d := dtD ⟨"_law_is_kind", (["_law_value", "_law_deep"] : List Str), 2, b13⟩ (at_ "_law_is_kind")) rfl
  exact def_of (st := at_ "_law_is_kind") F (He.glo_ok X G (c.fact 13 (f := .glo "_law_is_kind") rfl)) un_13 sc_13 ok_13 (by decide) bd_13 kw_13
end
section
variable {K : PySem.W.Frag} {h : Heap} {mg : Str → Option Value}
theorem un_14 : defBody (at_ "_law_bent") = Ss.un b14 := by kernel_rfl
theorem sc_14 : FnScope (["_law_pot_here", "_law_kind_here", "_law_odd"] : List Str) (List.take 3 (["_law_pot_here", "_law_kind_here", "_law_odd"] : List Str)) (defScope (at_ "_law_bent")) := ⟨by kernel_rfl, by kernel_rfl, by kernel_rfl, by decide +kernel, by kernel_rfl, by decide +kernel, by decide +kernel⟩
theorem ok_14 : Ss.okS ⟨(["_law_pot_here", "_law_kind_here", "_law_odd"] : List Str), fs_, kws_⟩ (defScope (at_ "_law_bent")) b14 = true := by kernel_rfl
theorem bd_14 (kV doc pm : Value) (an : Option Addr) (cdv ct : Value) (us : List Value) (hl : us.length = (List.take 3 (["_law_pot_here", "_law_kind_here", "_law_odd"] : List Str)).length) : bindArgs (PySem.W.fnOf "_law_bent" "_law_bent" (defArgs (at_ "_law_bent")) (defBody (at_ "_law_bent")) (defScope (at_ "_law_bent")) .none kV doc pm an cdv ct) ⟨us, []⟩ = pure ((List.take 3 (["_law_pot_here", "_law_kind_here", "_law_odd"] : List Str)).zip us) := match us, hl with | [_, _, _], _ => rfl
theorem kw_14 (kV doc pm : Value) (an : Option Addr) (cdv ct : Value) : KwOk kws_ 14 (PySem.W.fnOf "_law_bent" "_law_bent" (defArgs (at_ "_law_bent")) (defBody (at_ "_law_bent")) (defScope (at_ "_law_bent")) .none kV doc pm an cdv ct) (List.take 3 (["_law_pot_here", "_law_kind_here", "_law_odd"] : List Str)) := by
  intro n ks hm us zs h1 h2
  simp only [kws_, List.mem_cons, List.not_mem_nil, or_false, Prod.mk.injEq] at hm
  omega
theorem df_14 (X : K.In h) (G : h.Ns mainGlobals mg) (c : He.SaysD fa_ fn_ K) : DefOk K mg fs_ kws_ 14 ⟨"_law_bent", (["_law_pot_here", "_law_kind_here", "_law_odd"] : List Str), 3, b14⟩ := by
  obtain ⟨fd, F⟩ := c.def_ 14 (d := dtD ⟨"_law_bent", (["_law_pot_here", "_law_kind_here", "_law_odd"] : List Str), 3, b14⟩ (at_ "_law_bent")) rfl
  exact def_of (st := at_ "_law_bent") F (He.glo_ok X G (c.fact 14 (f := .glo "_law_bent") rfl)) un_14 sc_14 ok_14 (by decide) bd_14 kw_14
end
section
variable {K : PySem.W.Frag} {h : Heap} {mg : Str → Option Value}
theorem un_15 : defBody (at_ "_law_right") = Ss.un b15 := by kernel_rfl
theorem sc_15 : FnScope (["_law_pot_here", "_law_kind_here", "_law_values", "_law_odd", "_law_tower", "_law_wide", "_law_turn", "_law_value", "_law_whole", "_law_due"] : List Str) (List.take 1 (["_law_pot_here", "_law_kind_here", "_law_values", "_law_odd", "_law_tower", "_law_wide", "_law_turn", "_law_value", "_law_whole", "_law_due"] : List Str)) (defScope (at_ "_law_right")) := ⟨by kernel_rfl, by kernel_rfl, by kernel_rfl, by decide +kernel, by kernel_rfl, by decide +kernel, by decide +kernel⟩
theorem ok_15 : Ss.okS ⟨(["_law_pot_here", "_law_kind_here", "_law_values", "_law_odd", "_law_tower", "_law_wide", "_law_turn", "_law_value", "_law_whole", "_law_due"] : List Str), fs_, kws_⟩ (defScope (at_ "_law_right")) b15 = true := by kernel_rfl
theorem bd_15 (kV doc pm : Value) (an : Option Addr) (cdv ct : Value) (us : List Value) (hl : us.length = (List.take 1 (["_law_pot_here", "_law_kind_here", "_law_values", "_law_odd", "_law_tower", "_law_wide", "_law_turn", "_law_value", "_law_whole", "_law_due"] : List Str)).length) : bindArgs (PySem.W.fnOf "_law_right" "_law_right" (defArgs (at_ "_law_right")) (defBody (at_ "_law_right")) (defScope (at_ "_law_right")) .none kV doc pm an cdv ct) ⟨us, []⟩ = pure ((List.take 1 (["_law_pot_here", "_law_kind_here", "_law_values", "_law_odd", "_law_tower", "_law_wide", "_law_turn", "_law_value", "_law_whole", "_law_due"] : List Str)).zip us) := match us, hl with | [_], _ => rfl
theorem kw_15 (kV doc pm : Value) (an : Option Addr) (cdv ct : Value) : KwOk kws_ 15 (PySem.W.fnOf "_law_right" "_law_right" (defArgs (at_ "_law_right")) (defBody (at_ "_law_right")) (defScope (at_ "_law_right")) .none kV doc pm an cdv ct) (List.take 1 (["_law_pot_here", "_law_kind_here", "_law_values", "_law_odd", "_law_tower", "_law_wide", "_law_turn", "_law_value", "_law_whole", "_law_due"] : List Str)) := by
  intro n ks hm us zs h1 h2
  simp only [kws_, List.mem_cons, List.not_mem_nil, or_false, Prod.mk.injEq] at hm
  omega
theorem df_15 (X : K.In h) (G : h.Ns mainGlobals mg) (c : He.SaysD fa_ fn_ K) : DefOk K mg fs_ kws_ 15 ⟨"_law_right", (["_law_pot_here", "_law_kind_here", "_law_values", "_law_odd", "_law_tower", "_law_wide", "_law_turn", "_law_value", "_law_whole", "_law_due"] : List Str), 1, b15⟩ := by
  obtain ⟨fd, F⟩ := c.def_ 15 (d := dtD ⟨"_law_right", (["_law_pot_here", "_law_kind_here", "_law_values", "_law_odd", "_law_tower", "_law_wide", "_law_turn", "_law_value", "_law_whole", "_law_due"] : List Str), 1, b15⟩ (at_ "_law_right")) rfl
  exact def_of (st := at_ "_law_right") F (He.glo_ok X G (c.fact 15 (f := .glo "_law_right") rfl)) un_15 sc_15 ok_15 (by decide) bd_15 kw_15
end
section
variable {K : PySem.W.Frag} {h : Heap} {mg : Str → Option Value}
theorem un_16 : defBody (at_ "law") = Ss.un b16 := by kernel_rfl
theorem sc_16 : FnScope (["_law_script"] : List Str) (List.take 1 (["_law_script"] : List Str)) (defScope (at_ "law")) := ⟨by kernel_rfl, by kernel_rfl, by kernel_rfl, by decide +kernel, by kernel_rfl, by decide +kernel, by decide +kernel⟩
theorem ok_16 : Ss.okS ⟨(["_law_script"] : List Str), fs_, kws_⟩ (defScope (at_ "law")) b16 = true := by kernel_rfl
theorem bd_16 (kV doc pm : Value) (an : Option Addr) (cdv ct : Value) (us : List Value) (hl : us.length = (List.take 1 (["_law_script"] : List Str)).length) : bindArgs (PySem.W.fnOf "law" "law" (defArgs (at_ "law")) (defBody (at_ "law")) (defScope (at_ "law")) .none kV doc pm an cdv ct) ⟨us, []⟩ = pure ((List.take 1 (["_law_script"] : List Str)).zip us) := match us, hl with | [_], _ => rfl
theorem kw_16 (kV doc pm : Value) (an : Option Addr) (cdv ct : Value) : KwOk kws_ 16 (PySem.W.fnOf "law" "law" (defArgs (at_ "law")) (defBody (at_ "law")) (defScope (at_ "law")) .none kV doc pm an cdv ct) (List.take 1 (["_law_script"] : List Str)) := by
  intro n ks hm us zs h1 h2
  simp only [kws_, List.mem_cons, List.not_mem_nil, or_false, Prod.mk.injEq] at hm
  omega
theorem df_16 (X : K.In h) (G : h.Ns mainGlobals mg) (c : He.SaysD fa_ fn_ K) : DefOk K mg fs_ kws_ 16 ⟨"law", (["_law_script"] : List Str), 1, b16⟩ := by
  obtain ⟨fd, F⟩ := c.def_ 16 (d := dtD ⟨"law", (["_law_script"] : List Str), 1, b16⟩ (at_ "law")) rfl
  exact def_of (st := at_ "law") F (He.glo_ok X G (c.fact 16 (f := .glo "law") rfl)) un_16 sc_16 ok_16 (by decide) bd_16 kw_16
end
section
variable {K : PySem.W.Frag} {h : Heap} {mg : Str → Option Value}
theorem sys_ (X : K.In h) (G : h.Ns mainGlobals mg) (c : He.SaysD fa_ fn_ K) : Sys K mg pg kws_ := by
  refine sys_of (cs := csts) X G c rfl rfl (by decide +kernel) fun i d e => ?_
  match i, e with
  | 0, e => cases e; exact df_0 X G c
  | 1, e => cases e; exact df_1 X G c
  | 2, e => cases e; exact df_2 X G c
  | 3, e => cases e; exact df_3 X G c
  | 4, e => cases e; exact df_4 X G c
  | 5, e => cases e; exact df_5 X G c
  | 6, e => cases e; exact df_6 X G c
  | 7, e => cases e; exact df_7 X G c
  | 8, e => cases e; exact df_8 X G c
  | 9, e => cases e; exact df_9 X G c
  | 10, e => cases e; exact df_10 X G c
  | 11, e => cases e; exact df_11 X G c
  | 12, e => cases e; exact df_12 X G c
  | 13, e => cases e; exact df_13 X G c
  | 14, e => cases e; exact df_14 X G c
  | 15, e => cases e; exact df_15 X G c
  | 16, e => cases e; exact df_16 X G c
  | n + 17, e => cases e
end
theorem bindlaw_ {K : PySem.W.Frag} {h : Heap} {mg : Str → Option Value} {g : Addr} {pars : Arguments} {sc : Scope} {fd : FuncData} (c : He.SaysD fa_ fn_ K) (X : K.In h) (G : h.Ns mainGlobals mg) (hg : mg "law" = some (.ref g)) (F : FunD K "law" "law" pars (Ss.un b16) sc [] [] g fd) (s : Shared) (u : Value) : BindsTo s fd ⟨[u], []⟩ [("_law_script", u)] := by
  obtain ⟨fd2, F2⟩ := c.def_ 16 (d := dtD ⟨"law", (["_law_script"] : List Str), 1, b16⟩ (at_ "law")) rfl
  have e := He.glo_ok X G (c.fact 16 (f := .glo "law") rfl)
  rw [hg] at e
  cases e
  have b := FunD.bindsA (ps := List.take 1 (["_law_script"] : List Str)) F2 bd_16
  obtain ⟨_, _, _, _, _, _, _, _, _, _, e1, l1, _⟩ := F.ex
  obtain ⟨_, _, _, _, _, _, _, _, _, _, e2, l2, _⟩ := F2.ex
  have ee := l1.symm.trans l2
  cases ee
  exact b s [u] rfl
end K12

set_option maxHeartbeats 4000000
namespace K12
open PySem Ev
theorem lineN_small {n : Nat} (h : n ≤ 1000) : lineN n = true := by
  unfold lineN
  rw [sizeLine_eq]
  exact decide_eq_true (by omega)
/-- values without parts that change -/
inductive PV : W → Prop
  | non : PV .non
  | bl (b : Bool) : PV (.bl b)
  | int (i : Int) : PV (.int i)
  | str (s : Str) : PyData.strOk s = true → PV (.str s)
  | emp : PV .emp
  | tup (ws : List W) : (∀ w ∈ ws, PV w) → PV (.tup ws)
  | lst (ws : List W) : (∀ w ∈ ws, PV w) → PV (.lst ws)
def isIn : W → Bool
  | .int _ => true
  | _ => false
def isCn : W → Bool
  | .int i => decide (0 ≤ i)
  | _ => false
def isLs : W → Bool
  | .lst _ => true
  | .tup _ => true
  | _ => false
variable {k : Nat} {h : Obs} {w : W}
theorem t0 (p : PV w) : pg.T (k+1) 0 [w] h = .ok (.bl (isIn w)) h := by cases p <;> rfl
theorem t1 (p : PV w) : pg.T (k+2) 1 [w] h = .ok (.bl (isCn w)) h := by
  cases p with
  | int i =>
    show Df.run ⟨"is_count", ["value"], 1, b1⟩ ⟨pg.T (k+1), pg.cst, pg.par⟩ [.int i] h = _
    have e := t0 (k := k) (h := h) (.int i)
    simp [b1, e, isIn, isCn, Df.run, Ss.den, S.den, E.den, Es.den, Es.bo, Es.bt, Eo.den, Eo.tst, E.tst, It.den, R.bind, R.out, R.opt, startS, slotV, slotP, W.now, cmpW, intsW, idxW, L2.atI, L2.ixN, bltW, on1, on2, ifB, Tg.den, Tgs.den, tgo, binW, addW, intW, absW, lenW, truW, tyW, isTy, E.give, E.fresh, W.isNon, lineN_small]
  | _ => rfl
theorem t2 (p : PV w) : pg.T (k+1) 2 [w] h = .ok (.bl (isLs w)) h := by cases p <;> rfl
/-- words -/
def isWd (s : Str) : Bool := decide (s = "pair") || (decide (s = "sum") || decide (s = "fun"))
def isBr : W → Bool
  | .tup [.str s, _, _] => isWd s
  | _ => false
def isLf : W → Bool
  | .tup [.str s] => decide (s = "count")
  | .tup [.str s, .int i] => decide (s = "letter") && (decide (0 ≤ i) && decide (i ≤ 5))
  | _ => false
theorem eqS {s t : Str} (hs : PyData.strOk s = true) (ht : PyData.strOk t = true) : eqW (.str s) (.str t) = some (decide (s = t)) := by
  have z : ∀ s : Str, PyData.strOk s = true → SeqAt.shaped (PyData.str s) = true := fun s hs => by
    show (PyData.strOk s && true) = true
    rw [hs]
    rfl
  by_cases e : s = t
  · subst e
    simp [eqW, W.dat, z, hs, PyData.eqv]
  · simp [eqW, W.dat, z, hs, ht, PyData.eqv, e]
theorem wOk : PyData.strOk "letter" = true ∧ PyData.strOk "count" = true ∧ PyData.strOk "pair" = true ∧ PyData.strOk "sum" = true ∧ PyData.strOk "fun" = true := by decide +kernel
theorem eqN (i j : Int) : eqW (.int i) (.int j) = some (decide (i = j)) := by
  have z : ∀ s : Int, SeqAt.shaped (PyData.int s) = true := fun s => rfl
  by_cases e : i = j
  · subst e
    simp [eqW, W.dat, z, PyData.eqv]
  · simp [eqW, W.dat, z, PyData.eqv, e]
theorem t5 (p : PV w) : pg.T (k+3) 5 [w] h = .ok (.bl (match w with | .int i => decide (0 ≤ i) && decide (i ≤ 5) | _ => false)) h := by
  show Df.run ⟨"is_letter", ["value"], 1, b5⟩ ⟨pg.T (k+2), pg.cst, pg.par⟩ [w] h = _
  have e := t1 (k := k) (h := h) p
  have c : pg.cst "MOST_LETTER" = some (.int 5) := rfl
  cases p with
  | int i =>
    by_cases hi : 0 ≤ i <;> simp [b5, e, isCn, hi, c, Df.run, Ss.den, S.den, E.den, Es.den, Es.bo, Es.bt, Eo.den, Eo.tst, E.tst, It.den, R.bind, R.out, R.opt, startS, slotV, slotP, W.now, cmpW, intsW, idxW, L2.atI, L2.ixN, bltW, on1, on2, ifB, Tg.den, Tgs.den, tgo, binW, addW, intW, absW, lenW, truW, tyW, isTy, E.give, E.fresh, W.isNon, lineN_small]
  | _ => simp [b5, e, isCn, Df.run, Ss.den, S.den, E.den, Es.den, Es.bo, Es.bt, Eo.den, Eo.tst, E.tst, It.den, R.bind, R.out, R.opt, startS, slotV, slotP, W.now, cmpW, intsW, idxW, L2.atI, L2.ixN, bltW, on1, on2, ifB, Tg.den, Tgs.den, tgo, binW, addW, intW, absW, lenW, truW, tyW, isTy, E.give, E.fresh, W.isNon, lineN_small]
theorem t4 (p : PV w) : pg.T (k+1) 4 [w] h = .ok (.bl (match w with | .str s => decide (s = "letter") | _ => false)) h := by
  show Df.run ⟨"is_letter_word", ["value"], 1, b4⟩ ⟨pg.T k, pg.cst, pg.par⟩ [w] h = _
  have c : pg.cst "LETTER" = some (.str "letter") := rfl
  cases p with
  | str s hs => simp [b4, c, eqS hs wOk.1, Df.run, Ss.den, S.den, E.den, Es.den, Es.bo, Es.bt, Eo.den, Eo.tst, E.tst, It.den, R.bind, R.out, R.opt, startS, slotV, slotP, W.now, cmpW, intsW, idxW, L2.atI, L2.ixN, bltW, on1, on2, ifB, Tg.den, Tgs.den, tgo, binW, addW, intW, absW, lenW, truW, tyW, isTy, E.give, E.fresh, W.isNon, lineN_small]
  | _ => simp [b4, Df.run, Ss.den, S.den, E.den, Es.den, Es.bo, Es.bt, Eo.den, Eo.tst, E.tst, It.den, R.bind, R.out, R.opt, startS, slotV, slotP, W.now, cmpW, intsW, idxW, L2.atI, L2.ixN, bltW, on1, on2, ifB, Tg.den, Tgs.den, tgo, binW, addW, intW, absW, lenW, truW, tyW, isTy, E.give, E.fresh, W.isNon, lineN_small]
theorem t6 (p : PV w) : pg.T (k+1) 6 [w] h = .ok (.bl (isBr w)) h := by
  show Df.run ⟨"is_branch", ["value"], 1, b6⟩ ⟨pg.T k, pg.cst, pg.par⟩ [w] h = _
  have c1 : pg.cst "PAIR" = some (.str "pair") := rfl
  have c2 : pg.cst "SUM" = some (.str "sum") := rfl
  have c3 : pg.cst "FUN" = some (.str "fun") := rfl
  cases p with
  | tup ws q =>
    match ws with
    | [] => simp [b6, eqN, isBr, Df.run, Ss.den, S.den, E.den, Es.den, Es.bo, Es.bt, Eo.den, Eo.tst, E.tst, It.den, R.bind, R.out, R.opt, startS, slotV, slotP, W.now, cmpW, intsW, idxW, L2.atI, L2.ixN, bltW, on1, on2, ifB, Tg.den, Tgs.den, tgo, binW, addW, intW, absW, lenW, truW, tyW, isTy, E.give, E.fresh, W.isNon, lineN_small]
    | [a] => simp [b6, eqN, isBr, Df.run, Ss.den, S.den, E.den, Es.den, Es.bo, Es.bt, Eo.den, Eo.tst, E.tst, It.den, R.bind, R.out, R.opt, startS, slotV, slotP, W.now, cmpW, intsW, idxW, L2.atI, L2.ixN, bltW, on1, on2, ifB, Tg.den, Tgs.den, tgo, binW, addW, intW, absW, lenW, truW, tyW, isTy, E.give, E.fresh, W.isNon, lineN_small]
    | [a, b] => simp [b6, eqN, isBr, Df.run, Ss.den, S.den, E.den, Es.den, Es.bo, Es.bt, Eo.den, Eo.tst, E.tst, It.den, R.bind, R.out, R.opt, startS, slotV, slotP, W.now, cmpW, intsW, idxW, L2.atI, L2.ixN, bltW, on1, on2, ifB, Tg.den, Tgs.den, tgo, binW, addW, intW, absW, lenW, truW, tyW, isTy, E.give, E.fresh, W.isNon, lineN_small]
    | [a, b, c] =>
      have pa := q a (by simp)
      cases pa with
      | str s hs =>
        have e : ∀ t : Str, L2.eqV (.str t) (.str s) = decide (s = t) := fun t => by
          show (t == s) = decide (s = t)
          by_cases z : s = t
          · subst z; simp
          · rw [decide_eq_false z]; exact beq_false_of_ne (fun y => z y.symm)
        simp [b6, eqN, isBr, isWd, c1, c2, c3, inW, W.flat, flats, L2.inV, e, Df.run, Ss.den, S.den, E.den, Es.den, Es.bo, Es.bt, Eo.den, Eo.tst, E.tst, It.den, R.bind, R.out, R.opt, startS, slotV, slotP, W.now, cmpW, intsW, idxW, L2.atI, L2.ixN, bltW, on1, on2, ifB, Tg.den, Tgs.den, tgo, binW, addW, intW, absW, lenW, truW, tyW, isTy, E.give, E.fresh, W.isNon, lineN_small]
      | _ => simp [b6, eqN, isBr, Df.run, Ss.den, S.den, E.den, Es.den, Es.bo, Es.bt, Eo.den, Eo.tst, E.tst, It.den, R.bind, R.out, R.opt, startS, slotV, slotP, W.now, cmpW, intsW, idxW, L2.atI, L2.ixN, bltW, on1, on2, ifB, Tg.den, Tgs.den, tgo, binW, addW, intW, absW, lenW, truW, tyW, isTy, E.give, E.fresh, W.isNon, lineN_small]
    | a :: b :: c :: d :: ws =>
      have e : ¬ ((ws.length : Int) + 1 + 1 + 1 + 1 = 3) := by omega
      simp [b6, eqN, isBr, e, Df.run, Ss.den, S.den, E.den, Es.den, Es.bo, Es.bt, Eo.den, Eo.tst, E.tst, It.den, R.bind, R.out, R.opt, startS, slotV, slotP, W.now, cmpW, intsW, idxW, L2.atI, L2.ixN, bltW, on1, on2, ifB, Tg.den, Tgs.den, tgo, binW, addW, intW, absW, lenW, truW, tyW, isTy, E.give, E.fresh, W.isNon, lineN_small]
  | _ => simp [b6, isBr, Df.run, Ss.den, S.den, E.den, Es.den, Es.bo, Es.bt, Eo.den, Eo.tst, E.tst, It.den, R.bind, R.out, R.opt, startS, slotV, slotP, W.now, cmpW, intsW, idxW, L2.atI, L2.ixN, bltW, on1, on2, ifB, Tg.den, Tgs.den, tgo, binW, addW, intW, absW, lenW, truW, tyW, isTy, E.give, E.fresh, W.isNon, lineN_small]
theorem t3 (p : PV w) : pg.T (k+4) 3 [w] h = .ok (.bl (isLf w)) h := by
  show Df.run ⟨"is_leaf", ["value"], 1, b3⟩ ⟨pg.T (k+3), pg.cst, pg.par⟩ [w] h = _
  have c : pg.cst "TELLING" = some (.str "count") := rfl
  cases p with
  | tup ws q =>
    match ws with
    | [] => simp [b3, eqN, isLf, Df.run, Ss.den, S.den, E.den, Es.den, Es.bo, Es.bt, Eo.den, Eo.tst, E.tst, It.den, R.bind, R.out, R.opt, startS, slotV, slotP, W.now, cmpW, intsW, idxW, L2.atI, L2.ixN, bltW, on1, on2, ifB, Tg.den, Tgs.den, tgo, binW, addW, intW, absW, lenW, truW, tyW, isTy, E.give, E.fresh, W.isNon, lineN_small]
    | [a] =>
      have pa := q a (by simp)
      cases pa with
      | str s hs => simp [b3, eqN, isLf, c, eqS hs wOk.2.1, Df.run, Ss.den, S.den, E.den, Es.den, Es.bo, Es.bt, Eo.den, Eo.tst, E.tst, It.den, R.bind, R.out, R.opt, startS, slotV, slotP, W.now, cmpW, intsW, idxW, L2.atI, L2.ixN, bltW, on1, on2, ifB, Tg.den, Tgs.den, tgo, binW, addW, intW, absW, lenW, truW, tyW, isTy, E.give, E.fresh, W.isNon, lineN_small]
      | _ => simp [b3, eqN, isLf, Df.run, Ss.den, S.den, E.den, Es.den, Es.bo, Es.bt, Eo.den, Eo.tst, E.tst, It.den, R.bind, R.out, R.opt, startS, slotV, slotP, W.now, cmpW, intsW, idxW, L2.atI, L2.ixN, bltW, on1, on2, ifB, Tg.den, Tgs.den, tgo, binW, addW, intW, absW, lenW, truW, tyW, isTy, E.give, E.fresh, W.isNon, lineN_small]
    | [a, b] =>
      have pa := q a (by simp)
      have pb := q b (by simp)
      have e4 := t4 (k := k + 2) (h := h) pa
      have e5 := t5 (k := k) (h := h) pb
      cases pa with
      | str s hs =>
        by_cases hl : s = "letter"
        · subst hl
          cases pb with
          | int i => simp [b3, eqN, isLf, e4, e5, Df.run, Ss.den, S.den, E.den, Es.den, Es.bo, Es.bt, Eo.den, Eo.tst, E.tst, It.den, R.bind, R.out, R.opt, startS, slotV, slotP, W.now, cmpW, intsW, idxW, L2.atI, L2.ixN, bltW, on1, on2, ifB, Tg.den, Tgs.den, tgo, binW, addW, intW, absW, lenW, truW, tyW, isTy, E.give, E.fresh, W.isNon, lineN_small]
          | _ => simp [b3, eqN, isLf, e4, e5, Df.run, Ss.den, S.den, E.den, Es.den, Es.bo, Es.bt, Eo.den, Eo.tst, E.tst, It.den, R.bind, R.out, R.opt, startS, slotV, slotP, W.now, cmpW, intsW, idxW, L2.atI, L2.ixN, bltW, on1, on2, ifB, Tg.den, Tgs.den, tgo, binW, addW, intW, absW, lenW, truW, tyW, isTy, E.give, E.fresh, W.isNon, lineN_small]
        · cases pb with
          | int i => simp [b3, eqN, isLf, e4, e5, hl, Df.run, Ss.den, S.den, E.den, Es.den, Es.bo, Es.bt, Eo.den, Eo.tst, E.tst, It.den, R.bind, R.out, R.opt, startS, slotV, slotP, W.now, cmpW, intsW, idxW, L2.atI, L2.ixN, bltW, on1, on2, ifB, Tg.den, Tgs.den, tgo, binW, addW, intW, absW, lenW, truW, tyW, isTy, E.give, E.fresh, W.isNon, lineN_small]
          | _ => simp [b3, eqN, isLf, e4, e5, hl, Df.run, Ss.den, S.den, E.den, Es.den, Es.bo, Es.bt, Eo.den, Eo.tst, E.tst, It.den, R.bind, R.out, R.opt, startS, slotV, slotP, W.now, cmpW, intsW, idxW, L2.atI, L2.ixN, bltW, on1, on2, ifB, Tg.den, Tgs.den, tgo, binW, addW, intW, absW, lenW, truW, tyW, isTy, E.give, E.fresh, W.isNon, lineN_small]
      | _ => cases pb <;> simp [b3, eqN, isLf, e4, e5, Df.run, Ss.den, S.den, E.den, Es.den, Es.bo, Es.bt, Eo.den, Eo.tst, E.tst, It.den, R.bind, R.out, R.opt, startS, slotV, slotP, W.now, cmpW, intsW, idxW, L2.atI, L2.ixN, bltW, on1, on2, ifB, Tg.den, Tgs.den, tgo, binW, addW, intW, absW, lenW, truW, tyW, isTy, E.give, E.fresh, W.isNon, lineN_small]
    | a :: b :: c :: ws =>
      have e1 : ¬ ((ws.length : Int) + 1 + 1 + 1 = 2) := by omega
      have e2 : ¬ ((ws.length : Int) + 1 + 1 + 1 = 1) := by omega
      have e3 : ¬ ((ws.length : Int) + 1 + 1 + 1 = 0) := by omega
      simp [b3, eqN, isLf, e1, e2, e3, Df.run, Ss.den, S.den, E.den, Es.den, Es.bo, Es.bt, Eo.den, Eo.tst, E.tst, It.den, R.bind, R.out, R.opt, startS, slotV, slotP, W.now, cmpW, intsW, idxW, L2.atI, L2.ixN, bltW, on1, on2, ifB, Tg.den, Tgs.den, tgo, binW, addW, intW, absW, lenW, truW, tyW, isTy, E.give, E.fresh, W.isNon, lineN_small]
  | _ => simp [b3, isLf, Df.run, Ss.den, S.den, E.den, Es.den, Es.bo, Es.bt, Eo.den, Eo.tst, E.tst, It.den, R.bind, R.out, R.opt, startS, slotV, slotP, W.now, cmpW, intsW, idxW, L2.atI, L2.ixN, bltW, on1, on2, ifB, Tg.den, Tgs.den, tgo, binW, addW, intW, absW, lenW, truW, tyW, isTy, E.give, E.fresh, W.isNon, lineN_small]
/-! ## kinds, as told -/
def K : Nat → W → Option Nat
  | 0, _ => none
  | n + 1, w => match isLf w with
    | true => some 1
    | false => match w with
      | .tup [.str s, a, b] => match isWd s with
        | true => match K n a, K n b with
          | some x, some y => some (1 + x + y)
          | _, _ => none
        | false => none
      | _ => none
theorem isWd_not {s : Str} (h1 : s = "count" ∨ s = "letter") : isWd s = false := by
  rcases h1 with rfl | rfl <;> decide +kernel
theorem ne_lc : ¬ ("letter" : Str) = "count" := by decide +kernel
theorem ne_cl : ¬ ("count" : Str) = "letter" := by decide +kernel
theorem inWd {s : Str} : L2.inV (.str s) [.str "pair", .str "sum", .str "fun"] = isWd s := by
  have e : ∀ t : Str, L2.eqV (.str t) (.str s) = decide (s = t) := fun t => by
    show (t == s) = decide (s = t)
    by_cases z : s = t
    · subst z; simp
    · rw [decide_eq_false z]; exact beq_false_of_ne (fun y => z y.symm)
  simp [L2.inV, e, isWd]
theorem t13 : ∀ (n : Nat) {w : W} (p : PV w) (d : Int) (hd : d = 13 - n), pg.T (k+n+1) 13 [w, .int d] h = .ok (.bl (K n w).isSome) h
  | 0, w, p, d, hd => by
    show Df.run ⟨"_law_is_kind", ["_law_value", "_law_deep"], 2, b13⟩ ⟨pg.T (k+0), pg.cst, pg.par⟩ [w, .int d] h = _
    have e : (12 : Int) < d := by omega
    simp [b13, e, K, Df.run, Ss.den, S.den, E.den, Es.den, Es.bo, Es.bt, Eo.den, Eo.tst, E.tst, It.den, R.bind, R.out, R.opt, startS, slotV, slotP, W.now, cmpW, intsW, idxW, L2.atI, L2.ixN, bltW, on1, on2, ifB, Tg.den, Tgs.den, tgo, binW, addW, intW, absW, lenW, truW, tyW, isTy, E.give, E.fresh, W.isNon, lineN_small]
  | n + 1, w, p, d, hd => by
    show Df.run ⟨"_law_is_kind", ["_law_value", "_law_deep"], 2, b13⟩ ⟨pg.T (k+n+1), pg.cst, pg.par⟩ [w, .int d] h = _
    have e : ¬ (12 : Int) < d := by omega
    cases p with
    | tup ws q =>
      match ws with
      | [] => simp [b13, e, K, eqN, isLf, Df.run, Ss.den, S.den, E.den, Es.den, Es.bo, Es.bt, Eo.den, Eo.tst, E.tst, It.den, R.bind, R.out, R.opt, startS, slotV, slotP, W.now, cmpW, intsW, idxW, L2.atI, L2.ixN, bltW, on1, on2, ifB, Tg.den, Tgs.den, tgo, binW, addW, intW, absW, lenW, truW, tyW, isTy, E.give, E.fresh, W.isNon, lineN_small]
      | a :: ws =>
        have pa := q a (by simp)
        have l0 : ¬ ((ws.length : Int) + 1 = 0) := by omega
        cases pa with
        | str s hs =>
          by_cases h1 : s = "count"
          · subst h1
            have w1 : isWd "count" = false := isWd_not (.inl rfl)
            match ws with
            | [] => simp [b13, e, K, eqN, isLf, eqS, wOk, ne_cl, ne_lc, Df.run, Ss.den, S.den, E.den, Es.den, Es.bo, Es.bt, Eo.den, Eo.tst, E.tst, It.den, R.bind, R.out, R.opt, startS, slotV, slotP, W.now, cmpW, intsW, idxW, L2.atI, L2.ixN, bltW, on1, on2, ifB, Tg.den, Tgs.den, tgo, binW, addW, intW, absW, lenW, truW, tyW, isTy, E.give, E.fresh, W.isNon, lineN_small]
            | [b] => cases b <;> simp [b13, e, K, eqN, isLf, eqS, wOk, ne_cl, ne_lc, Df.run, Ss.den, S.den, E.den, Es.den, Es.bo, Es.bt, Eo.den, Eo.tst, E.tst, It.den, R.bind, R.out, R.opt, startS, slotV, slotP, W.now, cmpW, intsW, idxW, L2.atI, L2.ixN, bltW, on1, on2, ifB, Tg.den, Tgs.den, tgo, binW, addW, intW, absW, lenW, truW, tyW, isTy, E.give, E.fresh, W.isNon, lineN_small]
            | [b, c] => simp [b13, e, K, eqN, isLf, eqS, wOk, ne_cl, ne_lc, w1, Df.run, Ss.den, S.den, E.den, Es.den, Es.bo, Es.bt, Eo.den, Eo.tst, E.tst, It.den, R.bind, R.out, R.opt, startS, slotV, slotP, W.now, cmpW, intsW, idxW, L2.atI, L2.ixN, bltW, on1, on2, ifB, Tg.den, Tgs.den, tgo, binW, addW, intW, absW, lenW, truW, tyW, isTy, E.give, E.fresh, W.isNon, lineN_small]
            | b :: c :: d :: ws =>
              have l1 : ¬ ((ws.length : Int) + 1 + 1 + 1 + 1 = 1) := by omega
              have l3 : (0 : Int) < (ws.length : Int) + 1 + 1 + 1 + 1 := by omega
              have l2 : ¬ ((ws.length : Int) + 1 + 1 + 1 + 1 = 0) := by omega
              simp [b13, e, K, eqN, isLf, eqS, wOk, ne_cl, ne_lc, l1, l2, l3, Df.run, Ss.den, S.den, E.den, Es.den, Es.bo, Es.bt, Eo.den, Eo.tst, E.tst, It.den, R.bind, R.out, R.opt, startS, slotV, slotP, W.now, cmpW, intsW, idxW, L2.atI, L2.ixN, bltW, on1, on2, ifB, Tg.den, Tgs.den, tgo, binW, addW, intW, absW, lenW, truW, tyW, isTy, E.give, E.fresh, W.isNon, lineN_small]
          · by_cases h2 : s = "letter"
            · subst h2
              have w1 : isWd "letter" = false := isWd_not (.inr rfl)
              match ws with
              | [] => simp [b13, e, K, eqN, isLf, eqS, wOk, ne_cl, ne_lc, Df.run, Ss.den, S.den, E.den, Es.den, Es.bo, Es.bt, Eo.den, Eo.tst, E.tst, It.den, R.bind, R.out, R.opt, startS, slotV, slotP, W.now, cmpW, intsW, idxW, L2.atI, L2.ixN, bltW, on1, on2, ifB, Tg.den, Tgs.den, tgo, binW, addW, intW, absW, lenW, truW, tyW, isTy, E.give, E.fresh, W.isNon, lineN_small]
              | [b] =>
                have pb := q b (by simp)
                cases pb with
                | int i => by_cases hi : 0 ≤ i <;> by_cases hj : i ≤ 5 <;> simp [b13, e, K, eqN, isLf, eqS, wOk, ne_cl, ne_lc, hi, hj, Df.run, Ss.den, S.den, E.den, Es.den, Es.bo, Es.bt, Eo.den, Eo.tst, E.tst, It.den, R.bind, R.out, R.opt, startS, slotV, slotP, W.now, cmpW, intsW, idxW, L2.atI, L2.ixN, bltW, on1, on2, ifB, Tg.den, Tgs.den, tgo, binW, addW, intW, absW, lenW, truW, tyW, isTy, E.give, E.fresh, W.isNon, lineN_small]
                | _ => simp [b13, e, K, eqN, isLf, eqS, wOk, ne_cl, ne_lc, Df.run, Ss.den, S.den, E.den, Es.den, Es.bo, Es.bt, Eo.den, Eo.tst, E.tst, It.den, R.bind, R.out, R.opt, startS, slotV, slotP, W.now, cmpW, intsW, idxW, L2.atI, L2.ixN, bltW, on1, on2, ifB, Tg.den, Tgs.den, tgo, binW, addW, intW, absW, lenW, truW, tyW, isTy, E.give, E.fresh, W.isNon, lineN_small]
              | [b, c] => simp [b13, e, K, eqN, isLf, eqS, wOk, ne_cl, ne_lc, w1, Df.run, Ss.den, S.den, E.den, Es.den, Es.bo, Es.bt, Eo.den, Eo.tst, E.tst, It.den, R.bind, R.out, R.opt, startS, slotV, slotP, W.now, cmpW, intsW, idxW, L2.atI, L2.ixN, bltW, on1, on2, ifB, Tg.den, Tgs.den, tgo, binW, addW, intW, absW, lenW, truW, tyW, isTy, E.give, E.fresh, W.isNon, lineN_small]
              | b :: c :: d :: ws =>
                have l1 : ¬ ((ws.length : Int) + 1 + 1 + 1 + 1 = 2) := by omega
                have l3 : (0 : Int) < (ws.length : Int) + 1 + 1 + 1 + 1 := by omega
                have l2 : ¬ ((ws.length : Int) + 1 + 1 + 1 + 1 = 0) := by omega
                simp [b13, e, K, eqN, isLf, eqS, wOk, ne_cl, ne_lc, l1, l2, l3, Df.run, Ss.den, S.den, E.den, Es.den, Es.bo, Es.bt, Eo.den, Eo.tst, E.tst, It.den, R.bind, R.out, R.opt, startS, slotV, slotP, W.now, cmpW, intsW, idxW, L2.atI, L2.ixN, bltW, on1, on2, ifB, Tg.den, Tgs.den, tgo, binW, addW, intW, absW, lenW, truW, tyW, isTy, E.give, E.fresh, W.isNon, lineN_small]
            · match ws with
              | [] => cases hw : isWd s <;> simp [b13, e, K, eqN, isLf, eqS, wOk, ne_cl, ne_lc, hs, h1, h2, inW, W.flat, flats, inWd, hw, Df.run, Ss.den, S.den, E.den, Es.den, Es.bo, Es.bt, Eo.den, Eo.tst, E.tst, It.den, R.bind, R.out, R.opt, startS, slotV, slotP, W.now, cmpW, intsW, idxW, L2.atI, L2.ixN, bltW, on1, on2, ifB, Tg.den, Tgs.den, tgo, binW, addW, intW, absW, lenW, truW, tyW, isTy, E.give, E.fresh, W.isNon, lineN_small]
              | [b] => cases b <;> cases hw : isWd s <;> simp [b13, e, K, eqN, isLf, eqS, wOk, ne_cl, ne_lc, hs, h1, h2, inW, W.flat, flats, inWd, hw, Df.run, Ss.den, S.den, E.den, Es.den, Es.bo, Es.bt, Eo.den, Eo.tst, E.tst, It.den, R.bind, R.out, R.opt, startS, slotV, slotP, W.now, cmpW, intsW, idxW, L2.atI, L2.ixN, bltW, on1, on2, ifB, Tg.den, Tgs.den, tgo, binW, addW, intW, absW, lenW, truW, tyW, isTy, E.give, E.fresh, W.isNon, lineN_small]
              | [b, c] =>
                have r1 := t13 n (q b (by simp)) (d + 1) (by omega)
                have r2 := t13 n (q c (by simp)) (d + 1) (by omega)
                cases hw : isWd s <;> cases q1 : K n b <;> cases q2 : K n c <;> simp [b13, e, K, eqN, isLf, eqS, wOk, ne_cl, ne_lc, hs, h1, h2, inW, W.flat, flats, inWd, hw, r1, r2, q1, q2, Df.run, Ss.den, S.den, E.den, Es.den, Es.bo, Es.bt, Eo.den, Eo.tst, E.tst, It.den, R.bind, R.out, R.opt, startS, slotV, slotP, W.now, cmpW, intsW, idxW, L2.atI, L2.ixN, bltW, on1, on2, ifB, Tg.den, Tgs.den, tgo, binW, addW, intW, absW, lenW, truW, tyW, isTy, E.give, E.fresh, W.isNon, lineN_small]
              | b :: c :: d :: ws =>
                have l1 : ¬ ((ws.length : Int) + 1 + 1 + 1 + 1 = 3) := by omega
                have l3 : (0 : Int) < (ws.length : Int) + 1 + 1 + 1 + 1 := by omega
                have l2 : ¬ ((ws.length : Int) + 1 + 1 + 1 + 1 = 0) := by omega
                cases hw : isWd s <;> simp [b13, e, K, eqN, isLf, eqS, wOk, ne_cl, ne_lc, hs, h1, h2, inW, W.flat, flats, inWd, hw, l1, l2, l3, Df.run, Ss.den, S.den, E.den, Es.den, Es.bo, Es.bt, Eo.den, Eo.tst, E.tst, It.den, R.bind, R.out, R.opt, startS, slotV, slotP, W.now, cmpW, intsW, idxW, L2.atI, L2.ixN, bltW, on1, on2, ifB, Tg.den, Tgs.den, tgo, binW, addW, intW, absW, lenW, truW, tyW, isTy, E.give, E.fresh, W.isNon, lineN_small]
        | _ => simp [b13, e, K, eqN, isLf, l0, Df.run, Ss.den, S.den, E.den, Es.den, Es.bo, Es.bt, Eo.den, Eo.tst, E.tst, It.den, R.bind, R.out, R.opt, startS, slotV, slotP, W.now, cmpW, intsW, idxW, L2.atI, L2.ixN, bltW, on1, on2, ifB, Tg.den, Tgs.den, tgo, binW, addW, intW, absW, lenW, truW, tyW, isTy, E.give, E.fresh, W.isNon, lineN_small]
    | _ => simp [b13, e, K, eqN, isLf, Df.run, Ss.den, S.den, E.den, Es.den, Es.bo, Es.bt, Eo.den, Eo.tst, E.tst, It.den, R.bind, R.out, R.opt, startS, slotV, slotP, W.now, cmpW, intsW, idxW, L2.atI, L2.ixN, bltW, on1, on2, ifB, Tg.den, Tgs.den, tgo, binW, addW, intW, absW, lenW, truW, tyW, isTy, E.give, E.fresh, W.isNon, lineN_small]
theorem K_br {n m : Nat} {w : W} (hl : isLf w = false) (e : K (n + 1) w = some m) : ∃ s a b x y, w = .tup [.str s, a, b] ∧ isWd s = true ∧ K n a = some x ∧ K n b = some y ∧ m = 1 + x + y := by
  unfold K at e
  rw [hl] at e
  simp only at e
  split at e
  · rename_i s a b
    split at e
    · rename_i hw
      split at e
      · rename_i x y q1 q2
        cases e
        exact ⟨s, a, b, x, y, rfl, hw, q1, q2, rfl⟩
      · cases e
    · cases e
  · cases e
theorem t11 : ∀ (n m : Nat) {w : W} (p : PV w), K n w = some m → pg.T (k+n) 11 [w] h = .ok (.int m) h
  | 0, m, w, p, e => by cases e
  | n + 1, m, w, p, e => by
    show Df.run ⟨"_law_signs", ["_law_kind_here"], 1, b11⟩ ⟨pg.T (k+n), pg.cst, pg.par⟩ [w] h = _
    cases hl : isLf w with
    | true =>
      unfold K at e
      rw [hl] at e
      cases e
      match w, hl with
      | .tup [.str s], hl =>
        have hs : s = "count" := by simpa [isLf] using hl
        subst hs
        have w1 : isWd "count" = false := isWd_not (.inl rfl)
        simp [b11, inW, W.flat, flats, inWd, w1, Df.run, Ss.den, S.den, E.den, Es.den, Es.bo, Es.bt, Eo.den, Eo.tst, E.tst, It.den, R.bind, R.out, R.opt, startS, slotV, slotP, W.now, cmpW, intsW, idxW, L2.atI, L2.ixN, bltW, on1, on2, ifB, Tg.den, Tgs.den, tgo, binW, addW, intW, absW, lenW, truW, tyW, isTy, E.give, E.fresh, W.isNon, lineN_small]
      | .tup [.str s, .int i], hl =>
        have hs : s = "letter" := by
          have z : (decide (s = "letter") && (decide (0 ≤ i) && decide (i ≤ 5))) = true := hl
          exact of_decide_eq_true (Bool.and_eq_true_iff.mp z).1
        subst hs
        have w1 : isWd "letter" = false := isWd_not (.inr rfl)
        simp [b11, inW, W.flat, flats, inWd, w1, Df.run, Ss.den, S.den, E.den, Es.den, Es.bo, Es.bt, Eo.den, Eo.tst, E.tst, It.den, R.bind, R.out, R.opt, startS, slotV, slotP, W.now, cmpW, intsW, idxW, L2.atI, L2.ixN, bltW, on1, on2, ifB, Tg.den, Tgs.den, tgo, binW, addW, intW, absW, lenW, truW, tyW, isTy, E.give, E.fresh, W.isNon, lineN_small]
    | false =>
      obtain ⟨s, a, b, x, y, rfl, hw, q1, q2, rfl⟩ := K_br hl e
      cases p with
      | tup _ q =>
        have r1 := t11 n x (q a (by simp)) q1
        have r2 := t11 n y (q b (by simp)) q2
        simp [b11, inW, W.flat, flats, inWd, hw, r1, r2, Df.run, Ss.den, S.den, E.den, Es.den, Es.bo, Es.bt, Eo.den, Eo.tst, E.tst, It.den, R.bind, R.out, R.opt, startS, slotV, slotP, W.now, cmpW, intsW, idxW, L2.atI, L2.ixN, bltW, on1, on2, ifB, Tg.den, Tgs.den, tgo, binW, addW, intW, absW, lenW, truW, tyW, isTy, E.give, E.fresh, W.isNon, lineN_small]
end K12

set_option maxHeartbeats 4000000
namespace K12
open PySem Ev
variable {k : Nat} {h : Obs} {w : W}
def kb : Ss := match b7 with
  | .cons _ (.cons (.whl _ b _) _) => b
  | _ => .nil
def kc : E := match b7 with
  | .cons _ (.cons (.whl c _ _) _) => c
  | _ => .non 0 ⟨0, 0, 0, 0⟩
abbrev D7 (k : Nat) : Dn := ⟨pg.T (k + 4), pg.cst, pg.par⟩
theorem kc_len (ws : List W) (v : W) (s : Int) (o e : Sl) : kc.tst (D7 k) [.val v, .own ws, .val (.int s), o, e] h = .ok (decide (0 < ws.length)) h := by
  have z : (0 : Int) < (ws.length : Int) ↔ 0 < ws.length := by omega
  simp [kc, b7, z, Df.run, Ss.den, S.den, E.den, Es.den, Es.bo, Es.bt, Eo.den, Eo.tst, E.tst, It.den, R.bind, R.out, R.opt, startS, slotV, slotP, W.now, cmpW, intsW, idxW, L2.atI, L2.ixN, bltW, on1, on2, ifB, Tg.den, Tgs.den, tgo, binW, addW, intW, absW, lenW, truW, tyW, isTy, E.give, E.fresh, W.isNon, lineN_small]
theorem kb_top (p : PV w) (pre : List W) (hl : pre.length ≤ 500) (v : W) (s d : Int) (o e : Sl) : kb.den (D7 k) [.val v, .own (pre ++ [.tup [w, .int d]]), .val (.int s), o, e] h =
    (match decide (60 < s + 1) || decide (12 < d) with
    | true => .rt (.bl false) h
    | false => match isBr w with
      | true => (match w with
        | .tup [_, a, b] => .nx [.val v, .own (pre ++ [.tup [a, .int (d + 1)], .tup [b, .int (d + 1)]]), .val (.int (s + 1)), .val w, .val (.int d)] h
        | _ => .bad)
      | false => match isLf w with
        | true => .nx [.val v, .own pre, .val (.int (s + 1)), .val w, .val (.int d)] h
        | false => .rt (.bl false) h) := by
  have c1 : pg.cst "MOST_SIGNS" = some (.int 60) := rfl
  have c2 : pg.cst "MOST_DEEP" = some (.int 12) := rfl
  have e6 := t6 (k := k + 3) (h := h) p
  have e3 := t3 (k := k) (h := h) p
  have hl2 : lineN (pre.length + 2) = true := lineN_small (by omega)
  by_cases h1 : 60 < s + 1
  · simp [kb, b7, c1, c2, h1, Df.run, Ss.den, S.den, E.den, Es.den, Es.bo, Es.bt, Eo.den, Eo.tst, E.tst, It.den, R.bind, R.out, R.opt, startS, slotV, slotP, W.now, cmpW, intsW, idxW, L2.atI, L2.ixN, bltW, on1, on2, ifB, Tg.den, Tgs.den, tgo, binW, addW, intW, absW, lenW, truW, tyW, isTy, E.give, E.fresh, W.isNon, lineN_small]
  · by_cases h2 : 12 < d
    · simp [kb, b7, c1, c2, h1, h2, Df.run, Ss.den, S.den, E.den, Es.den, Es.bo, Es.bt, Eo.den, Eo.tst, E.tst, It.den, R.bind, R.out, R.opt, startS, slotV, slotP, W.now, cmpW, intsW, idxW, L2.atI, L2.ixN, bltW, on1, on2, ifB, Tg.den, Tgs.den, tgo, binW, addW, intW, absW, lenW, truW, tyW, isTy, E.give, E.fresh, W.isNon, lineN_small]
    · cases hb : isBr w with
      | true =>
        match w, hb with
        | .tup [.str c, a, b], hb => simp [kb, b7, c1, c2, h1, h2, e6, e3, hb, hl2, Df.run, Ss.den, S.den, E.den, Es.den, Es.bo, Es.bt, Eo.den, Eo.tst, E.tst, It.den, R.bind, R.out, R.opt, startS, slotV, slotP, W.now, cmpW, intsW, idxW, L2.atI, L2.ixN, bltW, on1, on2, ifB, Tg.den, Tgs.den, tgo, binW, addW, intW, absW, lenW, truW, tyW, isTy, E.give, E.fresh, W.isNon, lineN_small]
      | false => cases hf : isLf w <;> simp [kb, b7, c1, c2, h1, h2, e6, e3, hb, hf, Df.run, Ss.den, S.den, E.den, Es.den, Es.bo, Es.bt, Eo.den, Eo.tst, E.tst, It.den, R.bind, R.out, R.opt, startS, slotV, slotP, W.now, cmpW, intsW, idxW, L2.atI, L2.ixN, bltW, on1, on2, ifB, Tg.den, Tgs.den, tgo, binW, addW, intW, absW, lenW, truW, tyW, isTy, E.give, E.fresh, W.isNon, lineN_small]
def enc (p : W × Nat) : W := .tup [p.1, .int (13 - p.2)]
def tot : List (W × Nat) → Option Nat
  | [] => some 0
  | p :: r => match K p.2 p.1, tot r with
    | some x, some y => some (x + y)
    | _, _ => none
def good (stk : List (W × Nat)) (s : Nat) : Bool := match tot stk with
  | some t => decide (s + t ≤ 60)
  | none => false
theorem K_pos {n x : Nat} {w : W} (e : K n w = some x) : 1 ≤ x := by
  cases n with
  | zero => cases e
  | succ n =>
    cases hl : isLf w with
    | true => unfold K at e; rw [hl] at e; cases e; omega
    | false =>
      obtain ⟨_, _, _, x, y, _, _, _, _, rfl⟩ := K_br hl e
      omega
theorem loop7 : ∀ (f : Nat) (stk : List (W × Nat)) (s : Nat) (v : W) (o e : Sl) (m : Nat), s + f = 60 → f + 1 < m → stk.length ≤ s + 1 → (∀ p ∈ stk, PV p.1 ∧ p.2 ≤ 12) →
    match good stk s with
    | true => ∃ σ, whlGo (fun σ h => kc.tst (D7 k) σ h) (fun σ h => kb.den (D7 k) σ h) m [.val v, .own (stk.map enc).reverse, .val (.int s), o, e] h = .nx σ h
    | false => whlGo (fun σ h => kc.tst (D7 k) σ h) (fun σ h => kb.den (D7 k) σ h) m [.val v, .own (stk.map enc).reverse, .val (.int s), o, e] h = .rt (.bl false) h := by
  intro f
  induction f with
  | zero =>
    intro stk s v o e m hs hm hl hp
    obtain ⟨m, rfl⟩ : ∃ m', m = m' + 1 := ⟨m - 1, by omega⟩
    cases stk with
    | nil =>
      have g : good [] s = true := by simp [good, tot]; omega
      rw [g]
      simp only [List.map_nil, List.reverse_nil]
      refine ⟨[.val v, .own [], .val (.int s), o, e], ?_⟩
      unfold whlGo
      rw [kc_len]
      rfl
    | cons p r =>
      obtain ⟨w, n⟩ := p
      have pw := (hp (w, n) List.mem_cons_self).1
      have g : good ((w, n) :: r) s = false := by
        unfold good tot
        cases q1 : K n w with
        | none => rfl
        | some x =>
          cases q2 : tot r with
          | none => rfl
          | some y =>
            have z := K_pos q1
            exact decide_eq_false (by omega)
      rw [g]
      simp only [List.map_cons, List.reverse_cons]
      unfold whlGo
      rw [kc_len]
      have hl2 : (decide (0 < ((List.map enc r).reverse ++ [enc (w, n)]).length)) = true := by simp
      rw [hl2]
      simp only
      rw [show enc (w, n) = .tup [w, .int (13 - n)] from rfl, kb_top pw _ (by simp at hl ⊢; omega)]
      have z : (decide (60 < (s : Int) + 1) || decide (12 < (13 : Int) - n)) = true := by simp; omega
      rw [z]
  | succ f ih =>
    intro stk s v o e m hs hm hl hp
    obtain ⟨m, rfl⟩ : ∃ m', m = m' + 1 := ⟨m - 1, by omega⟩
    cases stk with
    | nil =>
      have g : good [] s = true := by simp [good, tot]; omega
      rw [g]
      simp only [List.map_nil, List.reverse_nil]
      refine ⟨[.val v, .own [], .val (.int s), o, e], ?_⟩
      unfold whlGo
      rw [kc_len]
      rfl
    | cons p r =>
      obtain ⟨w, n⟩ := p
      have pw := (hp (w, n) List.mem_cons_self).1
      have hn := (hp (w, n) List.mem_cons_self).2
      have hr := fun p hp' => hp p (List.mem_cons_of_mem (w, n) hp')
      have step : ∀ (m : Nat), whlGo (fun σ h => kc.tst (D7 k) σ h) (fun σ h => kb.den (D7 k) σ h) (m + 1) [.val v, .own (((w, n) :: r).map enc).reverse, .val (.int s), o, e] h =
          (match kb.den (D7 k) [.val v, .own ((r.map enc).reverse ++ [.tup [w, .int (13 - n)]]), .val (.int s), o, e] h with
          | .nx σ h => whlGo (fun σ h => kc.tst (D7 k) σ h) (fun σ h => kb.den (D7 k) σ h) m σ h
          | .ct σ h => whlGo (fun σ h => kc.tst (D7 k) σ h) (fun σ h => kb.den (D7 k) σ h) m σ h
          | .bk σ h => .nx σ h
          | .rt w h => .rt w h
          | .exc x σ h => .exc x σ h
          | .bad => .bad) := fun m => by
        simp only [List.map_cons, List.reverse_cons]
        conv => lhs; unfold whlGo
        rw [kc_len]
        have hl2 : (decide (0 < ((List.map enc r).reverse ++ [enc (w, n)]).length)) = true := by simp
        rw [hl2]
        rfl
      rw [step, kb_top pw _ (by simp at hl ⊢; omega)]
      have l1 : decide (60 < (s : Int) + 1) = false := decide_eq_false (by omega)
      rw [l1, Bool.false_or]
      cases n with
      | zero =>
        have g : good ((w, 0) :: r) s = false := rfl
        rw [g]
        have z : decide (12 < (13 : Int) - (0 : Nat)) = true := by decide
        rw [z]
      | succ n =>
        have z : decide (12 < (13 : Int) - (n + 1 : Nat)) = false := decide_eq_false (by omega)
        rw [z]
        cases hb : isBr w with
        | true =>
          match w, hb, pw with
          | .tup [.str c, a, b], hb, pw =>
            have hw : isWd c = true := hb
            have q : ∀ x ∈ [W.str c, a, b], PV x := by cases pw with | tup _ q => exact q
            have i := ih ((b, n) :: (a, n) :: r) (s + 1) v (.val (.tup [.str c, a, b])) (.val (.int (13 - (n + 1 : Nat)))) m (by omega) (by omega) (by simp at hl ⊢; omega) (fun p hp' => by
              rcases List.mem_cons.mp hp' with rfl | hp'
              · exact ⟨q b (by simp), by omega⟩
              · rcases List.mem_cons.mp hp' with rfl | hp'
                · exact ⟨q a (by simp), by omega⟩
                · exact hr p hp')
            have g : good ((.tup [.str c, a, b], n + 1) :: r) s = good ((b, n) :: (a, n) :: r) (s + 1) := by
              have hk : K (n + 1) (.tup [.str c, a, b]) = (match K n a, K n b with | some x, some y => some (1 + x + y) | _, _ => none) := by
                have hf : isLf (.tup [.str c, a, b]) = false := by cases a <;> rfl
                conv => lhs; unfold K
                rw [hf]
                simp only [hw]
                all_goals (cases K n a <;> cases K n b <;> rfl)
              unfold good tot
              simp only [hk, tot]
              cases q1 : K n a <;> cases q2 : K n b <;> cases q3 : tot r <;> simp
              omega
            rw [g]
            have e13 : (13 : Int) - (n + 1 : Nat) + 1 = 13 - (n : Nat) := by omega
            simp only [e13]
            simp only [List.map_cons, List.reverse_cons, List.append_assoc, List.cons_append, List.nil_append, enc] at i
            have es : ((s + 1 : Nat) : Int) = (s : Int) + 1 := by omega
            rw [es] at i
            exact i
        | false =>
          cases hf : isLf w with
          | true =>
            have i := ih r (s + 1) v (.val w) (.val (.int (13 - (n + 1 : Nat)))) m (by omega) (by omega) (by simp at hl ⊢; omega) hr
            have g : good ((w, n + 1) :: r) s = good r (s + 1) := by
              have hk : K (n + 1) w = some 1 := by
                unfold K
                rw [hf]
              unfold good
              simp only [tot, hk]
              cases q3 : tot r <;> simp
              omega
            rw [g]
            have es : ((s + 1 : Nat) : Int) = (s : Int) + 1 := by omega
            rw [es] at i
            exact i
          | false =>
            have g : good ((w, n + 1) :: r) s = false := by
              have hk : K (n + 1) w = none := by
                cases q : K (n + 1) w with
                | none => rfl
                | some x =>
                  obtain ⟨c, a, b, _, _, rfl, hw, _⟩ := K_br hf q
                  have hb : isWd c = false := hb
                  rw [hw] at hb
                  cases hb
              unfold good
              simp only [tot, hk]
            rw [g]
/-- whether is_kind says so -/
def due (w : W) : Bool := match K 12 w with
  | some t => decide (t ≤ 60)
  | none => false
theorem t7 (p : PV w) : pg.T (k+5) 7 [w] h = .ok (.bl (due w)) h := by
  show Df.run ⟨"is_kind", ["value", "left", "signs", "one", "deep"], 1, b7⟩ (D7 k) [w] h = _
  have l := loop7 (k := k) (h := h) 60 [(w, 12)] 0 w .non .non whlMost rfl (by decide) (by simp) (fun q hq => by
    have e : q = (w, 12) := by simpa using hq
    subst e
    exact ⟨p, by omega⟩)
  have g : good [(w, 12)] 0 = due w := by
    unfold good due
    simp only [tot]
    cases q : K 12 w <;> simp
  rw [g] at l
  have st : Ss.den (D7 k) b7 (startS 5 [w]) h = (match whlGo (fun σ h => kc.tst (D7 k) σ h) (fun σ h => kb.den (D7 k) σ h) whlMost [.val w, .own ([(w, 12)].map enc).reverse, .val (.int (0 : Nat)), .non, .non] h with
    | .nx σ h => .rt (.bl true) h
    | o => o) := rfl
  have run : Df.run ⟨"is_kind", ["value", "left", "signs", "one", "deep"], 1, b7⟩ (D7 k) [w] h = (match Ss.den (D7 k) b7 (startS 5 [w]) h with
    | .nx _ h => .ok .non h
    | .rt w h => .ok w h
    | .exc x _ h => .exc x h
    | _ => .bad) := rfl
  rw [run, st]
  cases hd : due w with
  | true =>
    rw [hd] at l
    obtain ⟨σ, l⟩ := l
    rw [l]
  | false =>
    rw [hd] at l
    rw [l]
theorem t7d (p : PV w) : (match K 12 w with | some t => decide (t ≤ 60) | none => false) = due w := rfl
end K12

set_option maxHeartbeats 4000000
namespace K12
open PySem Ev
variable {k : Nat} {w : W}
/-! ## the pot -/
structure Vd (a b : Int) : Prop where
  u : 0 ≤ a
  v : 0 ≤ b
  w : b < 4294967296
abbrev PT (a b : Int) : Obs := [.lst [.int a, .int b]]
theorem pot_new (c : Int) : Vd (if c - 1000000000000000000 > 0 then c - 1000000000000000000 else 0) ((c % 2147483549 * 48271 + 17) % 2147483563 + 1) := by
  refine ⟨?_, ?_, ?_⟩
  · split <;> omega
  · omega
  · omega
theorem t8 (ns : List Int) : ∃ a b, pg.T (k+1) 8 [.scr ns, .int 0] [] = .ok (.ref 0) (PT a b) ∧ Vd a b := by
  have run : ∀ x, pg.T (k+1) 8 x [] = Df.run ⟨"_law_pot", ["_law_script", "_law_k", "_law_cell"], 2, b8⟩ ⟨pg.T k, pg.cst, pg.par⟩ x [] := fun _ => rfl
  rw [run]
  have sm : ∀ x : Int, small (x % 2147483549) = true := fun x => by
    unfold small
    rw [decide_eq_true (show (-(2 ^ 64) : Int) < x % 2147483549 by omega), decide_eq_true (show x % 2147483549 < (2 ^ 64 : Int) by omega)]
    rfl
  have s0 : small 487 = true := by decide
  have s1 : small 3581 = true := by decide
  have s2 : small 48271 = true := by decide
  have l2 : lineN 2 = true := lineN_small (by omega)
  cases ns with
  | nil => exact ⟨0, 15301925, by simp [b8, sm, s0, s1, s2, l2, Df.run, Ss.den, S.den, E.den, Es.den, Es.bo, Es.bt, Eo.den, Eo.tst, E.tst, It.den, R.bind, R.out, R.opt, startS, slotV, slotP, W.now, cmpW, intsW, idxW, L2.atI, L2.ixN, bltW, on1, on2, ifB, Tg.den, Tgs.den, tgo, binW, addW, intW, absW, lenW, truW, tyW, isTy, E.give, E.fresh, W.isNon, lineN_small], by constructor <;> decide⟩
  | cons n r =>
    have z : (0 : Int) < (r.length : Int) + 1 := by omega
    refine ⟨_, _, ?_, pot_new (if n < 0 then -n else n)⟩
    simp [b8, sm, s0, s1, s2, l2, z, Df.run, Ss.den, S.den, E.den, Es.den, Es.bo, Es.bt, Eo.den, Eo.tst, E.tst, It.den, R.bind, R.out, R.opt, startS, slotV, slotP, W.now, cmpW, intsW, idxW, L2.atI, L2.ixN, bltW, on1, on2, ifB, Tg.den, Tgs.den, tgo, binW, addW, intW, absW, lenW, truW, tyW, isTy, E.give, E.fresh, W.isNon, lineN_small]
theorem t9 {a b n : Int} (v : Vd a b) (hn : 0 < n) (hn2 : n ≤ 1000) : ∃ d a1 b1, pg.T (k+1) 9 [.ref 0, .int n] (PT a b) = .ok (.int d) (PT a1 b1) ∧ 0 ≤ d ∧ d < n ∧ Vd a1 b1 := by
  have run : ∀ x h, pg.T (k+1) 9 x h = Df.run ⟨"_law_draw", ["_law_pot_here", "_law_size", "_law_digit"], 2, b9⟩ ⟨pg.T k, pg.cst, pg.par⟩ x h := fun _ _ => rfl
  rw [run]
  have hn3 : n < 1073741824 := by omega
  obtain ⟨va, vb, vc⟩ := v
  by_cases ha : 0 < a
  · refine ⟨a % n, a / n, b, by simp [b9, ha, hn, hn3, Df.run, Ss.den, S.den, E.den, Es.den, Es.bo, Es.bt, Eo.den, Eo.tst, E.tst, It.den, R.bind, R.out, R.opt, startS, slotV, slotP, W.now, cmpW, intsW, idxW, L2.atI, L2.ixN, bltW, on1, on2, ifB, Tg.den, Tgs.den, tgo, binW, addW, intW, absW, lenW, truW, tyW, isTy, E.give, E.fresh, W.isNon, lineN_small], Int.emod_nonneg _ (by omega), Int.emod_lt_of_pos _ hn, Int.ediv_nonneg va (by omega), vb, vc⟩
  · have sm : small b = true := by
      unfold small
      rw [decide_eq_true (show (-(2 ^ 64) : Int) < b by omega), decide_eq_true (show b < (2 ^ 64 : Int) by omega)]
      rfl
    have sm2 : small ((b * 39373 + 3581) % 2147483587) = true := by
      unfold small
      rw [decide_eq_true (show (-(2 ^ 64) : Int) < (b * 39373 + 3581) % 2147483587 by omega), decide_eq_true (show (b * 39373 + 3581) % 2147483587 < (2 ^ 64 : Int) by omega)]
      rfl
    refine ⟨(b * 39373 + 3581) % 2147483587 * ((b * 39373 + 3581) % 2147483587) % 2147483563 / 17 % n, a, (b * 39373 + 3581) % 2147483587, by simp [b9, ha, hn, hn3, sm, sm2, Df.run, Ss.den, S.den, E.den, Es.den, Es.bo, Es.bt, Eo.den, Eo.tst, E.tst, It.den, R.bind, R.out, R.opt, startS, slotV, slotP, W.now, cmpW, intsW, idxW, L2.atI, L2.ixN, bltW, on1, on2, ifB, Tg.den, Tgs.den, tgo, binW, addW, intW, absW, lenW, truW, tyW, isTy, E.give, E.fresh, W.isNon, lineN_small], Int.emod_nonneg _ (by omega), Int.emod_lt_of_pos _ hn, va, by omega, by omega⟩
theorem isWd_w : isWd "pair" = true ∧ isWd "sum" = true ∧ isWd "fun" = true := by decide +kernel
/-- the three words -/
abbrev W3 : List W := [.str "pair", .str "sum", .str "fun"]
theorem t10 {a b : Int} (v : Vd a b) : ∃ s a1 b1, pg.T (k+2) 10 [.ref 0, .lst W3] (PT a b) = .ok (.str s) (PT a1 b1) ∧ isWd s = true ∧ PyData.strOk s = true ∧ Vd a1 b1 := by
  have run : ∀ x h, pg.T (k+2) 10 x h = Df.run ⟨"_law_pick", ["_law_pot_here", "_law_some"], 2, b10⟩ ⟨pg.T (k+1), pg.cst, pg.par⟩ x h := fun _ _ => rfl
  rw [run]
  obtain ⟨d, a1, b1, e, h0, h3, v1⟩ := t9 (k := k) (n := 3) v (by omega) (by omega)
  have hd : d = 0 ∨ d = 1 ∨ d = 2 := by omega
  rcases hd with rfl | rfl | rfl
  · exact ⟨_, a1, b1, by simp [b10, e, Df.run, Ss.den, S.den, E.den, Es.den, Es.bo, Es.bt, Eo.den, Eo.tst, E.tst, It.den, R.bind, R.out, R.opt, startS, slotV, slotP, W.now, cmpW, intsW, idxW, L2.atI, L2.ixN, bltW, on1, on2, ifB, Tg.den, Tgs.den, tgo, binW, addW, intW, absW, lenW, truW, tyW, isTy, E.give, E.fresh, W.isNon, lineN_small], isWd_w.1, wOk.2.2.1, v1⟩
  · exact ⟨_, a1, b1, by simp [b10, e, Df.run, Ss.den, S.den, E.den, Es.den, Es.bo, Es.bt, Eo.den, Eo.tst, E.tst, It.den, R.bind, R.out, R.opt, startS, slotV, slotP, W.now, cmpW, intsW, idxW, L2.atI, L2.ixN, bltW, on1, on2, ifB, Tg.den, Tgs.den, tgo, binW, addW, intW, absW, lenW, truW, tyW, isTy, E.give, E.fresh, W.isNon, lineN_small], isWd_w.2.1, wOk.2.2.2.1, v1⟩
  · exact ⟨_, a1, b1, by simp [b10, e, Df.run, Ss.den, S.den, E.den, Es.den, Es.bo, Es.bt, Eo.den, Eo.tst, E.tst, It.den, R.bind, R.out, R.opt, startS, slotV, slotP, W.now, cmpW, intsW, idxW, L2.atI, L2.ixN, bltW, on1, on2, ifB, Tg.den, Tgs.den, tgo, binW, addW, intW, absW, lenW, truW, tyW, isTy, E.give, E.fresh, W.isNon, lineN_small], isWd_w.2.2, wOk.2.2.2.2, v1⟩
/-- a kind, as it is drawn -/
inductive KS : Nat → W → Prop
  | letter (n : Nat) (i : Int) : KS n (.tup [.str "letter", .int i])
  | count (n : Nat) : KS n (.tup [.str "count"])
  | br (n : Nat) {s : Str} {a b : W} : isWd s = true → PyData.strOk s = true → KS n a → KS n b → KS (n + 1) (.tup [.str s, a, b])
theorem KS.pv {n : Nat} {w : W} (q : KS n w) : PV w := by
  induction q with
  | letter n i =>
    refine .tup _ fun w hw => ?_
    rcases List.mem_cons.mp hw with rfl | hw
    · exact .str _ wOk.1
    · have e : w = .int i := by simpa using hw
      subst e
      exact .int i
  | count n =>
    refine .tup _ fun w hw => ?_
    have e : w = .str "count" := by simpa using hw
    subst e
    exact .str _ wOk.2.1
  | br n hs ho _ _ ia ib =>
    refine .tup _ fun w hw => ?_
    rcases List.mem_cons.mp hw with rfl | hw
    · exact .str _ ho
    · rcases List.mem_cons.mp hw with rfl | hw
      · exact ia
      · have e := List.mem_singleton.mp hw
        subst e
        exact ib
theorem t12 : ∀ (n : Nat) {a b : Int} (v : Vd a b), ∃ w a1 b1, pg.T (k+n+2) 12 [.ref 0, .int n] (PT a b) = .ok w (PT a1 b1) ∧ KS n w ∧ Vd a1 b1 := by
  have l2 : lineN 2 = true := lineN_small (by omega)
  have l1 : lineN 1 = true := lineN_small (by omega)
  have l3 : lineN 3 = true := lineN_small (by omega)
  intro n
  induction n with
  | zero =>
    intro a b v
    have run : ∀ x h, pg.T (k+0+2) 12 x h = Df.run ⟨"_law_kind", ["_law_pot_here", "_law_deep", "_law_way", "_law_near"], 2, b12⟩ ⟨pg.T (k+1), pg.cst, pg.par⟩ x h := fun _ _ => rfl
    rw [run]
    obtain ⟨d, a1, b1, e, h0, h3, v1⟩ := t9 (k := k) (n := 3) v (by omega) (by omega)
    by_cases hd : d < 2
    · exact ⟨_, a1, b1, by simp [b12, e, h3, hd, l2, Df.run, Ss.den, S.den, E.den, Es.den, Es.bo, Es.bt, Eo.den, Eo.tst, E.tst, It.den, R.bind, R.out, R.opt, startS, slotV, slotP, W.now, cmpW, intsW, idxW, L2.atI, L2.ixN, bltW, on1, on2, ifB, Tg.den, Tgs.den, tgo, binW, addW, intW, absW, lenW, truW, tyW, isTy, E.give, E.fresh, W.isNon, lineN_small], .letter 0 d, v1⟩
    · exact ⟨_, a1, b1, by simp [b12, e, h3, hd, l1, Df.run, Ss.den, S.den, E.den, Es.den, Es.bo, Es.bt, Eo.den, Eo.tst, E.tst, It.den, R.bind, R.out, R.opt, startS, slotV, slotP, W.now, cmpW, intsW, idxW, L2.atI, L2.ixN, bltW, on1, on2, ifB, Tg.den, Tgs.den, tgo, binW, addW, intW, absW, lenW, truW, tyW, isTy, E.give, E.fresh, W.isNon, lineN_small], .count 0, v1⟩
  | succ n ih =>
    intro a b v
    have run : ∀ x h, pg.T (k+(n+1)+2) 12 x h = Df.run ⟨"_law_kind", ["_law_pot_here", "_law_deep", "_law_way", "_law_near"], 2, b12⟩ ⟨pg.T (k+n+2), pg.cst, pg.par⟩ x h := fun _ _ => rfl
    rw [run]
    have hn : (0 : Int) < (n : Int) + 1 := by omega
    obtain ⟨d, a1, b1, e, h0, h6, v1⟩ := t9 (k := k + n + 1) (n := 6) v (by omega) (by omega)
    by_cases h3 : d < 3
    · by_cases hd : d < 2
      · exact ⟨_, a1, b1, by simp [b12, e, hn, h3, hd, l2, Df.run, Ss.den, S.den, E.den, Es.den, Es.bo, Es.bt, Eo.den, Eo.tst, E.tst, It.den, R.bind, R.out, R.opt, startS, slotV, slotP, W.now, cmpW, intsW, idxW, L2.atI, L2.ixN, bltW, on1, on2, ifB, Tg.den, Tgs.den, tgo, binW, addW, intW, absW, lenW, truW, tyW, isTy, E.give, E.fresh, W.isNon, lineN_small], .letter _ d, v1⟩
      · exact ⟨_, a1, b1, by simp [b12, e, hn, h3, hd, l1, Df.run, Ss.den, S.den, E.den, Es.den, Es.bo, Es.bt, Eo.den, Eo.tst, E.tst, It.den, R.bind, R.out, R.opt, startS, slotV, slotP, W.now, cmpW, intsW, idxW, L2.atI, L2.ixN, bltW, on1, on2, ifB, Tg.den, Tgs.den, tgo, binW, addW, intW, absW, lenW, truW, tyW, isTy, E.give, E.fresh, W.isNon, lineN_small], .count _, v1⟩
    · obtain ⟨x, a2, b2, e2, kx, v2⟩ := ih v1
      obtain ⟨y, a3, b3, e3, ky, v3⟩ := ih v2
      have hd : d = 3 ∨ d = 4 ∨ d = 5 := by omega
      rcases hd with rfl | rfl | rfl
      · exact ⟨_, a3, b3, by simp [b12, e, e2, e3, hn, l3, Df.run, Ss.den, S.den, E.den, Es.den, Es.bo, Es.bt, Eo.den, Eo.tst, E.tst, It.den, R.bind, R.out, R.opt, startS, slotV, slotP, W.now, cmpW, intsW, idxW, L2.atI, L2.ixN, bltW, on1, on2, ifB, Tg.den, Tgs.den, tgo, binW, addW, intW, absW, lenW, truW, tyW, isTy, E.give, E.fresh, W.isNon, lineN_small], .br n isWd_w.1 wOk.2.2.1 kx ky, v3⟩
      · exact ⟨_, a3, b3, by simp [b12, e, e2, e3, hn, l3, Df.run, Ss.den, S.den, E.den, Es.den, Es.bo, Es.bt, Eo.den, Eo.tst, E.tst, It.den, R.bind, R.out, R.opt, startS, slotV, slotP, W.now, cmpW, intsW, idxW, L2.atI, L2.ixN, bltW, on1, on2, ifB, Tg.den, Tgs.den, tgo, binW, addW, intW, absW, lenW, truW, tyW, isTy, E.give, E.fresh, W.isNon, lineN_small], .br n isWd_w.2.1 wOk.2.2.2.1 kx ky, v3⟩
      · exact ⟨_, a3, b3, by simp [b12, e, e2, e3, hn, l3, Df.run, Ss.den, S.den, E.den, Es.den, Es.bo, Es.bt, Eo.den, Eo.tst, E.tst, It.den, R.bind, R.out, R.opt, startS, slotV, slotP, W.now, cmpW, intsW, idxW, L2.atI, L2.ixN, bltW, on1, on2, ifB, Tg.den, Tgs.den, tgo, binW, addW, intW, absW, lenW, truW, tyW, isTy, E.give, E.fresh, W.isNon, lineN_small], .br n isWd_w.2.2 wOk.2.2.2.2 kx ky, v3⟩
theorem PV.three {s : Str} {a b : W} (hs : PyData.strOk s = true) (pa : PV a) (pb : PV b) : PV (.tup [.str s, a, b]) := .tup _ fun w hw => by
  rcases List.mem_cons.mp hw with rfl | hw
  · exact .str _ hs
  · rcases List.mem_cons.mp hw with rfl | hw
    · exact pa
    · have e := List.mem_singleton.mp hw
      subst e
      exact pb
theorem t14 : ∀ (n : Nat) {w o : W} {a b : Int} (q : KS n w) (po : PV o) (v : Vd a b), ∃ x a1 b1, pg.T (k+n+2) 14 [.ref 0, w, o] (PT a b) = .ok x (PT a1 b1) ∧ PV x ∧ Vd a1 b1 := by
  have l3 : lineN 3 = true := lineN_small (by omega)
  intro n
  induction n with
  | zero =>
    intro w o a b q po v
    have run : ∀ x h, pg.T (k+0+2) 14 x h = Df.run ⟨"_law_bent", ["_law_pot_here", "_law_kind_here", "_law_odd"], 3, b14⟩ ⟨pg.T (k+1), pg.cst, pg.par⟩ x h := fun _ _ => rfl
    rw [run]
    cases q with
    | letter n i => exact ⟨o, a, b, by simp [b14, inW, W.flat, flats, inWd, isWd_not, Df.run, Ss.den, S.den, E.den, Es.den, Es.bo, Es.bt, Eo.den, Eo.tst, E.tst, It.den, R.bind, R.out, R.opt, startS, slotV, slotP, W.now, cmpW, intsW, idxW, L2.atI, L2.ixN, bltW, on1, on2, ifB, Tg.den, Tgs.den, tgo, binW, addW, intW, absW, lenW, truW, tyW, isTy, E.give, E.fresh, W.isNon, lineN_small], po, v⟩
    | count n => exact ⟨o, a, b, by simp [b14, inW, W.flat, flats, inWd, isWd_not, Df.run, Ss.den, S.den, E.den, Es.den, Es.bo, Es.bt, Eo.den, Eo.tst, E.tst, It.den, R.bind, R.out, R.opt, startS, slotV, slotP, W.now, cmpW, intsW, idxW, L2.atI, L2.ixN, bltW, on1, on2, ifB, Tg.den, Tgs.den, tgo, binW, addW, intW, absW, lenW, truW, tyW, isTy, E.give, E.fresh, W.isNon, lineN_small], po, v⟩
  | succ n ih =>
    intro w o a b q po v
    have run : ∀ x h, pg.T (k+(n+1)+2) 14 x h = Df.run ⟨"_law_bent", ["_law_pot_here", "_law_kind_here", "_law_odd"], 3, b14⟩ ⟨pg.T (k+n+2), pg.cst, pg.par⟩ x h := fun _ _ => rfl
    rw [run]
    cases q with
    | letter n i => exact ⟨o, a, b, by simp [b14, inW, W.flat, flats, inWd, isWd_not, Df.run, Ss.den, S.den, E.den, Es.den, Es.bo, Es.bt, Eo.den, Eo.tst, E.tst, It.den, R.bind, R.out, R.opt, startS, slotV, slotP, W.now, cmpW, intsW, idxW, L2.atI, L2.ixN, bltW, on1, on2, ifB, Tg.den, Tgs.den, tgo, binW, addW, intW, absW, lenW, truW, tyW, isTy, E.give, E.fresh, W.isNon, lineN_small], po, v⟩
    | count n => exact ⟨o, a, b, by simp [b14, inW, W.flat, flats, inWd, isWd_not, Df.run, Ss.den, S.den, E.den, Es.den, Es.bo, Es.bt, Eo.den, Eo.tst, E.tst, It.den, R.bind, R.out, R.opt, startS, slotV, slotP, W.now, cmpW, intsW, idxW, L2.atI, L2.ixN, bltW, on1, on2, ifB, Tg.den, Tgs.den, tgo, binW, addW, intW, absW, lenW, truW, tyW, isTy, E.give, E.fresh, W.isNon, lineN_small], po, v⟩
    | @br n s x y hs ho kx ky =>
      obtain ⟨d, a1, b1, e, h0, h3, v1⟩ := t9 (k := k + n + 1) (n := 3) v (by omega) (by omega)
      by_cases hd : d = 0
      · subst hd
        exact ⟨o, a1, b1, by simp [b14, inW, W.flat, flats, inWd, hs, e, eqN, Df.run, Ss.den, S.den, E.den, Es.den, Es.bo, Es.bt, Eo.den, Eo.tst, E.tst, It.den, R.bind, R.out, R.opt, startS, slotV, slotP, W.now, cmpW, intsW, idxW, L2.atI, L2.ixN, bltW, on1, on2, ifB, Tg.den, Tgs.den, tgo, binW, addW, intW, absW, lenW, truW, tyW, isTy, E.give, E.fresh, W.isNon, lineN_small], po, v1⟩
      · obtain ⟨d2, a2, b2, e2, h02, h32, v2⟩ := t9 (k := k + n + 1) (n := 2) v1 (by omega) (by omega)
        by_cases hd2 : d2 = 0
        · subst hd2
          obtain ⟨z, a3, b3, e3, pz, v3⟩ := ih kx po v2
          exact ⟨_, a3, b3, by simp [b14, inW, W.flat, flats, inWd, hs, e, e2, e3, eqN, hd, l3, Df.run, Ss.den, S.den, E.den, Es.den, Es.bo, Es.bt, Eo.den, Eo.tst, E.tst, It.den, R.bind, R.out, R.opt, startS, slotV, slotP, W.now, cmpW, intsW, idxW, L2.atI, L2.ixN, bltW, on1, on2, ifB, Tg.den, Tgs.den, tgo, binW, addW, intW, absW, lenW, truW, tyW, isTy, E.give, E.fresh, W.isNon, lineN_small], .three ho pz ky.pv, v3⟩
        · obtain ⟨z, a3, b3, e3, pz, v3⟩ := ih ky po v2
          exact ⟨_, a3, b3, by simp [b14, inW, W.flat, flats, inWd, hs, e, e2, e3, eqN, hd, hd2, l3, Df.run, Ss.den, S.den, E.den, Es.den, Es.bo, Es.bt, Eo.den, Eo.tst, E.tst, It.den, R.bind, R.out, R.opt, startS, slotV, slotP, W.now, cmpW, intsW, idxW, L2.atI, L2.ixN, bltW, on1, on2, ifB, Tg.den, Tgs.den, tgo, binW, addW, intW, absW, lenW, truW, tyW, isTy, E.give, E.fresh, W.isNon, lineN_small], .three ho kx.pv pz, v3⟩
end K12

set_option maxHeartbeats 4000000
namespace K12
open PySem Ev
variable {j : Nat}
/-! ## parts of a block -/
def nth : Ss → Nat → S
  | .nil, _ => .pass ⟨0, 0, 0, 0⟩
  | .cons s _, 0 => s
  | .cons _ ss, n + 1 => nth ss n
def unfrz : S → S
  | .frz _ s => unfrz s
  | s => s
def forB (s : S) : Ss := match unfrz s with
  | .for _ _ b _ => b
  | _ => .nil
def forT (s : S) : Tg := match unfrz s with
  | .for t _ _ _ => t
  | _ => .tup .nil 0 ⟨0, 0, 0, 0⟩
def forI (s : S) : It := match unfrz s with
  | .for _ i _ _ => i
  | _ => .seq (.non 0 ⟨0, 0, 0, 0⟩)
theorem seq {D : Dn} {s : S} {ss : Ss} {σ σ1 : Sls} {h h1 : Obs} (e : s.den D σ h = .nx σ1 h1) : Ss.den D (.cons s ss) σ h = Ss.den D ss σ1 h1 := by
  show (match s.den D σ h with | .nx σ h => ss.den D σ h | o => o) = _
  rw [e]
abbrev D15 (j : Nat) : Dn := ⟨pg.T (j + 13), pg.cst, pg.par⟩
abbrev s15 (n : Nat) : S := nth b15 n
theorem c14 {w o : W} {a b : Int} (q : KS 3 w) (po : PV o) (v : Vd a b) : ∃ x a1 b1, pg.T (j + 13) 14 [.ref 0, w, o] (PT a b) = .ok x (PT a1 b1) ∧ PV x ∧ Vd a1 b1 := t14 (k := j + 8) 3 q po v
theorem c12 {a b : Int} (v : Vd a b) : ∃ w a1 b1, pg.T (j + 13) 12 [.ref 0, .int 3] (PT a b) = .ok w (PT a1 b1) ∧ KS 3 w ∧ Vd a1 b1 := t12 (k := j + 8) 3 v
theorem c9 {a b n : Int} (v : Vd a b) (hn : 0 < n) (hn2 : n ≤ 1000) : ∃ d a1 b1, pg.T (j + 13) 9 [.ref 0, .int n] (PT a b) = .ok (.int d) (PT a1 b1) ∧ 0 ≤ d ∧ d < n ∧ Vd a1 b1 := t9 (k := j + 12) v hn hn2
theorem c10 {a b : Int} (v : Vd a b) : ∃ s a1 b1, pg.T (j + 13) 10 [.ref 0, .lst W3] (PT a b) = .ok (.str s) (PT a1 b1) ∧ isWd s = true ∧ PyData.strOk s = true ∧ Vd a1 b1 := t10 (k := j + 11) v
theorem c0 {w : W} {h : Obs} (p : PV w) : pg.T (j + 13) 0 [w] h = .ok (.bl (isIn w)) h := t0 (k := j + 12) p
theorem c1 {w : W} {h : Obs} (p : PV w) : pg.T (j + 13) 1 [w] h = .ok (.bl (isCn w)) h := t1 (k := j + 11) p
theorem c2 {w : W} {h : Obs} (p : PV w) : pg.T (j + 13) 2 [w] h = .ok (.bl (isLs w)) h := t2 (k := j + 12) p
theorem c7 {w : W} {h : Obs} (p : PV w) : pg.T (j + 13) 7 [w] h = .ok (.bl (due w)) h := t7 (k := j + 8) p
theorem c13 {w : W} {h : Obs} (p : PV w) : pg.T (j + 13) 13 [w, .int 1] h = .ok (.bl (K 12 w).isSome) h := t13 (k := j) 12 p 1 rfl
theorem c11 {w : W} {h : Obs} {m : Nat} (p : PV w) (e : K 12 w = some m) : pg.T (j + 13) 11 [w] h = .ok (.int m) h := t11 (k := j + 1) 12 m p e
/-- all of them plain -/
def PVs (ws : List W) : Prop := ∀ w ∈ ws, PV w
theorem PVs.app {a b : List W} (p : PVs a) (q : PVs b) : PVs (a ++ b) := fun w hw => (List.mem_append.mp hw).elim (p w) (q w)
theorem PVs.cons {w : W} {b : List W} (p : PV w) (q : PVs b) : PVs (w :: b) := fun x hx => (List.mem_cons.mp hx).elim (fun e => e ▸ p) (q x)
theorem PVs.nil : PVs [] := fun _ h => by cases h
theorem otherOk : PyData.strOk "Letter" = true ∧ PyData.strOk "a" = true := by decide +kernel
/-- the first loop -/
theorem body1 {kd x : W} {vs : List W} {a b : Int} (q : KS 3 kd) (px : PV x) (hl : vs.length ≤ 200) (v : Vd a b) : ∃ y a1 b1, (forB (s15 1)).den (D15 j) [.val (.ref 0), .val kd, .own vs, .val x, .non, .non, .non, .non, .non, .non] (PT a b) =
    .nx [.val (.ref 0), .val kd, .own (vs ++ [x, y]), .val x, .non, .non, .non, .non, .non, .non] (PT a1 b1) ∧ PV y ∧ Vd a1 b1 := by
  obtain ⟨y, a1, b1, e, py, v1⟩ := c14 (j := j) q px v
  have l2 : lineN 2 = true := lineN_small (by omega)
  have l3 : lineN (vs.length + 2) = true := lineN_small (by omega)
  refine ⟨y, a1, b1, ?_, py, v1⟩
  simp [s15, nth, unfrz, forB, b15, e, l2, l3, Df.run, Ss.den, S.den, E.den, Es.den, Es.bo, Es.bt, Eo.den, Eo.tst, E.tst, It.den, R.bind, R.out, R.opt, startS, slotV, slotP, W.now, cmpW, intsW, idxW, L2.atI, L2.ixN, bltW, on1, on2, ifB, Tg.den, Tgs.den, tgo, binW, addW, intW, absW, lenW, truW, tyW, isTy, E.give, E.fresh, W.isNon, lineN_small]
theorem loop1 {kd : W} (q : KS 3 kd) : ∀ (xs vs : List W) (o : Sl) {a b : Int}, PVs xs → PVs vs → vs.length + 2 * xs.length ≤ 150 → Vd a b →
    ∃ vs1 o1 a1 b1, forGo (fun w σ h => (forT (s15 1)).den (D15 j) w σ h) (fun σ h => (forB (s15 1)).den (D15 j) σ h) xs [.val (.ref 0), .val kd, .own vs, o, .non, .non, .non, .non, .non, .non] (PT a b) =
      .nx [.val (.ref 0), .val kd, .own vs1, o1, .non, .non, .non, .non, .non, .non] (PT a1 b1) ∧ PVs vs1 ∧ vs1.length = vs.length + 2 * xs.length ∧ Vd a1 b1
  | [], vs, o, a, b, _, pv, hl, v => ⟨vs, o, a, b, rfl, pv, rfl, v⟩
  | x :: xs, vs, o, a, b, px, pv, hl, v => by
    simp only [List.length_cons] at hl
    obtain ⟨y, a1, b1, e, py, v1⟩ := body1 (j := j) (vs := vs) q (px x List.mem_cons_self) (by omega) v
    obtain ⟨vs1, o1, a2, b2, e2, p2, l2, v2⟩ := loop1 q xs (vs ++ [x, y]) (.val x) (fun w hw => px w (List.mem_cons_of_mem _ hw)) (pv.app (.cons (px x List.mem_cons_self) (.cons py .nil))) (by simp only [List.length_append, List.length_cons, List.length_nil]; omega) v1
    refine ⟨vs1, o1, a2, b2, ?_, p2, by rw [l2]; simp only [List.length_append, List.length_cons, List.length_nil]; omega, v2⟩
    have put : (forT (s15 1)).den (D15 j) x [.val (.ref 0), .val kd, .own vs, o, .non, .non, .non, .non, .non, .non] (PT a b) = .ok [.val (.ref 0), .val kd, .own vs, .val x, .non, .non, .non, .non, .non, .non] (PT a b) := rfl
    unfold forGo
    simp only [put, e]
    exact e2
/-- the tower -/
theorem body4 {kd tw wd : W} {vs : List W} {i : Int} {a b : Int} {s3 : Sl} (pt : PV tw) (hl : vs.length ≤ 200) (v : Vd a b) : ∃ tw1 vs1 a1 b1, (forB (s15 4)).den (D15 j) [.val (.ref 0), .val kd, .own vs, s3, .val tw, .val wd, .val (.int i), .non, .non, .non] (PT a b) =
    .nx [.val (.ref 0), .val kd, .own (vs ++ vs1), s3, .val tw1, .val wd, .val (.int i), .non, .non, .non] (PT a1 b1) ∧ PV tw1 ∧ PVs vs1 ∧ vs1.length ≤ 1 ∧ Vd a1 b1 := by
  obtain ⟨d, a1, b1, e, h0, h2, v1⟩ := c9 (j := j) (n := 2) v (by omega) (by omega)
  have l1 : lineN 1 = true := lineN_small (by omega)
  have l3 : lineN 3 = true := lineN_small (by omega)
  have sl : decide (vs.length < sizeLine) = true := decide_eq_true (by rw [sizeLine_eq]; omega)
  have sl2 : vs.length < sizeLine := of_decide_eq_true sl
  have pc : PV (.tup [.str "count"]) := (KS.count 0).pv
  by_cases hd : d = 0
  · subst hd
    obtain ⟨s, a2, b2, e2, hs, ho, v2⟩ := c10 (j := j) v1
    by_cases hi : 9 < i
    · refine ⟨.tup [.str s, tw, .tup [.str "count"]], [.tup [.str s, tw, .tup [.str "count"]]], a2, b2, ?_, .three ho pt pc, .cons (.three ho pt pc) .nil, by simp, v2⟩
      simp [s15, nth, unfrz, forB, b15, e, e2, l1, l3, eqN, hi, sl2, Df.run, Ss.den, S.den, E.den, Es.den, Es.bo, Es.bt, Eo.den, Eo.tst, E.tst, It.den, R.bind, R.out, R.opt, startS, slotV, slotP, W.now, cmpW, intsW, idxW, L2.atI, L2.ixN, bltW, on1, on2, ifB, Tg.den, Tgs.den, tgo, binW, addW, intW, absW, lenW, truW, tyW, isTy, E.give, E.fresh, W.isNon, lineN_small]
    · refine ⟨.tup [.str s, tw, .tup [.str "count"]], [], a2, b2, ?_, .three ho pt pc, .nil, by simp, v2⟩
      simp [s15, nth, unfrz, forB, b15, e, e2, l1, l3, eqN, hi, Df.run, Ss.den, S.den, E.den, Es.den, Es.bo, Es.bt, Eo.den, Eo.tst, E.tst, It.den, R.bind, R.out, R.opt, startS, slotV, slotP, W.now, cmpW, intsW, idxW, L2.atI, L2.ixN, bltW, on1, on2, ifB, Tg.den, Tgs.den, tgo, binW, addW, intW, absW, lenW, truW, tyW, isTy, E.give, E.fresh, W.isNon, lineN_small]
  · by_cases hi : 9 < i
    · refine ⟨.tup [.str "fun", .tup [.str "count"], tw], [.tup [.str "fun", .tup [.str "count"], tw]], a1, b1, ?_, .three wOk.2.2.2.2 pc pt, .cons (.three wOk.2.2.2.2 pc pt) .nil, by simp, v1⟩
      simp [s15, nth, unfrz, forB, b15, e, l1, l3, eqN, hd, hi, sl2, Df.run, Ss.den, S.den, E.den, Es.den, Es.bo, Es.bt, Eo.den, Eo.tst, E.tst, It.den, R.bind, R.out, R.opt, startS, slotV, slotP, W.now, cmpW, intsW, idxW, L2.atI, L2.ixN, bltW, on1, on2, ifB, Tg.den, Tgs.den, tgo, binW, addW, intW, absW, lenW, truW, tyW, isTy, E.give, E.fresh, W.isNon, lineN_small]
    · refine ⟨.tup [.str "fun", .tup [.str "count"], tw], [], a1, b1, ?_, .three wOk.2.2.2.2 pc pt, .nil, by simp, v1⟩
      simp [s15, nth, unfrz, forB, b15, e, l1, l3, eqN, hd, hi, Df.run, Ss.den, S.den, E.den, Es.den, Es.bo, Es.bt, Eo.den, Eo.tst, E.tst, It.den, R.bind, R.out, R.opt, startS, slotV, slotP, W.now, cmpW, intsW, idxW, L2.atI, L2.ixN, bltW, on1, on2, ifB, Tg.den, Tgs.den, tgo, binW, addW, intW, absW, lenW, truW, tyW, isTy, E.give, E.fresh, W.isNon, lineN_small]
theorem loop4 {kd wd : W} {s3 : Sl} : ∀ (n : Nat) (lo : Int) (vs : List W) (tw : W) (o : Sl) {a b : Int}, PV tw → PVs vs → vs.length + n ≤ 150 → Vd a b →
    ∃ vs1 tw1 o1 a1 b1, forGo (fun w σ h => (forT (s15 4)).den (D15 j) w σ h) (fun σ h => (forB (s15 4)).den (D15 j) σ h) (rngW lo n) [.val (.ref 0), .val kd, .own vs, s3, .val tw, .val wd, o, .non, .non, .non] (PT a b) =
      .nx [.val (.ref 0), .val kd, .own vs1, s3, .val tw1, .val wd, o1, .non, .non, .non] (PT a1 b1) ∧ PVs vs1 ∧ vs1.length ≤ vs.length + n ∧ Vd a1 b1
  | 0, lo, vs, tw, o, a, b, pt, pv, hl, v => ⟨vs, tw, o, a, b, rfl, pv, Nat.le_refl _, v⟩
  | n + 1, lo, vs, tw, o, a, b, pt, pv, hl, v => by
    obtain ⟨tw1, us, a1, b1, e, p1, pu, lu, v1⟩ := body4 (j := j) (kd := kd) (wd := wd) (s3 := s3) (vs := vs) (i := lo) pt (by omega) v
    obtain ⟨vs1, tw2, o1, a2, b2, e2, p2, l2, v2⟩ := loop4 n (lo + 1) (vs ++ us) tw1 (.val (.int lo)) p1 (pv.app pu) (by simp only [List.length_append]; omega) v1
    refine ⟨vs1, tw2, o1, a2, b2, ?_, p2, by simp only [List.length_append] at l2; omega, v2⟩
    have put : (forT (s15 4)).den (D15 j) (.int lo) [.val (.ref 0), .val kd, .own vs, s3, .val tw, .val wd, o, .non, .non, .non] (PT a b) = .ok [.val (.ref 0), .val kd, .own vs, s3, .val tw, .val wd, .val (.int lo), .non, .non, .non] (PT a b) := rfl
    show forGo _ _ (.int lo :: rngW (lo + 1) n) _ _ = _
    unfold forGo
    simp only [put, e]
    exact e2
/-! ## the last loop -/
theorem rep3 (a b c : Bool) : ∃ s, reprW (.lst [.bl a, .bl b, .bl c]) = some s ∧ PyData.strOk s = true := by
  cases a <;> cases b <;> cases c <;> exact ⟨_, by rfl, by decide +kernel⟩
theorem rep2 (a b : Bool) : ∃ s, reprW (.lst [.bl a, .bl b]) = some s ∧ PyData.strOk s = true := by
  cases a <;> cases b <;> exact ⟨_, by rfl, by decide +kernel⟩
theorem body8 {kd x : W} {s2 s3 s4 s5 s6 s8 s9 : Sl} {h : Obs} (px : PV x) : ∃ t8 t9, (forB (s15 8)).den (D15 j) [.val (.ref 0), .val kd, s2, s3, s4, s5, s6, .val x, s8, s9] h = .nx [.val (.ref 0), .val kd, s2, s3, s4, s5, s6, .val x, t8, t9] h := by
  have l2 : lineN 2 = true := lineN_small (by omega)
  have l3 : lineN 3 = true := lineN_small (by omega)
  have e0 := c0 (j := j) (h := h) px
  have e1 := c1 (j := j) (h := h) px
  have e2 := c2 (j := j) (h := h) px
  have e7 := c7 (j := j) (h := h) px
  have e13 := c13 (j := j) (h := h) px
  have par : pg.par 7 = (["value"] : List Str) := rfl
  obtain ⟨s, r3, ok3⟩ := rep3 (isIn x) (isCn x) (isLs x)
  obtain ⟨t, r2, ok2⟩ := rep2 (due x) (due x)
  refine ⟨.val (.bl (isIn x)), .val (.bl (due x)), ?_⟩
  cases hk : K 12 x with
  | none =>
    have hd : due x = false := by unfold due; rw [hk]
    rw [hk] at e13
    rw [hd] at r2 e7 ⊢
    cases px with
    | int i => by_cases hi : 0 ≤ i <;> simp [isIn, isCn, isLs, hi] at r3 e0 e1 e2 ⊢ <;> simp [s15, nth, unfrz, forB, b15, e0, e1, e2, e7, e13, par, kwPut, kwAll, Ks.den, l2, l3, r3, r2, eqS, ok3, ok2, hi, Df.run, Ss.den, S.den, E.den, Es.den, Es.bo, Es.bt, Eo.den, Eo.tst, E.tst, It.den, R.bind, R.out, R.opt, startS, slotV, slotP, W.now, cmpW, intsW, idxW, L2.atI, L2.ixN, bltW, on1, on2, ifB, Tg.den, Tgs.den, tgo, binW, addW, intW, absW, lenW, truW, tyW, isTy, E.give, E.fresh, W.isNon, lineN_small]
    | _ => simp [isIn, isCn, isLs] at r3 e0 e1 e2 ⊢ <;> simp [s15, nth, unfrz, forB, b15, e0, e1, e2, e7, e13, par, kwPut, kwAll, Ks.den, l2, l3, r3, r2, eqS, ok3, ok2, Df.run, Ss.den, S.den, E.den, Es.den, Es.bo, Es.bt, Eo.den, Eo.tst, E.tst, It.den, R.bind, R.out, R.opt, startS, slotV, slotP, W.now, cmpW, intsW, idxW, L2.atI, L2.ixN, bltW, on1, on2, ifB, Tg.den, Tgs.den, tgo, binW, addW, intW, absW, lenW, truW, tyW, isTy, E.give, E.fresh, W.isNon, lineN_small]
  | some m =>
    have e11 := c11 (j := j) (h := h) px hk
    have hd : due x = decide (m ≤ 60) := by unfold due; rw [hk]
    rw [hk] at e13
    rw [hd] at r2 e7 ⊢
    have hm : ((m : Int) ≤ 60) ↔ m ≤ 60 := by omega
    cases px with
    | int i => by_cases hi : 0 ≤ i <;> simp [isIn, isCn, isLs, hi] at r3 e0 e1 e2 ⊢ <;> simp [s15, nth, unfrz, forB, b15, e0, e1, e2, e7, e13, e11, hm, par, kwPut, kwAll, Ks.den, l2, l3, r3, r2, eqS, ok3, ok2, hi, Df.run, Ss.den, S.den, E.den, Es.den, Es.bo, Es.bt, Eo.den, Eo.tst, E.tst, It.den, R.bind, R.out, R.opt, startS, slotV, slotP, W.now, cmpW, intsW, idxW, L2.atI, L2.ixN, bltW, on1, on2, ifB, Tg.den, Tgs.den, tgo, binW, addW, intW, absW, lenW, truW, tyW, isTy, E.give, E.fresh, W.isNon, lineN_small]
    | _ => simp [isIn, isCn, isLs] at r3 e0 e1 e2 ⊢ <;> simp [s15, nth, unfrz, forB, b15, e0, e1, e2, e7, e13, e11, hm, par, kwPut, kwAll, Ks.den, l2, l3, r3, r2, eqS, ok3, ok2, Df.run, Ss.den, S.den, E.den, Es.den, Es.bo, Es.bt, Eo.den, Eo.tst, E.tst, It.den, R.bind, R.out, R.opt, startS, slotV, slotP, W.now, cmpW, intsW, idxW, L2.atI, L2.ixN, bltW, on1, on2, ifB, Tg.den, Tgs.den, tgo, binW, addW, intW, absW, lenW, truW, tyW, isTy, E.give, E.fresh, W.isNon, lineN_small]
theorem loop8 {kd : W} {s2 s3 s4 s5 s6 : Sl} {h : Obs} : ∀ (xs : List W) (s7 s8 s9 : Sl), PVs xs → ∃ σ, forGo (fun w σ h => (forT (s15 8)).den (D15 j) w σ h) (fun σ h => (forB (s15 8)).den (D15 j) σ h) xs [.val (.ref 0), .val kd, s2, s3, s4, s5, s6, s7, s8, s9] h = .nx σ h
  | [], s7, s8, s9, _ => ⟨_, rfl⟩
  | x :: xs, s7, s8, s9, px => by
    obtain ⟨u8, u9, e⟩ := body8 (j := j) (kd := kd) (s2 := s2) (s3 := s3) (s4 := s4) (s5 := s5) (s6 := s6) (s8 := s8) (s9 := s9) (h := h) (px x List.mem_cons_self)
    obtain ⟨σ, e2⟩ := loop8 (kd := kd) (s2 := s2) (s3 := s3) (s4 := s4) (s5 := s5) (s6 := s6) (h := h) xs (.val x) u8 u9 (fun w hw => px w (List.mem_cons_of_mem _ hw))
    refine ⟨σ, ?_⟩
    have put : (forT (s15 8)).den (D15 j) x [.val (.ref 0), .val kd, s2, s3, s4, s5, s6, s7, s8, s9] h = .ok [.val (.ref 0), .val kd, s2, s3, s4, s5, s6, .val x, s8, s9] h := rfl
    unfold forGo
    simp only [put, e]
    exact e2
/-! ## the law -/
theorem pairs (k : W) (pk : PV k) : PVs [.tup [.str "letter", .int 6], .tup [.str "letter", .int (-1)], .tup [.str "letter", .bl true], .tup [.str "letter", .str "a"], .tup [.str "Letter", .int 0]] := by
  have two : ∀ {s : Str} {x : W}, PyData.strOk s = true → PV x → PV (.tup [.str s, x]) := fun {s x} hs px => .tup _ (PVs.cons (.str _ hs) (PVs.cons px PVs.nil))
  exact .cons (two wOk.1 (.int _)) (.cons (two wOk.1 (.int _)) (.cons (two wOk.1 (.bl _)) (.cons (two wOk.1 (.str _ otherOk.2)) (.cons (two otherOk.1 (.int _)) .nil))))
def odds (k : W) : List W := [.non, .tup [.str "letter", .int 6], .tup [.str "letter", .int (-1)], .tup [.str "letter", .bl true], .tup [.str "letter", .str "a"], .tup [.str "Letter", .int 0], .lst [.str "letter", .int 0], .tup [.str "pair", k], .tup [.str "fun", k, k, k], .tup [.str "sum", k, .lst []]]
theorem odds_pv {k : W} (pk : PV k) : PVs (odds k) := by
  refine .cons .non (PVs.app (a := [.tup [.str "letter", .int 6], .tup [.str "letter", .int (-1)], .tup [.str "letter", .bl true], .tup [.str "letter", .str "a"], .tup [.str "Letter", .int 0]]) (pairs k pk) ?_)
  refine .cons (.lst _ (PVs.cons (.str _ wOk.1) (PVs.cons (.int _) PVs.nil))) (.cons (.tup _ (PVs.cons (.str _ wOk.2.2.1) (PVs.cons pk PVs.nil))) (.cons (.tup _ (PVs.cons (.str _ wOk.2.2.2.2) (PVs.cons pk (PVs.cons pk (PVs.cons pk PVs.nil))))) (.cons ?_ .nil)))
  exact .tup _ (PVs.cons (.str _ wOk.2.2.2.1) (PVs.cons pk (PVs.cons (.lst _ PVs.nil) PVs.nil)))
def firsts : List W := [.non, .int 0, .int (-1), .bl true, .str "count", .str "letter", .lst [], .tup [], .emp, .tup [.str "count"], .lst [.str "count"], .tup [.str "count", .int 0], .tup [.str "letter"], .tup [.non], .tup [.int 1, .int 2]]
theorem firsts_pv : PVs firsts := by
  have c := PV.str "count" wOk.2.1
  have l := PV.str "letter" wOk.1
  exact .cons .non (.cons (.int _) (.cons (.int _) (.cons (.bl _) (.cons c (.cons l (.cons (.lst _ PVs.nil) (.cons (.tup _ PVs.nil) (.cons .emp (.cons (.tup _ (PVs.cons c PVs.nil)) (.cons (.lst _ (PVs.cons c PVs.nil)) (.cons (.tup _ (PVs.cons c (PVs.cons (.int _) PVs.nil))) (.cons (.tup _ (PVs.cons l PVs.nil)) (.cons (.tup _ (PVs.cons .non PVs.nil)) (.cons (.tup _ (PVs.cons (.int _) (PVs.cons (.int _) PVs.nil))) .nil))))))))))))))
def w0 : W := .tup [.str "count"]
def w1 : W := .tup [.str "pair", w0, w0]
def w2 : W := .tup [.str "pair", w1, w1]
def w3 : W := .tup [.str "pair", w2, w2]
def w4 : W := .tup [.str "pair", w3, w3]
theorem w0_pv : PV w0 := (KS.count 0).pv
theorem w1_pv : PV w1 := .three wOk.2.2.1 w0_pv w0_pv
theorem w2_pv : PV w2 := .three wOk.2.2.1 w1_pv w1_pv
theorem w3_pv : PV w3 := .three wOk.2.2.1 w2_pv w2_pv
theorem w4_pv : PV w4 := .three wOk.2.2.1 w3_pv w3_pv
theorem KS.lst {n : Nat} {w : W} (q : KS n w) : ∃ ws, w = .tup ws ∧ PVs ws := by
  have p := q.pv
  cases q <;> (cases p with | tup ws h => exact ⟨_, rfl, h⟩)
theorem st0 {a b : Int} (v : Vd a b) : ∃ kd a1 b1, (s15 0).den (D15 j) (startS 10 [.ref 0]) (PT a b) = .nx [.val (.ref 0), .val kd, .own firsts, .non, .non, .non, .non, .non, .non, .non] (PT a1 b1) ∧ KS 3 kd ∧ Vd a1 b1 := by
  obtain ⟨kd, a1, b1, e, q, v1⟩ := c12 (j := j) v
  have l0 : lineN 0 = true := lineN_small (by omega)
  have l1 : lineN 1 = true := lineN_small (by omega)
  have l2 : lineN 2 = true := lineN_small (by omega)
  have l15 : lineN 15 = true := lineN_small (by omega)
  refine ⟨kd, a1, b1, ?_, q, v1⟩
  simp [s15, nth, b15, e, l0, l1, l2, l15, firsts, Df.run, Ss.den, S.den, E.den, Es.den, Es.bo, Es.bt, Eo.den, Eo.tst, E.tst, It.den, R.bind, R.out, R.opt, startS, slotV, slotP, W.now, cmpW, intsW, idxW, L2.atI, L2.ixN, bltW, on1, on2, ifB, Tg.den, Tgs.den, tgo, binW, addW, intW, absW, lenW, truW, tyW, isTy, E.give, E.fresh, W.isNon, lineN_small]
theorem st1 {kd : W} {vs : List W} {a b : Int} (q : KS 3 kd) (pv : PVs vs) (hl : vs.length ≤ 100) (v : Vd a b) : ∃ vs1 o1 a1 b1, (s15 1).den (D15 j) [.val (.ref 0), .val kd, .own vs, .non, .non, .non, .non, .non, .non, .non] (PT a b) =
    .nx [.val (.ref 0), .val kd, .own vs1, o1, .non, .non, .non, .non, .non, .non] (PT a1 b1) ∧ PVs vs1 ∧ vs1.length = vs.length + 20 ∧ Vd a1 b1 := by
  have ei : (forI (s15 1)).den (D15 j) [.val (.ref 0), .val kd, .own vs, .non, .non, .non, .non, .non, .non, .non] (PT a b) = .ok (odds kd) (PT a b) := by
    have l0 : lineN 0 = true := lineN_small (by omega)
    have l2 : lineN 2 = true := lineN_small (by omega)
    have l3 : lineN 3 = true := lineN_small (by omega)
    have l4 : lineN 4 = true := lineN_small (by omega)
    have l10 : lineN 10 = true := lineN_small (by omega)
    simp [s15, nth, unfrz, forI, b15, odds, W.items, l0, l2, l3, l4, l10, Df.run, Ss.den, S.den, E.den, Es.den, Es.bo, Es.bt, Eo.den, Eo.tst, E.tst, It.den, R.bind, R.out, R.opt, startS, slotV, slotP, W.now, cmpW, intsW, idxW, L2.atI, L2.ixN, bltW, on1, on2, ifB, Tg.den, Tgs.den, tgo, binW, addW, intW, absW, lenW, truW, tyW, isTy, E.give, E.fresh, W.isNon, lineN_small]
  obtain ⟨vs1, o1, a1, b1, e, p1, l1, v1⟩ := loop1 (j := j) q (odds kd) vs .non (odds_pv q.pv) pv (by show vs.length + 2 * 10 ≤ 150; omega) v
  refine ⟨vs1, o1, a1, b1, ?_, p1, l1, v1⟩
  show (match (forI (s15 1)).den (D15 j) [.val (.ref 0), .val kd, .own vs, .non, .non, .non, .non, .non, .non, .non] (PT a b) with
    | .ok xs h => forGo (fun w σ h => (forT (s15 1)).den (D15 j) w σ h) (fun σ h => (forB (s15 1)).den (D15 j) σ h) xs [.val (.ref 0), .val kd, .own vs, .non, .non, .non, .non, .non, .non, .non] h
    | .exc x h => .exc x [.val (.ref 0), .val kd, .own vs, .non, .non, .non, .non, .non, .non, .non] h
    | .bad => .bad) = _
  rw [ei]
  exact e
theorem st2 {kd : W} {vs : List W} {o : Sl} {a b : Int} (q : KS 3 kd) (pv : PVs vs) (hl : vs.length ≤ 100) (v : Vd a b) : ∃ vs1 a1 b1, (s15 2).den (D15 j) [.val (.ref 0), .val kd, .own vs, o, .non, .non, .non, .non, .non, .non] (PT a b) =
    .nx [.val (.ref 0), .val kd, .own vs1, o, .non, .non, .non, .non, .non, .non] (PT a1 b1) ∧ PVs vs1 ∧ vs1.length = vs.length + 7 ∧ Vd a1 b1 := by
  have pl : PV (.tup [.str "letter", .int 5]) := .tup _ (PVs.cons (.str _ wOk.1) (PVs.cons (.int _) PVs.nil))
  obtain ⟨x, a1, b1, e, px, v1⟩ := c14 (j := j) q pl v
  obtain ⟨ks, rfl, pk⟩ := q.lst
  have l1 : lineN 1 = true := lineN_small (by omega)
  have l2 : lineN 2 = true := lineN_small (by omega)
  have l3 : lineN 3 = true := lineN_small (by omega)
  have l7 : lineN 7 = true := lineN_small (by omega)
  have lv : lineN (vs.length + 7) = true := lineN_small (by omega)
  have c := PV.str "count" wOk.2.1
  refine ⟨vs ++ [.tup ks, .lst ks, x, .tup [.str "fun", .tup ks, .tup ks], .str "fun", .tup [.str "pair", .str "count", .str "count"], .tup [.lst [.str "fun"], .tup ks, .tup ks]], a1, b1, ?_, ?_, by simp, v1⟩
  · simp [s15, nth, b15, e, l1, l2, l3, l7, lv, listW, Df.run, Ss.den, S.den, E.den, Es.den, Es.bo, Es.bt, Eo.den, Eo.tst, E.tst, It.den, R.bind, R.out, R.opt, startS, slotV, slotP, W.now, cmpW, intsW, idxW, L2.atI, L2.ixN, bltW, on1, on2, ifB, Tg.den, Tgs.den, tgo, binW, addW, intW, absW, lenW, truW, tyW, isTy, E.give, E.fresh, W.isNon, lineN_small]
  · refine pv.app (.cons q.pv (.cons (.lst _ pk) (.cons px (.cons (.three wOk.2.2.2.2 q.pv q.pv) (.cons (.str _ wOk.2.2.2.2) (.cons (.three wOk.2.2.1 c c) (.cons ?_ .nil)))))))
    exact .tup _ (PVs.cons (.lst _ (PVs.cons (.str _ wOk.2.2.2.2) PVs.nil)) (PVs.cons q.pv (PVs.cons q.pv PVs.nil)))
theorem st3 {kd : W} {s2 s3 : Sl} {a b : Int} (v : Vd a b) : ∃ tw a1 b1, (s15 3).den (D15 j) [.val (.ref 0), .val kd, s2, s3, .non, .non, .non, .non, .non, .non] (PT a b) = .nx [.val (.ref 0), .val kd, s2, s3, .val tw, .val w0, .non, .non, .non, .non] (PT a1 b1) ∧ PV tw ∧ Vd a1 b1 := by
  obtain ⟨d, a1, b1, e, h0, h6, v1⟩ := c9 (j := j) (n := 6) v (by omega) (by omega)
  have l1 : lineN 1 = true := lineN_small (by omega)
  have l2 : lineN 2 = true := lineN_small (by omega)
  refine ⟨.tup [.str "letter", .int d], a1, b1, ?_, (KS.letter 0 d).pv, v1⟩
  simp [s15, nth, b15, e, l1, l2, w0, Df.run, Ss.den, S.den, E.den, Es.den, Es.bo, Es.bt, Eo.den, Eo.tst, E.tst, It.den, R.bind, R.out, R.opt, startS, slotV, slotP, W.now, cmpW, intsW, idxW, L2.atI, L2.ixN, bltW, on1, on2, ifB, Tg.den, Tgs.den, tgo, binW, addW, intW, absW, lenW, truW, tyW, isTy, E.give, E.fresh, W.isNon, lineN_small]
theorem st4 {kd tw wd : W} {vs : List W} {s3 : Sl} {a b : Int} (pt : PV tw) (pv : PVs vs) (hl : vs.length ≤ 100) (v : Vd a b) : ∃ vs1 tw1 o1 a1 b1, (s15 4).den (D15 j) [.val (.ref 0), .val kd, .own vs, s3, .val tw, .val wd, .non, .non, .non, .non] (PT a b) =
    .nx [.val (.ref 0), .val kd, .own vs1, s3, .val tw1, .val wd, o1, .non, .non, .non] (PT a1 b1) ∧ PVs vs1 ∧ vs1.length ≤ vs.length + 13 ∧ Vd a1 b1 := loop4 (j := j) 13 0 vs tw .non pt pv (by omega) v
theorem st5 {kd tw : W} {s2 s3 o : Sl} {h : Obs} : (s15 5).den (D15 j) [.val (.ref 0), .val kd, s2, s3, .val tw, .val w0, o, .non, .non, .non] h = .nx [.val (.ref 0), .val kd, s2, s3, .val tw, .val w4, .val (.int 3), .non, .non, .non] h := by
  have l3 : lineN 3 = true := lineN_small (by omega)
  simp [s15, nth, b15, l3, w4, w3, w2, w1, in62, rng1, rngW, forGo, Df.run, Ss.den, S.den, E.den, Es.den, Es.bo, Es.bt, Eo.den, Eo.tst, E.tst, It.den, R.bind, R.out, R.opt, startS, slotV, slotP, W.now, cmpW, intsW, idxW, L2.atI, L2.ixN, bltW, on1, on2, ifB, Tg.den, Tgs.den, tgo, binW, addW, intW, absW, lenW, truW, tyW, isTy, E.give, E.fresh, W.isNon, lineN_small]
theorem st6 {kd : W} {vs : List W} {s3 s4 s6 : Sl} {h : Obs} (pv : PVs vs) (hl : vs.length ≤ 150) : ∃ vs1, (s15 6).den (D15 j) [.val (.ref 0), .val kd, .own vs, s3, s4, .val w4, s6, .non, .non, .non] h = .nx [.val (.ref 0), .val kd, .own vs1, s3, s4, .val w4, s6, .non, .non, .non] h ∧ PVs vs1 ∧ vs1.length = vs.length + 3 := by
  have l3 : lineN 3 = true := lineN_small (by omega)
  have lv : lineN (vs.length + 3) = true := lineN_small (by omega)
  refine ⟨vs ++ [.tup [.str "fun", w4, .tup [.str "pair", w3, w3]], .tup [.str "fun", w4, .tup [.str "pair", w3, w2]], .tup [.str "fun", w4, .tup [.str "pair", w3, .tup [.str "pair", w2, w1]]]], ?_, ?_, by simp⟩
  · simp [s15, nth, b15, l3, lv, w4, w3, w2, w1, Df.run, Ss.den, S.den, E.den, Es.den, Es.bo, Es.bt, Eo.den, Eo.tst, E.tst, It.den, R.bind, R.out, R.opt, startS, slotV, slotP, W.now, cmpW, intsW, idxW, L2.atI, L2.ixN, bltW, on1, on2, ifB, Tg.den, Tgs.den, tgo, binW, addW, intW, absW, lenW, truW, tyW, isTy, E.give, E.fresh, W.isNon, lineN_small]
  · exact pv.app (.cons (.three wOk.2.2.2.2 w4_pv (.three wOk.2.2.1 w3_pv w3_pv)) (.cons (.three wOk.2.2.2.2 w4_pv (.three wOk.2.2.1 w3_pv w2_pv)) (.cons (.three wOk.2.2.2.2 w4_pv (.three wOk.2.2.1 w3_pv (.three wOk.2.2.1 w2_pv w1_pv))) .nil)))
theorem st7 {kd : W} {vs : List W} {s3 s4 s6 : Sl} {h : Obs} (pv : PVs vs) (hl : vs.length ≤ 200) : ∃ vs1, (s15 7).den (D15 j) [.val (.ref 0), .val kd, .own vs, s3, s4, .val w4, s6, .non, .non, .non] h = .nx [.val (.ref 0), .val kd, .own vs1, s3, s4, .val w4, s6, .non, .non, .non] h ∧ PVs vs1 := by
  have l1 : lineN 1 = true := lineN_small (by omega)
  have l3 : lineN 3 = true := lineN_small (by omega)
  have sl2 : vs.length < sizeLine := by rw [sizeLine_eq]; omega
  refine ⟨vs ++ [.tup [.str "fun", w4, .tup [.str "pair", w3, .tup [.str "pair", w2, .tup [.str "pair", w1, w0]]]]], ?_, ?_⟩
  · simp [s15, nth, b15, l1, l3, sl2, w4, w3, w2, w1, w0, Df.run, Ss.den, S.den, E.den, Es.den, Es.bo, Es.bt, Eo.den, Eo.tst, E.tst, It.den, R.bind, R.out, R.opt, startS, slotV, slotP, W.now, cmpW, intsW, idxW, L2.atI, L2.ixN, bltW, on1, on2, ifB, Tg.den, Tgs.den, tgo, binW, addW, intW, absW, lenW, truW, tyW, isTy, E.give, E.fresh, W.isNon, lineN_small]
  · exact pv.app (.cons (.three wOk.2.2.2.2 w4_pv (.three wOk.2.2.1 w3_pv (.three wOk.2.2.1 w2_pv (.three wOk.2.2.1 w1_pv w0_pv)))) .nil)
theorem st8 {kd : W} {vs : List W} {s3 s4 s5 s6 : Sl} {h : Obs} (pv : PVs vs) : ∃ σ, (s15 8).den (D15 j) [.val (.ref 0), .val kd, .own vs, s3, s4, s5, s6, .non, .non, .non] h = .nx σ h :=
  loop8 (j := j) (kd := kd) (s2 := .val (.lst vs)) (s3 := s3) (s4 := s4) (s5 := s5) (s6 := s6) (h := h) vs .non .non .non pv
theorem t15 {a b : Int} (v : Vd a b) : ∃ h, pg.T (j + 14) 15 [.ref 0] (PT a b) = .ok (.bl true) h := by
  obtain ⟨kd, a1, b1, e0, q, v1⟩ := st0 (j := j) v
  obtain ⟨vs1, o1, a2, b2, e1, p1, l1, v2⟩ := st1 (j := j) q firsts_pv (by decide) v1
  have lf : firsts.length = 15 := rfl
  obtain ⟨vs2, a3, b3, e2, p2, l2, v3⟩ := st2 (j := j) (o := o1) q p1 (by omega) v2
  obtain ⟨tw, a4, b4, e3, pt, v4⟩ := st3 (j := j) (kd := kd) (s2 := .own vs2) (s3 := o1) v3
  obtain ⟨vs4, tw4, o4, a5, b5, e4, p4, l4, v5⟩ := st4 (j := j) (kd := kd) (wd := w0) (s3 := o1) pt p2 (by omega) v4
  have e5 := st5 (j := j) (kd := kd) (tw := tw4) (s2 := .own vs4) (s3 := o1) (o := o4) (h := PT a5 b5)
  obtain ⟨vs6, e6, p6, l6⟩ := st6 (j := j) (kd := kd) (s3 := o1) (s4 := .val tw4) (s6 := .val (.int 3)) (h := PT a5 b5) p4 (by omega)
  obtain ⟨vs7, e7, p7⟩ := st7 (j := j) (kd := kd) (s3 := o1) (s4 := .val tw4) (s6 := .val (.int 3)) (h := PT a5 b5) p6 (by omega)
  obtain ⟨σ, e8⟩ := st8 (j := j) (kd := kd) (s3 := o1) (s4 := .val tw4) (s5 := .val w4) (s6 := .val (.int 3)) (h := PT a5 b5) p7
  refine ⟨PT a5 b5, ?_⟩
  have run : pg.T (j + 14) 15 [.ref 0] (PT a b) = (match Ss.den (D15 j) (.cons (s15 0) (.cons (s15 1) (.cons (s15 2) (.cons (s15 3) (.cons (s15 4) (.cons (s15 5) (.cons (s15 6) (.cons (s15 7) (.cons (s15 8) (.cons (s15 9) .nil)))))))))) (startS 10 [.ref 0]) (PT a b) with
    | .nx _ h => .ok .non h
    | .rt w h => .ok w h
    | .exc x _ h => .exc x h
    | _ => .bad) := rfl
  rw [run, seq e0, seq e1, seq e2, seq e3, seq e4, seq e5, seq e6, seq e7, seq e8]
  rfl
theorem law_all (ns : List Int) (hn : ns.length ≤ 63) : ∃ h, pg.T 60 16 [.scr ns] [] = .ok (.bl true) h := by
  obtain ⟨a, b, e, v⟩ := t8 (k := 58) ns
  obtain ⟨h, e2⟩ := t15 (j := 45) v
  refine ⟨h, ?_⟩
  have run : pg.T 60 16 [.scr ns] [] = Df.run ⟨"law", ["_law_script"], 1, b16⟩ ⟨pg.T 59, pg.cst, pg.par⟩ [.scr ns] [] := rfl
  rw [run]
  have e : pg.T 59 8 [.scr ns, .int 0] [] = .ok (.ref 0) (PT a b) := e
  have e2 : pg.T 59 15 [.ref 0] (PT a b) = .ok (.bl true) h := e2
  simp [b16, e, e2, Df.run, Ss.den, S.den, E.den, Es.den, Es.bo, Es.bt, Eo.den, Eo.tst, E.tst, It.den, R.bind, R.out, R.opt, startS, slotV, slotP, W.now, cmpW, intsW, idxW, L2.atI, L2.ixN, bltW, on1, on2, ifB, Tg.den, Tgs.den, tgo, binW, addW, intW, absW, lenW, truW, tyW, isTy, E.give, E.fresh, W.isNon, lineN_small]
end K12

set_option maxHeartbeats 0
namespace K12
open PySem PySem.Spec PyProof.Rows L2 Ev
theorem room_ : Room 60 callerA := ⟨rfl, by decide, by decide⟩
end K12
open PySem PySem.W PySem.Calls PyProof.Rows
theorem PySem.Challenge.cw_selfprint_k12_any_value_as_kind_holds : PySem.Challenge.rw_selfprint_k12_any_value_as_kind.Holds := by
  w_on; o_law
  refine HandSHeadRun.head_any (r := OpenLaw.row PySem.Challenge.rw_selfprint_k12_any_value_as_kind) (q := view (OpenLaw.row PySem.Challenge.rw_selfprint_k12_any_value_as_kind).prog [K12.lawIx_]) (H := K12.hk_) (ob := K12.ob_) (M := 4000) (loose := K12.loose_) (d := HandSHeadRun.topDef (OpenLaw.row PySem.Challenge.rw_selfprint_k12_any_value_as_kind).prog K12.lawIx_) (kwd := []) K12.ob_eq_
    (by kernel_rfl) (fun s => by kernel_rfl) K12.run_ (by kernel_rfl) (by kernel_rfl) (by kernel_rfl) (by rfl) (by first | assumption | decide +kernel) (by decide +kernel) ⟨rfl, rfl, rfl, rfl, rfl, by decide +kernel⟩ ?hw ?hc
  case hw => w_witness2
  case hc =>
    refine Ev.walk_end (l := PySem.Challenge.rw_selfprint_k12_any_value_as_kind) (n := 63) (k := 60) (i := 16) (pg := K12.pg) (kws := K12.kws_) (df := ⟨"law", ["_law_script"], 1, K12.b16⟩) (x := "_law_script") rfl (by decide) (by kernel_rfl) K12.room_ rfl rfl (by kernel_rfl) ?F K12.law_all
    intro w mg h Y G
    obtain ⟨K, KX, c⟩ := Y
    exact ⟨K, KX, K12.sys_ KX G c, fun g pars sc fd hg F s u => K12.bindlaw_ c KX G hg F s u⟩

