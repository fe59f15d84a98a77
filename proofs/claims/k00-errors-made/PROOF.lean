import PyProof.Rows.All
import Wide.All
import OpenK.AllK
import Wide.FinOn
import KE.KStateDown
import HandS.Base
import HandS.Call
import HandS.List
import HandS.Comp
import HandS.Dict
import HandS.Iter
import HandS.Text
import HandS.Exc
import HandS.Words
import HandS.Flow
import HandS.Style
import HandS.IsInst
import HandS.NoneIn
import HandS.Wide
import HandS.Zip
import HandS.TupAny
import HandS.ExcOwn
import HandS.WordsExc
import HandS.CallSlots
import HandS.Defaults
import HandS.HeadHook1
import HandS.HeadHook2
import HandS.ExcInit
import HandS.ExcIs
import HandS.ExcValue
import HandS.ListItems
import HandS.Lambda
import HandS.Nested
import HandS.EndTab
import HandS.HeadHook4
import HandS.Ends
import HandS.More
import HandS.Head0
import HandS.Head1
import HandS.Head2
import HandS.HeadEnd
import PySem.Challenge.RW_causeskept_k00_errors_made
import HandS.Head3
section
set_option Elab.async false
set_option linter.all false
set_option maxRecDepth 100000
set_option maxHeartbeats 4000000
/-! The small language: what the programs of these laws are written in, without places; its translation from the syntax; its readings. -/
namespace CK
open PySem PySem.Spec PyProof.Rows L2

/-! ### the language -/
inductive Bi where
  | len | list | tuple | int | bool | str | all | any | range | enumerate | zip | reversed | sum | sorted | dict | max | min
  deriving DecidableEq
def Bi.name : Bi → Str
  | .len => "len" | .list => "list" | .tuple => "tuple" | .int => "int" | .bool => "bool" | .str => "str" | .all => "all" | .any => "any"
  | .range => "range" | .enumerate => "enumerate" | .zip => "zip" | .reversed => "reversed" | .sum => "sum" | .sorted => "sorted" | .dict => "dict" | .max => "max" | .min => "min"
def Bi.every : List Bi := [.len, .list, .tuple, .int, .bool, .str, .all, .any, .range, .enumerate, .zip, .reversed, .sum, .sorted, .dict, .max, .min]
def biOf (x : Str) : Option Bi := Bi.every.find? fun b => decide (b.name = x)
inductive Mt where
  | append | extend | pop | items
  deriving DecidableEq
def Mt.name : Mt → Str
  | .append => "append" | .extend => "extend" | .pop => "pop" | .items => "items"
def Mt.every : List Mt := [.append, .extend, .pop, .items]
def mtOf (x : Str) : Option Mt := Mt.every.find? fun b => decide (b.name = x)

inductive Ie where
  | non | bl (b : Bool) | int (i : Int) | str (x : Str)
  | var (i : Nat)
  | bin (op : Operator) (a b : Ie)
  | neg (a : Ie)
  | cmp (op : CmpOp) (a b : Ie)
  | chain (op op' : CmpOp) (a b c : Ie)
  | and (a b : Ie) | or (a b : Ie) | not (a : Ie)
  | ite (c a b : Ie)
  /-- no part; the end of a list of arguments -/
  | nil
  | cons (a as : Ie)
  | tup (as : Ie) | lst (as : Ie)
  | call (f : Str) (as : Ie)
  | bi (b : Bi) (as : Ie)
  | isi (a : Ie) (cs : List Str) (one : Bool)
  | meth (m : Mt) (o as : Ie)
  | ix (a i : Ie)
  | sl (a lo hi : Ie)
  | lc (elt tg it cnd : Ie) (own : List Nat)
  /-- a field of an own exception -/
  | att (a : Ie) (f : Str)
  /-- an own class with its __init__; one without, no argument -/
  | mk (c : Str) (as : Ie) (ks : List Str) (zs : Ie)
  | mk0 (c : Str)
  | dsp (ps : Ie)
  | dcons (k v r : Ie)
  | litems (o : Ie)
  | lam (ps ns : List Str) (q : Str) (b : Ie)
  | callv (i : Nat) (as : Ie)

inductive Is where
  | nop
  | seq (a b : Is)
  | set (tg e : Ie)
  | par (i j : Nat) (es : Ie)
  | expr (e : Ie)
  | setf (o : Ie) (f : Str) (e : Ie)
  | ret (e : Ie)
  | ite (c : Ie) (a b : Is)
  | whl (c : Ie) (a : Is)
  | for (tg it : Ie) (a : Is)
  | brk | cont
  | never

end CK
end

section
set_option Elab.async false
set_option linter.all false
set_option maxRecDepth 100000
set_option maxHeartbeats 4000000
namespace CK
open PySem PySem.Spec PyProof.Rows L2

/-! ### readings by values -/
abbrev RL : Type := List V → Hp → VK → Prop
abbrev R1 : Type := V → Hp → VK → Prop
def rBin (K : PySem.W.Frag) : Operator → R2
  | .Add => fun x y H Q => rI0 (fun i j => .int (i + j)) x y H Q ∨ (∃ i j, x = .str i ∧ y = .str j ∧ i.length + j.length ≤ sizeLine ∧ Q (.str (i ++ j)) H) ∨ rCat x y H Q ∨ rCatA K x y H Q
  | .Sub => rI0 fun i j => .int (i - j)
  | .Mult => fun x y H Q => rI CMul (fun i j => .int (i * j)) x y H Q ∨ rRep x y H Q
  | .FloorDiv => rI CDivN fun i j => .int (i.fdiv j)
  | .Mod => rI (fun _ j => j ≠ 0) fun i j => .int (i.fmod j)
  | .Pow => rI CPow fun i j => .int (i ^ j.toNat)
  | _ => fun _ _ _ _ => False
def rCmp (K : PySem.W.Frag) : CmpOp → R2
  | .Eq => fun x y H Q => rEq x y H Q ∨ rEqD K x y H Q
  | .NotEq => fun x y H Q => rNe x y H Q ∨ rNeD K x y H Q
  | .Lt => fun x y H Q => rI0 (fun i j => .bl (decide (i < j))) x y H Q ∨ ∃ i j, x = .str i ∧ y = .str j ∧ Q (.bl (decide (i.cps.toList < j.cps.toList))) H
  | .LtE => rI0 fun i j => .bl (decide (i ≤ j))
  | .Gt => rI0 fun i j => .bl (decide (j < i))
  | .GtE => rI0 fun i j => .bl (decide (j ≤ i))
  | .Is => fun x y H Q => y = .non ∧ Q (.bl (decide (x = .non))) H
  | .IsNot => fun x y H Q => y = .non ∧ Q (.bl (!decide (x = .non))) H
  | .In => fun x y H Q => rIn K false x y H Q ∨ ∃ i j, x = .str i ∧ y = .str j ∧ Q (.bl (!(Builtin.Str.occurrences j i 0 j.length 1).isEmpty)) H
  | .NotIn => fun x y H Q => rIn K true x y H Q ∨ ∃ i j, x = .str i ∧ y = .str j ∧ Q (.bl (!(!(Builtin.Str.occurrences j i 0 j.length 1).isEmpty))) H
def rBi (K : PySem.W.Frag) : Bi → RL
  | .len => fun xs H Q => (∃ x n, xs = [x] ∧ LenV K x H n ∧ Q (.int n) H)
  | .list => fun xs H Q => ∃ p ys, xs = [.ref p] ∧ (SqL K H p ys ∨ SqT K H p ys) ∧ ∀ l, H l = none → Q (.ref l) (upd H l (.lst ys))
  | .tuple => fun xs H Q => ∃ p ys, xs = [.ref p] ∧ ((SqL K H p ys ∧ ∀ l, H l = none → Q (.ref l) (upd H l (.tup ys))) ∨ (SqT K H p ys ∧ Q (.ref p) H))
  | .int => fun xs H Q => (∃ i, xs = [.int i] ∧ Q (.int i) H) ∨ ∃ k, xs = [.bl k] ∧ Q (.int (if k then 1 else 0)) H
  | .bool => fun xs H Q => (∃ i, xs = [.int i] ∧ Q (.bl (i != 0)) H) ∨ ∃ k, xs = [.bl k] ∧ Q (.bl k) H
  | .str => fun xs H Q => ∃ i, xs = [.int i] ∧ i.natAbs.log2 < 1920 ∧ Q (.str (toString i)) H
  | .all => rAll K
  | .any => rAny K
  | .sum => rSum K
  | _ => fun _ _ _ => False
/-- which built-ins are types -/
def Bi.isTy : Bi → Bool
  | .list => true | .tuple => true | .int => true | .bool => true | .str => true | .dict => true
  | .range => true | .enumerate => true | .zip => true | .reversed => true
  | _ => false
/-- methods: with no argument, with arguments -/
def mE (K : PySem.W.Frag) (m : Mt) (many : Bool) (to : TE) (ta : TA) : TE := match m, many with
  | .append, true => tBM K "list" rAppend to ta
  | .extend, true => tBM K "list" rExtend to ta
  | .pop, true => tBM K "list" rPopAt to ta
  | .pop, false => tBM0 K "list" rPop to
  | _, _ => fun _ _ _ => False

structure Rd where
  e : TE
  t : TT
  a : TA
  g : TG
  gs : TGs
  w : TI
  o : TO
  d : List (TE × TE)
def truE (K : PySem.W.Frag) (te : TE) : TT := fun σ H Q => te σ H fun x H1 => ∃ k, TruV K x H1 k ∧ Q k H1
def wAny (K : PySem.W.Frag) (te : TE) : TI := fun σ H R => te σ H fun x H1 =>
  (∃ a, x = .ref a ∧ (∃ xs, SqL K H1 a xs) ∧ R (Itl K a) H1) ∨ (∃ a, x = .ref a ∧ (∃ xs, SqT K H1 a xs) ∧ R (Itt K a) H1) ∨ ∃ z, x = .str z ∧ R (Its z) H1
/-- an expression; one that tells a bool -/
def mkE (K : PySem.W.Frag) (te : TE) : Rd := ⟨te, truE K te, fun _ _ _ => False, fun _ _ _ _ => False, fun _ _ _ _ => False, wAny K te, tPart te, []⟩
def mkB (K : PySem.W.Frag) (te : TE) : Rd := { mkE K te with t := tTest te }
def wBi (K : PySem.W.Frag) (b : Bi) (n : Nat) (ta : TA) : TI := match b with
  | .range => if n = 1 then iRng1 ta else iRng2 ta
  | .enumerate => iEnum K ta
  | .zip => RZ.iZipA K ta
  | .reversed => iRev K ta
  | _ => wAny K (tCB (rBi K b) ta)
/-- an own class or a built-in one, by its name -/
def clsOf (K : PySem.W.Frag) (own : List Str) (x : Str) : Option (V × Value) := if x ∈ own then some (.ref (He.ga K x), .ref (He.ga K x)) else match bootBuiltins x with
  | some (.type n) => some (.ty n, .type n)
  | _ => none
def Ie.any : Ie → Bool
  | .nil => false
  | _ => true
def nE : List Expr → Bool
  | [] => false
  | _ => true
def Ie.len : Ie → Nat
  | .cons _ as => as.len + 1
  | _ => 0
/-! ### the translation -/
/-- where the program's names lead -/
structure Pn where
  /-- own defs, with how many parameters -/
  defs : List (Str × Nat)
  own : List Str
  /-- own classes with an __init__, their parameters but self; those that have none -/
  inits : List (Str × List Str)
  bare : List Str
  /-- built-in classes that are asked for -/
  bcls : List Str
  /-- defs that make lambdas -/
  tabs : List Str
/-- the names of a def, by slot; the name of its lambdas, where it may have some -/
structure Nm where
  ns : List Str
  lq : Option Str
/-- the names of a def, by slot -/
def isOwn : Option NameKind → Bool
  | some .local => true
  | some .cell => true
  | some .free => true
  | _ => false
def okName (x : Str) : Bool := !decide (x = "__debug__") && !decide (x = "__classdict__")
def ownOf (N : List Str) (sc : Scope) : List (Str × Nat) := sc.names.filterMap fun p => if (p.2 == .local || p.2 == .cell) && decide (p.1 ∈ N) then some (p.1, N.idxOf p.1) else none
def isName : Expr → Bool
  | .Name _ _ => true
  | _ => false
def isTup : Expr → Bool
  | .Tuple _ _ _ => true
  | _ => false
def isComp : Expr → Bool
  | .ListComp _ _ _ _ => true
  | .SetComp _ _ _ _ => true
  | .DictComp _ _ _ _ _ => true
  | _ => false
def isStar : Expr → Bool
  | .Starred _ _ => true
  | _ => false
def isCall0 : Expr → Bool
  | .Call (.Name _ _) [] [] _ => true
  | _ => false
def headOf : Expr → Option (Str × List Expr)
  | .Call (.Name f _) args [] _ => some (f, args)
  | _ => none
def sliceOf : Expr → Option (Option Expr × Option Expr)
  | .Slice lo hi none _ => some (lo, hi)
  | _ => none
def isSet : Expr → Bool
  | .Set _ _ _ => true
  | _ => false
def isSlice : Expr → Bool
  | .Slice _ _ _ _ => true
  | _ => false
def Gz (sc : Scope) (x : Str) : Bool := decide (sc.names.lookup x = some .globalImplicit)
def isTyB (x : Str) : Bool := match bootBuiltins x with
  | some (.type _) => true
  | _ => false
def clsName (P : Pn) (sc : Scope) : Expr → Option Str
  | .Name x _ => if Gz sc x && okName x && (decide (x ∈ P.own) || (decide (x ∈ P.bcls) && isTyB x)) && !decide (x = "__name__") then some x else none
  | _ => none
def paramsOf (a : Arguments) : List Str := a.args.map (·.arg)
/-- plain parameters alone -/
def plainPs (a : Arguments) : Bool := a.posonlyargs.isEmpty && a.vararg.isNone && a.kwonlyargs.isEmpty && a.kw_defaults.isEmpty && a.kwarg.isNone && a.defaults.isEmpty
/-- the names of comprehensions' blocks -/
def compNames : Nat → List Expr → List Str
  | 0, _ => []
  | n + 1, es => es.flatMap fun
    | .ListComp elt [⟨tg, it, ifs, _⟩] sc _ => (sc.names.filterMap fun p => if p.2 == .local || p.2 == .cell then some p.1 else none) ++ compNames n (elt :: it :: ifs)
    | .BinOp a _ b _ => compNames n [a, b]
    | .UnaryOp _ a _ => compNames n [a]
    | .Compare a _ bs _ => compNames n (a :: bs)
    | .BoolOp _ vs _ => compNames n vs
    | .IfExp a b c _ => compNames n [a, b, c]
    | .Tuple vs _ _ => compNames n vs
    | .List vs _ => compNames n vs
    | .Call f vs ks _ => compNames n (f :: vs ++ ks.map (·.value))
    | .Attribute a _ _ => compNames n [a]
    | .Subscript a b _ => compNames n [a, b]
    | .Slice a b c _ => compNames n (a.toList ++ b.toList ++ c.toList)
    | .Dict ks vs _ => compNames n (ks.filterMap id ++ vs)
    | .Starred e _ => compNames n [e]
    | .DictComp k v [⟨tg, it, ifs, _⟩] sc _ => (sc.names.filterMap fun p => if p.2 == .local || p.2 == .cell then some p.1 else none) ++ compNames n (k :: v :: it :: ifs)
    | _ => []
def lamNames (a : Arguments) (body : Expr) (scope : Scope) : List Str := (paramsOf a ++ (scope.names.filterMap fun p => if p.2 == .local || p.2 == .cell then some p.1 else none) ++ compNames 60 [body]).eraseDups
/-- keywords that are told by names -/
def kwNamed (kws : List Keyword) : Bool := kws.all fun k => k.arg.isSome
def kwNames (kws : List Keyword) : List Str := kws.filterMap (·.arg)
/-- n by place, ks by names, and all are told -/
def kwFit (ps : List Str) (n : Nat) (ks : List Str) : Bool := decide (n ≤ ps.length) && decide (ks.length = ps.length - n) && decide ks.Nodup && ks.all (fun k => decide (k ∈ ps.drop n))
/-- d.items() alone -/
def itemsOf : List Expr → Option (Expr × Pos × Pos)
  | [.Call (.Attribute o m ap) [] [] cp] => if decide (m = "items") then some (o, ap, cp) else none
  | _ => none
mutual
def trE (P : Pn) : Nm → Nat → Scope → Expr → Option Ie
  | _, 0, _, _ => none
  | N, n + 1, sc, .Constant .none _ _ => some .non
  | N, n + 1, sc, .Constant (.bool b) _ _ => some (.bl b)
  | N, n + 1, sc, .Constant (.int i) _ _ => some (.int i)
  | N, n + 1, sc, .Constant (.str x) _ _ => some (.str x)
  | N, n + 1, sc, .Name x _ => if isOwn (sc.names.lookup x) && okName x && decide (N.ns[N.ns.idxOf x]? = some x) then some (.var (N.ns.idxOf x)) else none
  | N, n + 1, sc, .BinOp a op b _ => (trE P N n sc a).bind fun a' => (trE P N n sc b).map fun b' => .bin op a' b'
  | N, n + 1, sc, .UnaryOp .USub a _ => (trE P N n sc a).map .neg
  | N, n + 1, sc, .UnaryOp .Not a _ => (trE P N n sc a).map .not
  | N, n + 1, sc, .Compare a [op] [b] _ => if isSet b then none else (trE P N n sc a).bind fun a' => (trE P N n sc b).map fun b' => .cmp op a' b'
  | N, n + 1, sc, .Compare a [op, op'] [b, c] _ => if isSet c then none else (trE P N n sc a).bind fun a' => (trE P N n sc b).bind fun b' => (trE P N n sc c).map fun c' => .chain op op' a' b' c'
  | N, n + 1, sc, .BoolOp .And (a :: b :: r) _ => (trE P N n sc a).bind fun a' => (trB P N n sc .And (b :: r)).map fun b' => .and a' b'
  | N, n + 1, sc, .BoolOp .Or (a :: b :: r) _ => (trE P N n sc a).bind fun a' => (trB P N n sc .Or (b :: r)).map fun b' => .or a' b'
  | N, n + 1, sc, .IfExp c a b _ => (trE P N n sc c).bind fun c' => (trE P N n sc a).bind fun a' => (trE P N n sc b).map fun b' => .ite c' a' b'
  | N, n + 1, sc, .Tuple es _ _ => (trEs P N n sc es).map .tup
  | N, n + 1, sc, .List es _ => (trEs P N n sc es).map .lst
  | N, n + 1, sc, .Call (.Name f _) args [] _ =>
    if Gz sc f && okName f then
      match args with
      | [a, .Name c pc] => if decide (f = "isinstance") && !isStar a then (clsName P sc (.Name c pc)).bind fun c' => (trE P N n sc a).map fun a' => .isi a' [c'] true else trCall P N n sc f args
      | [a, .Tuple cs _ _] => if decide (f = "isinstance") && !decide (cs.length = 0) && decide (cs.length < 100) && !isStar a then (cs.mapM (clsName P sc)).bind fun cs' => (trE P N n sc a).map fun a' => .isi a' cs' false else trCall P N n sc f args
      | _ => trCall P N n sc f args
    else if isOwn (sc.names.lookup f) && okName f && decide (N.ns[N.ns.idxOf f]? = some f) then (trEs P N n sc args).map (.callv (N.ns.idxOf f)) else none
  | N, n + 1, sc, .Call (.Name f _) args kws _ =>
    if Gz sc f && okName f && (P.defs.lookup f).isNone && kwNamed kws then
      (P.inits.lookup f).bind fun ps => if kwFit ps args.length (kwNames kws) then (trEs P N n sc args).bind fun as => (trEs P N n sc (kws.map (·.value))).map fun zs => .mk f as (kwNames kws) zs else none
    else none
  | N, n + 1, sc, .Call (.Attribute o m ap) args [] cp => if (ap.endLine == cp.line) && decide (args.length < 20) && !isCall0 o then (mtOf m).bind fun m' => (trE P N n sc o).bind fun o' => (trEs P N n sc args).map fun as => .meth m' o' as else none
  | N, n + 1, sc, .Subscript a i _ => match sliceOf i with
    | some (lo, hi) => (trE P N n sc a).bind fun a' => (trO P N n sc lo).bind fun l => (trO P N n sc hi).map fun h => .sl a' l h
    | none => if isSlice i then none else (trE P N n sc a).bind fun a' => (trE P N n sc i).map fun i' => .ix a' i'
  | N, n + 1, sc, .ListComp elt [⟨tg, it, cs, z⟩] scope _ =>
    if decide (z = 0) && blkC N.ns sc scope (ownOf N.ns scope) && !isSet it && decide (N.ns.Nodup) then
      (trI P N n sc tg it).bind fun it' => (trG P N n scope (relS scope sc) tg).bind fun tg' => (trC P N n (relS scope sc) cs).bind fun c' => (trE P N n (relS scope sc) elt).map fun e' => .lc e' tg' it' c' ((ownOf N.ns scope).map (·.2))
    else none
  | N, n + 1, sc, .Attribute o f _ => if isCall0 o then none else (trE P N n sc o).map fun o' => .att o' f
  | N, n + 1, sc, .Dict ks vs _ => if decide (ks.length = vs.length) && decide (ks.length ≤ 15) && ks.all (·.isSome) then (trDs P N n sc ks vs).map .dsp else none
  | N, n + 1, sc, .Lambda params body scope _ => N.lq.bind fun q => if plainPs params && NdefX.nscB (lamNames params body scope) (paramsOf params) [] scope then (trE P ⟨lamNames params body scope, none⟩ n scope body).map (.lam (paramsOf params) (lamNames params body scope) q) else none
  | _, _, _, _ => none
/-- a display's pairs -/
def trDs (P : Pn) : Nm → Nat → Scope → List (Option Expr) → List Expr → Option Ie
  | _, 0, _, _, _ => none
  | N, n + 1, sc, [], [] => some .nil
  | N, n + 1, sc, some k :: ks, v :: vs => (trE P N n sc k).bind fun k' => (trE P N n sc v).bind fun v' => (trDs P N n sc ks vs).map fun r => .dcons k' v' r
  | _, _, _, _, _ => none
def trCall (P : Pn) : Nm → Nat → Scope → Str → List Expr → Option Ie
  | _, 0, _, _, _ => none
  | N, n + 1, sc, f, args => match P.defs.lookup f with
    | some k => if decide (k = args.length) then (trEs P N n sc args).map (.call f) else none
    | none => match P.inits.lookup f with
      | some ps => if decide (ps.length = args.length) then (trEs P N n sc args).map fun as => .mk f as [] .nil else none
      | none => if decide (f ∈ P.bare) then (if args.isEmpty then some (.mk0 f) else none) else match biOf f with
      | some b => match (if b = .list then itemsOf args else none) with
        | some (o, ap, cp) => if ap.endLine == cp.line && !isCall0 o then (trE P N n sc o).map .litems else none
        | none => if b = .range ∨ b = .enumerate ∨ b = .zip ∨ b = .reversed ∨ args = [] then none else (trEs P N n sc args).map (.bi b)
      | none => none
def trB (P : Pn) : Nm → Nat → Scope → BoolOp → List Expr → Option Ie
  | _, 0, _, _, _ => none
  | N, n + 1, sc, _, [] => none
  | N, n + 1, sc, _, [a] => trE P N n sc a
  | N, n + 1, sc, .And, a :: b :: r => (trE P N n sc a).bind fun a' => (trB P N n sc .And (b :: r)).map fun b' => .and a' b'
  | N, n + 1, sc, .Or, a :: b :: r => (trE P N n sc a).bind fun a' => (trB P N n sc .Or (b :: r)).map fun b' => .or a' b'
def trEs (P : Pn) : Nm → Nat → Scope → List Expr → Option Ie
  | _, 0, _, _ => none
  | N, n + 1, sc, [] => some .nil
  | N, n + 1, sc, e :: es => if isStar e then none else (trE P N n sc e).bind fun e' => (trEs P N n sc es).map fun es' => .cons e' es'
def trO (P : Pn) : Nm → Nat → Scope → Option Expr → Option Ie
  | _, 0, _, _ => none
  | N, n + 1, sc, none => some .nil
  | N, n + 1, sc, some e => trE P N n sc e
/-- what a loop walks: the target is asked for what yields new tuples -/
def trI (P : Pn) : Nm → Nat → Scope → Expr → Expr → Option Ie
  | _, 0, _, _, _ => none
  | N, n + 1, sc, tg, e => match headOf e with
    | some (f, args) => if Gz sc f && (P.defs.lookup f).isNone && okName f then
        match biOf f with
        | some .range => if decide (args.length = 1) || decide (args.length = 2) then (trEs P N n sc args).map (.bi .range) else none
        | some .enumerate => if decide (args.length = 1) && isTup tg then (trEs P N n sc args).map (.bi .enumerate) else none
        | some .zip => if decide (args.length = 2) && isTup tg then (trEs P N n sc args).map (.bi .zip) else none
        | _ => trE P N n sc e
      else trE P N n sc e
    | none => trE P N n sc e
/-- the tests of a comprehension -/
def trC (P : Pn) : Nm → Nat → Scope → List Expr → Option Ie
  | _, 0, _, _ => none
  | N, n + 1, sc, [] => some .nil
  | N, n + 1, sc, [c] => trE P N n sc c
  | _, _, _, _ => none
/-- targets -/
def trG (P : Pn) : Nm → Nat → Scope → Scope → Expr → Option Ie
  | _, 0, _, _, _ => none
  | N, n + 1, cs, sc, .Name x _ => if (decide (sc.names.lookup x = some .local) || (decide (sc.names.lookup x = some .cell) && decide (cs.names.lookup x = some .cell))) && okName x && decide (N.ns[N.ns.idxOf x]? = some x) then some (.var (N.ns.idxOf x)) else none
  | N, n + 1, cs, sc, .Tuple es _ _ => (trGs P N n cs sc es).map .tup
  | N, n + 1, cs, sc, .Subscript o i _ => if isSlice i then none else (trE P N n sc o).bind fun o' => (trE P N n sc i).map fun i' => .ix o' i'
  | _, _, _, _, _ => none
def trGs (P : Pn) : Nm → Nat → Scope → Scope → List Expr → Option Ie
  | _, 0, _, _, _ => none
  | N, n + 1, cs, sc, [] => some .nil
  | N, n + 1, cs, sc, e :: es => if isStar e then none else (trG P N n cs sc e).bind fun e' => (trGs P N n cs sc es).map fun es' => .cons e' es'
end
def isConst : Expr → Bool
  | .Constant _ _ _ => true
  | _ => false
/-- two local names stored from the right: both sides are written pairs -/
def parOf (N : List Str) (sc : Scope) : Expr → Expr → Option (Nat × Nat × List Expr)
  | .Tuple [.Name x px, .Name y py] _ _, .Tuple [a, b] _ _ =>
    if decide (sc.names.lookup x = some .local) && decide (sc.names.lookup y = some .local) && (px.line == py.line) && !decide (x = y) && !isStar a && !isStar b && decide (N[N.idxOf x]? = some x) && decide (N[N.idxOf y]? = some y) && !([a, b].all (foldedForSure 8)) && !([a, b].all (constantsAlone 8)) then some (N.idxOf x, N.idxOf y, [a, b]) else none
  | _, _ => none
/-- a tuple's targets that are not all names -/
def mixed : Expr → Bool
  | .Tuple ts _ _ => ts.any fun t => !isName t
  | _ => false
def trSet (P : Pn) (N : Nm) (n : Nat) (cs sc : Scope) (tg e : Expr) : Option Is :=
  match parOf N.ns sc tg e with
  | some (i, j, es) => (trEs P N n sc es).map (.par i j)
  | none => if isStar tg || (isTup tg && isTup e && !mixed tg) then none else (trE P N n sc e).bind fun e' => (trG P N n cs sc tg).map fun t => .set t e'
def fldOf : Expr → Option (Expr × Str)
  | .Attribute o f _ => some (o, f)
  | _ => none
mutual
def trS (P : Pn) (N : Nm) (cs sc : Scope) : Nat → Stmt → Is
  | 0, _ => .never
  | n + 1, .Assign [tg] e _ => match fldOf tg with
    | some (o, f) => if isComp e then .never else ((trE P N n sc e).bind fun e' => (trE P N n sc o).map fun o' => Is.setf o' f e').getD .never
    | none => (trSet P N n cs sc tg e).getD .never
  | n + 1, .Expr e _ => if isComp e then .never else ((trE P N n sc e).map .expr).getD .never
  | n + 1, .Return none _ => .ret .non
  | n + 1, .Return (some e) _ => ((trE P N n sc e).map .ret).getD .never
  | n + 1, .If c a b _ => ((trE P N n sc c).map fun c' => .ite c' (trSs P N cs sc n a) (trSs P N cs sc n b)).getD .never
  | n + 1, .While c a [] _ => ((trE P N n sc c).map fun c' => .whl c' (trSs P N cs sc n a)).getD .never
  | n + 1, .For tg it a [] _ => if isSet it then .never else ((trI P N n sc tg it).bind fun it' => (trG P N n cs sc tg).map fun t => .for t it' (trSs P N cs sc n a)).getD .never
  | n + 1, .Pass _ => .nop
  | n + 1, .Break _ => .brk
  | n + 1, .Continue _ => .cont
  | _, _ => .never
def trSs (P : Pn) (N : Nm) (cs sc : Scope) : Nat → List Stmt → Is
  | 0, _ => .never
  | n + 1, [] => .nop
  | n + 1, [s] => trS P N cs sc n s
  | n + 1, s :: r :: rs => .seq (trS P N cs sc n s) (trSs P N cs sc n (r :: rs))
end
/-! ### lambdas as values -/
/-- a lambda that captures nothing, by its translation -/
structure LamI where
  ps : List Str
  ns : List Str
  q : Str
  b : Ie
def LmB (P : Pn) (params : Arguments) (scope : Scope) (body : Expr) (L : LamI) : Prop := plainPs params = true ∧ paramsOf params = L.ps ∧ NdefX.nscB L.ns L.ps [] scope = true ∧ ∃ n, trE P ⟨L.ns, none⟩ n scope body = some L.b
/-- the object at f is the lambda L, its code object at c -/
def LmO (P : Pn) (f c : Addr) (L : LamI) : HO := .ext fun h => ∃ (params : Arguments) (scope : Scope) (body : Expr) (pm ctv : Value), h.get? f = some (PySem.W.kla_obj "<lambda>" L.q params body scope [] pm c ctv) ∧ LmB P params scope body L
/-- the value's type, as isinstance is asked -/
structure Dm where
  P : Pn
  K : PySem.W.Frag
  /-- own defs' promises, by name -/
  Γ : Str → Sp
  /-- own classes' __init__ -/
  Γi : Str → Sp
  /-- the type of a value, for isinstance -/
  ty : Hp → V → Value → Prop
  own : List Str
  /-- the promise of a lambda -/
  Λ : LamI → Sp
  /-- the tables of code objects, each with its lambdas' name -/
  T : List (Addr × Str)
/-- isinstance(x, ..) by the classes' names -/
def rIs (D : Dm) (cs : List Str) : R1 := fun x H Q => ∃ (t : Value) (us : List Value) (b : Bool), cs.map (fun c => (clsOf D.K D.own c).map (·.2)) = us.map some ∧ D.ty H x t ∧ PySem.W.kitAny D.K t us = some b ∧ Q (.bl b) H
def tIs (D : Dm) (cs : List Str) (one : Bool) (te : TE) : TE := fun σ H Q => te σ H fun x H1 => if one = true then rIs D cs x H1 Q else ∀ p, H1 p = none → rIs D cs x (upd H1 p (.tup (cs.filterMap fun c => (clsOf D.K D.own c).map (·.1)))) Q
/-- the values by the parameters' order: those by place, then those by names -/
def kwArgs {α : Type} (ps ks : List Str) (vs zs : List α) : List α := vs ++ (ps.drop vs.length).filterMap fun p => (ks.zip zs).lookup p
/-- C(.., k = v): sp the promise of its __init__ -/
def tMkX (C : Addr) (sp : Sp) (ps : List Str) (n : Nat) (ks : List Str) (E : L2.St → XK) (t tk : TA) : TE := fun σ H Q => t σ H fun vs H1 => tk σ H1 fun zs H2 => vs.length = n ∧ zs.length = ks.length ∧ n ≤ 1000 ∧ ∀ a, H2 a = none →
  sp (kwArgs ps ks (.ref a :: vs) zs) (upd H2 a (exo a C none)) (fun v H3 => v = .non ∧ Q (.ref a) H3) (E σ)
def tMk0 (C : Addr) : TE := fun _ H Q => ∀ a, H a = none → Q (.ref a) (upd H a (exo a C none))
/-- e.f, e an own exception -/
def tAtt (K : PySem.W.Frag) (f : Str) (te : TE) : TE := fun σ H Q => te σ H fun x H1 => ∃ (a C dx : Addr) (fs : List (Str × V)) (v : V), x = .ref a ∧ ExcC K C ∧ PySem.W.findIn K (.ref C) f = some none ∧ H1 a = some (exo a C (some dx)) ∧ H1 dx = some (exd dx fs) ∧ fs.lookup f = some v ∧ Q v H1
def tLam (D : Dm) (L : LamI) : TE := fun _ H Q => LamX.Tabs D.T H ∧ ∀ (f c : Addr) (H1 : Hp), LamX.ExtN H H1 → LamX.Tabs D.T H1 → H f = none → H1 f = some (LmO D.P f c L) → H1 c = some (LamX.CodeO c L.q) → Q (.ref f) H1
/-- x(..), x a local name that holds a lambda -/
def tCallV (D : Dm) (i : Nat) (E : L2.St → XK) (t : TA) : TE := fun σ H Q => ∃ (f c : Addr) (L : LamI), σ[i]? = some (some (.ref f)) ∧ H f = some (LmO D.P f c L) ∧
  t σ H fun vs H1 => H1 f = some (LmO D.P f c L) ∧ H1 c = some (LamX.CodeO c L.q) ∧ D.Λ L vs H1 Q (E σ)
def rd (D : Dm) (W : WX) : Ie → Rd
  | .non => mkE D.K (tC .non)
  | .bl b => mkE D.K (tC (.bl b))
  | .int i => mkE D.K (tC (.int i))
  | .str x => mkE D.K (tC (.str x))
  | .var i => { mkE D.K (tVar i) with g := gName i }
  | .bin op a b => mkE D.K (tOp (rBin D.K op) (rd D W a).e (rd D W b).e)
  | .neg a => mkE D.K (tUn (rU fun i => .int (-i)) (rd D W a).e)
  | .cmp op a b => mkB D.K (tOp (rCmp D.K op) (rd D W a).e (rd D W b).e)
  | .chain op op' a b c => mkB D.K (tChain (rCmp D.K op) (rCmp D.K op') (rd D W a).e (rd D W b).e (rd D W c).e)
  | .and a b => { mkE D.K (tAndT D.K (rd D W a).e (rd D W b).e) with t := tAnd (rd D W a).t (rd D W b).t }
  | .or a b => { mkE D.K (tOrT D.K (rd D W a).e (rd D W b).e) with t := tOr (rd D W a).t (rd D W b).t }
  | .not a => { mkE D.K (tNotT D.K (rd D W a).e) with t := tNot (rd D W a).t }
  | .ite c a b => { mkE D.K (tIf (rd D W c).t (rd D W a).e (rd D W b).e) with t := fun _ _ _ => False }
  | .nil => { mkE D.K (fun _ _ _ => False) with a := tNil, gs := gNil, t := tYes, o := tNoPart }
  | .cons a as => { mkE D.K (fun _ _ _ => False) with a := tCons (rd D W a).e (rd D W as).a, gs := gCons (rd D W a).g (rd D W as).gs }
  | .tup as => { mkE D.K (tTup (rd D W as).a) with g := fun v σ H Q => gTup D.K as.len (rd D W as).gs v σ H Q ∨ gUnl D.K as.len (rd D W as).gs v σ H Q }
  | .lst as => mkE D.K (tLst (rd D W as).a)
  | .call f as => mkE D.K (tCallS (D.Γ f) (WE W) (rd D W as).a)
  | .bi b as => { mkE D.K (tCB (rBi D.K b) (rd D W as).a) with w := wBi D.K b as.len (rd D W as).a }
  | .isi a cs one => mkE D.K (tIs D cs one (rd D W a).e)
  | .meth m o as => mkE D.K (mE D.K m as.any (rd D W o).e (rd D W as).a)
  | .ix a i => { mkE D.K (tOp (rIx D.K) (rd D W a).e (rd D W i).e) with g := gSub (rd D W a).e (rd D W i).e rSetL }
  | .sl a lo hi => mkE D.K (tSl (fun x l u H Q => rSlL D.K x l u H Q ∨ rSlA D.K x l u H Q) (rd D W a).e (rd D W lo).o (rd D W hi).o)
  | .lc elt tg it cnd own => mkE D.K (tLc (rd D W it).w (rd D (fun _ _ _ _ => False) tg).g (rd D (fun _ _ _ _ => False) cnd).t (rd D (fun _ _ _ _ => False) elt).e own)
  | .att a f => mkE D.K (tAtt D.K f (rd D W a).e)
  | .mk c as ks zs => mkE D.K (tMkX (He.ga D.K c) (D.Γi c) ("self" :: (D.P.inits.lookup c).getD []) as.len ks (WE W) (rd D W as).a (rd D W zs).a)
  | .mk0 c => mkE D.K (tMk0 (He.ga D.K c))
  | .dsp .nil => mkE D.K fun σ H Q => tDNewK σ H Q ∨ tDNewT σ H Q
  | .dsp ps => mkE D.K (tDisp (rd D W ps).d)
  | .dcons k v r => { mkE D.K (fun _ _ _ => False) with d := ((rd D W k).e, (rd D W v).e) :: (rd D W r).d }
  | .litems o => mkE D.K (LiI.tListItems (rd D W o).e)
  | .lam ps ns q b => mkE D.K (tLam D ⟨ps, ns, q, b⟩)
  | .callv i as => mkE D.K (tCallV D i (WE W) (rd D W as).a)
def rdS (D : Dm) (W : WX) : Is → TS
  | .nop => tNext
  | .seq a b => tSeq (rdS D W a) (rdS D W b)
  | .set tg e => tAsg (rd D W e).e (rd D W tg).g
  | .par i j es => tPar i j (rd D W es).a
  | .expr e => tDrop (rd D W e).e
  | .setf o f e => tOst D.K f (rd D W o).e (rd D W e).e
  | .ret e => tRet (rd D W e).e
  | .ite c a b => tIfS (rd D W c).t (rdS D W a) (rdS D W b)
  | .whl c a => tWhile (rd D W c).t (rdS D W a)
  | .for tg it a => tFor (rd D W it).w (rd D W tg).g (rdS D W a)
  | .brk => tBreak
  | .cont => tCont
  | .never => tNever

end CK
end

section
set_option Elab.async false
set_option linter.all false
set_option maxRecDepth 100000
set_option maxHeartbeats 8000000
namespace PySem
namespace HandSPX
open PySem.W PySem.Calls PyProof.Rows
section
variable {M : Model} {A : Around} {E : Value → Shared → Prop} {h : Heap} {g : Array GenState} {d : Drawn} {t : Nat} {os : OsState}
variable {nm q : Str} {C N : Addr} {bs bm bmB : List Value} {hdct : Bool} {sn : List Str} {sub : List Value} {ab : Bool} {col : Option Bool} {dd : Option Addr} {k0 k1 k2 k3 k5 : Option Value} {B newId initId : String}
theorem check_new_kw (F : ExcBaseFacts B newId initId bmB) (hT : ∀ X : String, bm.contains (.type X) = bmB.contains (.type X)) {rest : List Value} {kw : List (Str × Value)} {Q : Unit → Shared → Prop}
    (hC : h.get? C = some (excClassObj nm q C N bs bm hdct sn sub ab col dd k0 k1 k2 k3 k5 newId)) (hq : Q () ⟨h, g, d, t, os⟩) : wpAny M A (checkBuiltinCall newId ⟨.ref C :: rest, kw⟩) Q E ⟨h, g, d, t, os⟩ := by
  have hcont : (Value.ref C :: bm).contains (.type B) = true := by rw [List.contains_cons, hT, F.hasB, Bool.or_true]
  have hstar := F.noStar
  simp only [checkBuiltinCall, F.newKind, F.newSplit, F.newRow]
  repeat (first | refine wpAny_loadPart_at hC ?_ | (refine wpAny_isSubtype_exc hC ?_; rw [hcont]) | refine wpAny_staticBase_exc hC ?_ | refine wpAny_madeBy_exc hC ?_ | simp only [bne_self_eq_false, Bool.false_eq_true, if_false] | wp_step)
  exact hq
end
section
variable {prog : Program} {w : World} {A : Around} {E : Value → Shared → Prop} {R : Result → Shared → Prop} {h : Heap} {g : Array GenState} {d : Drawn} {t : Nat} {os : OsState}
variable {nm q : Str} {C N : Addr} {bs bm bmB : List Value} {hdct : Bool} {sn : List Str} {sub : List Value} {ab : Bool} {col : Option Bool} {dd : Option Addr} {k0 k1 k2 k3 k5 : Option Value} {B newId initId : String}
theorem new_kw (F : ExcBaseFacts B newId initId bmB) (hT : ∀ X : String, bm.contains (.type X) = bmB.contains (.type X)) {rest : List Value} {kw : List (Str × Value)}
    (hC : h.get? C = some (excClassObj nm q C N bs bm hdct sn sub ab col dd k0 k1 k2 k3 k5 newId))
    (hq : R (.ok (.ret (.ref (h.objs.size + 1)))) ⟨(h.push { cls := .type "tuple", data := .seq rest.toArray }).push
      { cls := .ref C, data := .fields #[.ref h.objs.size, .none, .none, .none, .bool false, .none] }, g, d, t, os⟩) (hrest : rest.length ≤ sizeLine) :
    codeAny (model prog w) A (.builtin newId ⟨.ref C :: rest, kw⟩) R ⟨h, g, d, t, os⟩ := by
  have hends := F.ends
  have hcB : (Value.ref C :: bm).contains (.type B) = true := by rw [List.contains_cons, hT, F.hasB, Bool.or_true]
  have hcA : (Value.ref C :: bm).contains (.type "AttributeError") = false := by rw [List.contains_cons, hT, F.noAttr]; rfl
  have hcN : (Value.ref C :: bm).contains (.type "NameError") = false := by rw [List.contains_cons, hT, F.noName]; rfl
  refine codeAny_builtinAt F.entry ?_
  unfold Builtin.«BaseException.__new__»
  refine wpAt_bind ?_
  show wpAt _ _ _ (stack >>= _) _ _ _
  refine wpAt_bind (wpAt_stack fun p below => wpAt_of_wpAny ?_)
  wp_walk
  refine wpAt_of_wpAny ?_
  rw [F.owner]
  repeat (first | with_reducible refine wpAny_madeHere_exc F.canon hC ?_ | with_reducible refine wpAny_loadPart_at hC ?_ | (with_reducible refine wpAny_isSubtype_exc hC ?_; first | rw [hcB] | rw [hcA] | rw [hcN]) | wp_step)
  show R _ _
  rw [Heap.size_push]
  exact hq
theorem type_call_kw (F : ExcBaseFacts B newId initId bmB) (hT : ∀ X : String, bm.contains (.type X) = bmB.contains (.type X)) {rest : List Value} {kw : List (Str × Value)} {fI : Addr} {Q : Fin → Shared → Prop}
    (hC : h.get? C = some (excClassObj nm q C N bs bm hdct sn sub ab col dd k0 k1 k2 k3 k5 newId))
    (hi : W.Looks (model prog w) h (typeLookup (.ref C) "__init__") (some (.ref fI))) (hb : ∀ self, W.Looks (model prog w) h (bindSpecial (.ref fI) self) (.ref fI, [self])) (hrest : rest.length ≤ sizeLine)
    (hq : codeAny (model prog w) A (.call (.ref fI) ⟨.ref (h.objs.size + 1) :: rest, kw⟩)
      (fun r s' => match r with | .ok (.ret v) => v = .none ∧ Q (.done (.ret (.ref (h.objs.size + 1)))) s' | .ok _ => False | .error e => E e s')
      ⟨(h.push (W.kdv_tup rest)).push (excO C h.objs.size), g, d, t, os⟩) :
    wpAny (model prog w) A (Builtin.«type.__call__» ⟨.ref C :: rest, kw⟩) Q E ⟨h, g, d, t, os⟩ := by
  repeat (first | with_reducible refine wpAny_loadPart_at hC ?_ | with_reducible refine wpAny_madeBy_exc hC ?_ | wp_step)
  refine codeAny_call_builtin_code (Code.quiet_builtin _ F.quiet) (check_new_kw F hT hC ?_)
  refine new_kw F hT hC ?_ hrest
  show wpAny _ _ _ _ _ _
  have k : ∀ b o, h.get? b = some o → ((h.push (W.kdv_tup rest)).push (excO C h.objs.size)).get? b = some o := fun b o e => Heap.get?_push_of_some _ (Heap.get?_push_of_some _ e)
  have hC₁ := k _ _ hC
  have hget : ((h.push (W.kdv_tup rest)).push (excO C h.objs.size)).get? (h.objs.size + 1) = some (excO C h.objs.size) := by heap_get
  have hcC : (Value.ref C :: bm).contains (.ref C) = true := by simp
  have i1 := hi.keeps k
  have b1 := (hb (.ref (h.objs.size + 1))).keeps k
  unfold isInstance
  repeat (first | with_reducible refine wpAny_loadPart_at hget ?_ | (with_reducible refine wpAny_isSubtype_exc hC₁ ?_; rw [hcC]) | wp_step)
  show wpAny _ _ (typeLookup (.ref C) _) _ _ _
  refine i1.at ?_
  refine wpAny_holding (wpAny_bind (b1.at ?_))
  refine wpAny_bind (wpAny_call (codeAny_mono hq fun r s' z => ?_))
  rcases r with e | (v | _ | _ | _) <;> first | exact z | exact z.elim | skip
  obtain ⟨rfl, z⟩ := z
  first
    | exact wpAny_pure (wpAny_pure z)
    | (wp_walk; exact z)
theorem call_kw (F : ExcBaseFacts B newId initId bmB) (hT : ∀ X : String, bm.contains (.type X) = bmB.contains (.type X)) {rest : List Value} {kw : List (Str × Value)} {fI : Addr}
    (hC : h.get? C = some (excClassObj nm q C N bs bm hdct sn sub ab col dd k0 k1 k2 k3 k5 newId))
    (hi : W.Looks (model prog w) h (typeLookup (.ref C) "__init__") (some (.ref fI))) (hb : ∀ self, W.Looks (model prog w) h (bindSpecial (.ref fI) self) (.ref fI, [self])) (hrest : rest.length ≤ sizeLine)
    (hq : codeAny (model prog w) (A.under (.builtin "type.__call__" ⟨.ref C :: rest, kw⟩)) (.call (.ref fI) ⟨.ref (h.objs.size + 1) :: rest, kw⟩) (W.InitBack (h.objs.size + 1) R)
      ⟨(h.push (W.kdv_tup rest)).push (excO C h.objs.size), g, d, t, os⟩) :
    codeAny (model prog w) A (.call (.ref C) ⟨rest, kw⟩) R ⟨h, g, d, t, os⟩ := by
  have f1 := tc_lookup
  have f2 := tc_bind (.ref C)
  have hTy : (⟨h, g, d, t, os⟩ : Shared).TypeIs (.ref C) "type" := ⟨_, hC, rfl⟩
  refine codeAny_of_tree ?_
  show wpAny _ _ (callAny (.ref C) _) _ _ _
  repeat (any_goals (first | assumption | with_reducible refine wpAny_loadPart_at hC ?_ | wp_step))
  refine ⟨rfl, ?_⟩
  refine codeAny_call_builtin_at (Code.quiet_builtin _ (by decide +kernel)) entry_typeCall (wpAny_check_type_call_sub hC (type_call_kw F hT hC hi hb hrest ?_))
  refine codeAny_mono hq fun r s' z => ?_
  rcases r with e | (v | _ | _ | _) <;> exact z
end
end HandSPX
end PySem
end

section
set_option Elab.async false
set_option linter.all false
set_option maxRecDepth 100000
set_option maxHeartbeats 4000000
namespace CK
open PySem PySem.Spec PyProof.Rows L2
theorem seq_none : (seqItems? Value.none : Sem (Option (Array Value))) = pure none := rfl
theorem bind_plain {fd : FuncData} {us : List Value} {kw : List (Str × Value)} (hp : plainPs fd.params = true) (hd : fd.defaults = .none) (hl : us.length ≤ (paramsOf fd.params).length)
    (hk : ∀ q ∈ kw, q.1 ∈ paramsOf fd.params) (hn : (((paramsOf fd.params).zip us ++ kw).map (·.1)).Nodup) (ha : ∀ p ∈ paramsOf fd.params, (((paramsOf fd.params).zip us ++ kw).lookup p).isSome = true) :
    bindArgs fd ⟨us, kw⟩ = pure ((paramsOf fd.params).filterMap fun n => (((paramsOf fd.params).zip us ++ kw).lookup n).map (n, ·)) := by
  unfold plainPs at hp
  simp only [Bool.and_eq_true, List.isEmpty_iff, Option.isNone_iff_eq_none] at hp
  obtain ⟨⟨⟨⟨⟨h1, h2⟩, h3⟩, h4⟩, h5⟩, h6⟩ := hp
  unfold bindArgs
  simp only [h1, h2, h3, h4, h5, h6, hd]
  simp only [List.map_nil, List.nil_append, List.append_nil]
  have hps : List.map (fun x => x.arg) fd.params.args = paramsOf fd.params := rfl
  rw [hps] at *
  generalize paramsOf fd.params = ps at *
  generalize ps.zip us = s at *
  induction kw generalizing s with
  | nil =>
    simp only [List.append_nil] at ha ⊢
    have hm : (ps.filter fun n => (s.lookup n).isNone) = [] := by
      rw [List.filter_eq_nil_iff]
      intro p hp'
      have := ha p hp'
      cases e : s.lookup p with
      | none => rw [e] at this; cases this
      | some v => simp
    have hg : ¬ (us.length > ps.length) := Nat.not_lt.mpr hl
    simp only [List.forIn_nil, pure_bind, seq_none, Option.getD_none, List.drop_nil, List.length_nil, Nat.zero_sub, Nat.sub_zero, hm, hg]
    simp [hm, hg]
  | cons q kw ih =>
    obtain ⟨k, v⟩ := q
    have k1 : ps.contains k = true := by
      rw [List.contains_iff_mem]
      exact hk _ List.mem_cons_self
    have k2 : s.lookup k = none := by
      cases e : s.lookup k with
      | none => rfl
      | some u =>
        have m := PySem.mem_of_lookup e
        rw [List.map_append, List.nodup_append] at hn
        exact absurd rfl (hn.2.2 k (List.mem_map.mpr ⟨_, m, rfl⟩) k (by simp))
    rw [List.forIn_cons]
    simp only [k1, k2, Bool.true_or, if_true, Option.isSome_none, Bool.false_eq_true, if_false, pure_bind, bind_assoc]
    have e : s ++ (k, v) :: kw = (s ++ [(k, v)]) ++ kw := by simp
    rw [e]
    rw [e] at hn ha
    exact ih (fun q hq => hk q (List.mem_cons_of_mem _ hq)) (s ++ [(k, v)]) hn ha
theorem look_app_none {s t : List (Str × Value)} {p : Str} (h : ∀ q ∈ s, q.1 ≠ p) : (s ++ t).lookup p = t.lookup p := by
  rw [List.lookup_append]
  have e : s.lookup p = none := by
    cases e : s.lookup p with
    | none => rfl
    | some u => exact absurd rfl (h _ (PySem.mem_of_lookup e))
  rw [e]
  rfl
theorem fm_zip {r : List (Str × Value)} : ∀ {ps : List Str} {us : List Value} {t : List (Str × Value)}, ps.Nodup → us.length = ps.length → (∀ q ∈ t, q.1 ∉ ps) → (ps.filterMap fun n => ((t ++ (ps.zip us ++ r)).lookup n).map (n, ·)) = ps.zip us
  | [], _, _, _, _, _ => by simp
  | p :: ps, [], _, _, h, _ => by cases h
  | p :: ps, u :: us, t, nd, hl, ht => by
    have nd' := List.nodup_cons.mp nd
    have e1 : (t ++ ((p :: ps).zip (u :: us) ++ r)).lookup p = some u := by
      rw [look_app_none fun q hq => fun z => ht q hq (by rw [z]; exact List.mem_cons_self)]
      simp [List.lookup]
    have e2 : t ++ ((p :: ps).zip (u :: us) ++ r) = (t ++ [(p, u)]) ++ (ps.zip us ++ r) := by simp
    have ih := fm_zip (r := r) (ps := ps) (us := us) (t := t ++ [(p, u)]) nd'.2 (Nat.succ.inj hl) fun q hq => by
      rcases List.mem_append.mp hq with hq | hq
      · exact fun z => ht q hq (List.mem_cons_of_mem _ z)
      · have e : q = (p, u) := by simpa using hq
        rw [e]
        exact nd'.1
    rw [List.filterMap_cons, e1]
    show (p, u) :: _ = (p, u) :: ps.zip us
    rw [e2, ih]
theorem fm_kw {t kz : List (Str × Value)} : ∀ {ps : List Str}, (∀ q ∈ t, q.1 ∉ ps) → (∀ p ∈ ps, (kz.lookup p).isSome = true) → (ps.filterMap fun n => ((t ++ kz).lookup n).map (n, ·)) = ps.zip (ps.filterMap fun p => kz.lookup p)
  | [], _, _ => rfl
  | p :: ps, h1, h2 => by
    obtain ⟨u, e⟩ := Option.isSome_iff_exists.mp (h2 p List.mem_cons_self)
    rw [List.filterMap_cons, List.filterMap_cons, look_app_none fun q hq z => h1 q hq (by rw [z]; exact List.mem_cons_self), e]
    show (p, u) :: _ = (p, u) :: _
    rw [fm_kw (fun q hq z => h1 q hq (List.mem_cons_of_mem _ z)) fun q hq => h2 q (List.mem_cons_of_mem _ hq)] <;> rfl
theorem keys_zip {α β : Type} : ∀ {ps : List α} {us : List β}, us.length = ps.length → (ps.zip us).map (·.1) = ps
  | [], [], _ => rfl
  | [], _ :: _, h => by cases h
  | _ :: _, [], h => by cases h
  | p :: ps, u :: us, h => by
    rw [List.zip_cons_cons, List.map_cons, keys_zip (Nat.succ.inj h)]
theorem look_keys {α : Type} {p : Str} : ∀ {l : List (Str × α)}, p ∈ l.map (·.1) → (l.lookup p).isSome = true
  | [], h => by cases h
  | (k, u) :: l, h => by
    rw [List.lookup_cons]
    cases e : (p == k) with
    | true => rfl
    | false =>
      rw [List.map_cons] at h
      rcases List.mem_cons.mp h with h | h
      · rw [beq_eq_false_iff_ne] at e
        exact absurd h e
      · exact look_keys h

theorem bind_pos {fd : FuncData} {us : List Value} (hp : plainPs fd.params = true) (hd : fd.defaults = .none) (nd : (paramsOf fd.params).Nodup) (hl : us.length = (paramsOf fd.params).length) : bindArgs fd ⟨us, []⟩ = pure ((paramsOf fd.params).zip us) := by
  have kz := keys_zip (us := us) hl
  rw [bind_plain hp hd (Nat.le_of_eq hl) (fun _ h => by cases h) (by rw [List.append_nil, kz]; exact nd) (fun p hp' => by rw [List.append_nil]; exact look_keys (by rw [kz]; exact hp'))]
  have q := fm_zip (r := []) (ps := paramsOf fd.params) (us := us) (t := []) nd hl (fun _ h => nomatch h)
  rw [List.nil_append] at q
  rw [q]
/-- a list without twice with as many as another whose parts it has -/
theorem len_le {α : Type} [DecidableEq α] : ∀ {as bs : List α}, as.Nodup → (∀ a ∈ as, a ∈ bs) → as.length ≤ bs.length
  | [], _, _, _ => Nat.zero_le _
  | a :: as, bs, nd, h => by
    have nd' := List.nodup_cons.mp nd
    have q := len_le (as := as) (bs := bs.erase a) nd'.2 fun x hx => (List.mem_erase_of_ne (fun z => nd'.1 (by rw [← z]; exact hx))).mpr (h x (List.mem_cons_of_mem _ hx))
    have e := List.length_erase_of_mem (h a List.mem_cons_self)
    have p : 0 < bs.length := List.length_pos_of_mem (h a List.mem_cons_self)
    rw [List.length_cons]
    omega
theorem sub_all {α : Type} [DecidableEq α] {as bs : List α} (nd : as.Nodup) (h : ∀ a ∈ as, a ∈ bs) (nb : bs.Nodup) (hl : as.length = bs.length) : ∀ b ∈ bs, b ∈ as := fun b hb => by
  apply Decidable.byContradiction
  intro hn
  have q := len_le (as := b :: as) (bs := bs) (List.nodup_cons.mpr ⟨hn, nd⟩) fun x hx => by
    rcases List.mem_cons.mp hx with e | hx
    · rw [e]; exact hb
    · exact h x hx
  rw [List.length_cons] at q
  omega
theorem bind_kw {fd : FuncData} {us ws : List Value} {ks : List Str} (hp : plainPs fd.params = true) (hd : fd.defaults = .none) (nd : (paramsOf fd.params).Nodup) (hk : kwFit (paramsOf fd.params) us.length ks = true) (hw : ws.length = ks.length) :
    bindArgs fd ⟨us, ks.zip ws⟩ = pure ((paramsOf fd.params).zip (kwArgs (paramsOf fd.params) ks us ws)) := by
  unfold kwFit at hk
  simp only [Bool.and_eq_true, decide_eq_true_eq, List.all_eq_true] at hk
  obtain ⟨⟨⟨k1, k2⟩, k3⟩, k4⟩ := hk
  generalize hps : paramsOf fd.params = ps at *
  have hz : ps.zip us = (ps.take us.length).zip us := by
    conv => lhs; rw [← List.take_append_drop us.length ps]
    rw [show us = us ++ [] from (List.append_nil _).symm, List.zip_append (by simp [k1])]
    simp
  have htl : (ps.take us.length).length = us.length := by simp [k1]
  have kzk := keys_zip (ps := ks) (us := ws) hw
  have kzt := keys_zip (ps := ps.take us.length) (us := us) htl.symm
  have ndd : (ps.take us.length ++ ps.drop us.length).Nodup := by rw [List.take_append_drop]; exact nd
  have all : ∀ p ∈ ps.drop us.length, p ∈ ks := sub_all k3 k4 (ndd.sublist (List.sublist_append_right _ _)) (by rw [k2, List.length_drop])
  have b := bind_plain (us := us) (kw := ks.zip ws) hp hd (by rw [hps]; exact k1) (fun q hq => by
      rw [hps]
      exact List.mem_of_mem_drop (k4 _ (List.of_mem_zip hq).1)) (by
      rw [hps, hz, List.map_append, kzk, kzt, List.nodup_append]
      refine ⟨ndd.sublist (List.sublist_append_left _ _), k3, fun a ha b hb z => ?_⟩
      rw [List.nodup_append] at ndd
      exact ndd.2.2 a ha b (k4 b hb) z) (fun p hp' => by
      rw [hps] at hp' ⊢
      rw [hz]
      refine look_keys ?_
      rw [List.map_append, kzk, kzt]
      rw [← List.take_append_drop us.length ps] at hp'
      rcases List.mem_append.mp hp' with h | h
      · exact List.mem_append_left _ h
      · exact List.mem_append_right _ (all p h))
  rw [b, hps, hz]
  have e : ps.filterMap (fun n => (((ps.take us.length).zip us ++ ks.zip ws).lookup n).map (n, ·)) = (ps.take us.length).zip us ++ (ps.drop us.length).zip ((ps.drop us.length).filterMap fun p => (ks.zip ws).lookup p) := by
    conv => lhs; rw [← List.take_append_drop us.length ps]
    rw [List.filterMap_append]
    congr 1
    · have q := fm_zip (r := ks.zip ws) (ps := ps.take us.length) (us := us) (t := []) (ndd.sublist (List.sublist_append_left _ _)) htl.symm (fun _ h => nomatch h)
      rw [List.nil_append] at q
      rw [List.take_append_drop]
      exact q
    · rw [List.take_append_drop]
      refine fm_kw (fun q hq z => ?_) fun p hp' => look_keys (by rw [kzk]; exact all p hp')
      rw [List.nodup_append] at ndd
      exact ndd.2.2 q.1 (by rw [← kzt]; exact List.mem_map.mpr ⟨q, hq, rfl⟩) q.1 z rfl
  rw [e]
  congr 1
  unfold kwArgs
  conv => rhs; lhs; rw [← List.take_append_drop us.length ps]
  rw [List.zip_append htl]
end CK
end

section
set_option Elab.async false
set_option linter.all false
set_option maxRecDepth 100000
set_option maxHeartbeats 4000000
namespace CK
open PySem PySem.Spec PyProof.Rows L2
/-! ### argument lists -/
theorem star_cons {e : Expr} {es : List Expr} {env : Env} (h : isStar e = false) : starEach (e :: es) env = (false, eval e env) :: starEach es env := by
  cases e <;> first | rfl | cases h
theorem star_any {env : Env} {pos : Pos} : ∀ {es : List Expr}, (∀ e ∈ es, isStar e = false) → (backTo pos (starEach es env)).any (·.1) = false
  | [], _ => rfl
  | e :: es, h => by
    rw [star_cons (h e List.mem_cons_self)]
    show (false || (backTo pos (starEach es env)).any (·.1)) = false
    rw [star_any fun x hx => h x (List.mem_cons_of_mem _ hx)] <;> rfl
theorem star_all {env : Env} {pos : Pos} : ∀ {es : List Expr}, (∀ e ∈ es, isStar e = false) → (backTo pos (starEach es env)).all (fun x => !x.1) = true
  | [], _ => rfl
  | e :: es, h => by
    rw [star_cons (h e List.mem_cons_self)]
    show (!false && (backTo pos (starEach es env)).all (fun x => !x.1)) = true
    rw [star_all fun x hx => h x (List.mem_cons_of_mem _ hx)] <;> rfl
theorem asg_cons {e : Expr} {es : List Expr} {env : Env} (h : isStar e = false) : assignEach (e :: es) env = (false, assign e env) :: assignEach es env := by
  cases e <;> first | rfl | cases h
theorem asg_len {env : Env} : ∀ {es : List Expr}, (∀ e ∈ es, isStar e = false) → (assignEach es env).length = es.length
  | [], _ => rfl
  | e :: es, h => by
    rw [asg_cons (h e List.mem_cons_self), List.length_cons, List.length_cons, asg_len fun x hx => h x (List.mem_cons_of_mem _ hx)]
theorem asg_none {env : Env} : ∀ {es : List Expr}, (∀ e ∈ es, isStar e = false) → (assignEach es env).findIdx? (·.1) = none
  | [], _ => rfl
  | e :: es, h => by
    rw [asg_cons (h e List.mem_cons_self), List.findIdx?_cons, asg_none fun x hx => h x (List.mem_cons_of_mem _ hx)] <;> rfl
theorem sw_false {e : Expr} {tgt : Option Expr} {l : Nat} {env : Env} (h : isComp e = false) : swapsWith e tgt l env = pure false := by
  cases e <;> first | rfl | cases h
theorem base_of {o : Expr} {m : Str} {env : Env} {w : Sem Value} (h : isCall0 o = false) : attributeBase o m env w = w := by
  unfold attributeBase
  split
  · cases h
  · rfl
end CK
end

section
set_option Elab.async false
set_option linter.all false
set_option maxRecDepth 100000
set_option maxHeartbeats 8000000
namespace CK
open PySem PySem.Spec PyProof.Rows L2
theorem look_vals {p : Str} : ∀ {ks : List Str} {zs : List V} {ws : List Value}, Vals zs ws → RelO ((ks.zip zs).lookup p) ((ks.zip ws).lookup p)
  | [], _, _, _ => trivial
  | _ :: _, _, _, .nil => trivial
  | k :: ks, z :: zs, w :: ws, .cons r t => by
    rw [List.zip_cons_cons, List.zip_cons_cons, List.lookup_cons, List.lookup_cons]
    cases h : (p == k) with
    | true => exact r
    | false => exact look_vals t
theorem fm_vals {ks : List Str} {zs : List V} {ws : List Value} (r : Vals zs ws) : ∀ ps : List Str, Vals (ps.filterMap fun p => (ks.zip zs).lookup p) (ps.filterMap fun p => (ks.zip ws).lookup p)
  | [] => .nil
  | p :: ps => by
    have q := look_vals (p := p) (ks := ks) r
    rw [List.filterMap_cons, List.filterMap_cons]
    cases h1 : (ks.zip zs).lookup p with
    | none =>
      rw [h1] at q
      rw [RelO.none_of q]
      exact fm_vals r ps
    | some v =>
      rw [h1] at q
      obtain ⟨u, e, ru⟩ := RelO.some_of q
      rw [e]
      exact .cons ru (fm_vals r ps)
theorem kwArgs_vals {ps ks : List Str} {vs zs : List V} {us ws : List Value} (r : Vals vs us) (z : Vals zs ws) : Vals (kwArgs ps ks vs zs) (kwArgs ps ks us ws) := by
  unfold kwArgs
  rw [r.length]
  exact r.append (fm_vals z _)
/-- how a def's arguments bind, n by place and some by names -/
def KwB (K : PySem.W.Frag) (fd : FuncData) (ps : List Str) (n : Nat) (ks : List Str) : Prop := ∀ (s : Shared) (us ws : List Value), K.In s.heap → us.length = n → ws.length = ks.length → BindsTo s fd ⟨us, ks.zip ws⟩ (ps.zip (kwArgs ps ks us ws))
/-- f(.., k = v): the promise of the bound values -/
def tCallKw (sp : Sp) (ps : List Str) (n : Nat) (ks : List Str) (E : L2.St → XK) (t tk : TA) : TE := fun σ H Q => t σ H fun vs H1 => tk σ H1 fun zs H2 => vs.length = n ∧ zs.length = ks.length ∧ sp (kwArgs ps ks vs zs) H2 Q (E σ)
theorem kw_all {env : Env} {pos : Pos} : ∀ {kws : List Keyword}, kwNamed kws = true → (backToKw pos (keywordEach kws env)).all (·.1.isSome) = true ∧ (backToKw pos (keywordEach kws env)).any (·.1.isNone) = false ∧ (backToKw pos (keywordEach kws env)).filterMap (·.1) = kwNames kws
  | [], _ => ⟨rfl, rfl, rfl⟩
  | ⟨some x, e, p⟩ :: kws, h => by
    obtain ⟨h1, h2, h3⟩ := kw_all (env := env) (pos := pos) (kws := kws) h
    refine ⟨?_, ?_, ?_⟩
    · show (true && (backToKw pos (keywordEach kws env)).all (·.1.isSome)) = true
      rw [h1] <;> rfl
    · show (false || (backToKw pos (keywordEach kws env)).any (·.1.isNone)) = false
      rw [h2] <;> rfl
    · have e1 : (backToKw pos (keywordEach (⟨some x, e, p⟩ :: kws) env)).filterMap (·.1) = x :: (backToKw pos (keywordEach kws env)).filterMap (·.1) := rfl
      have e2 : kwNames (⟨some x, e, p⟩ :: kws) = x :: kwNames kws := rfl
      rw [e1, e2, h3]
  | ⟨none, e, p⟩ :: kws, h => by cases h
section
variable {X : Cx} {CX : CXT} {k n : Nat} {f C : Addr} {fd : FuncData} {ps ks : List Str} {sp : Sp} {E : L2.St → XK} {x : Str} {p pos : Pos} {e : Expr} {es : List Expr} {kws : List Keyword} {t tk : TA}
theorem run_kw {pins : List (Addr × Obj)} {σ : L2.St} {H : Hp} {s : Shared} {Q : VK} {us ws : List Value} {vs zs : List V} (F : FnOk X.prog X.w X.K X.mg X.base CX k f fd ps sp) (hr : Room k X.A) (hb : KwB X.K fd ps n ks) (hx : PassesAt CX X σ (E σ))
    (I : Inv X pins σ H s) (r : Vals vs us) (rz : Vals zs ws) (l1 : vs.length = n) (l2 : zs.length = ks.length) (h : sp (kwArgs ps ks vs zs) H Q (E σ)) : wpAny (model X.prog X.w) X.A (call (.ref f) us (ks.zip ws)) (EP X pins σ Q) X.xe s := by
  have r2 := kwArgs_vals (ps := ps) (ks := ks) r rz
  refine wpAny_call (codeAny_mono (F.run X.A X.stack s H ⟨us, ks.zip ws⟩ _ _ Q (E σ) hr I.env0 (hb s us ws I.kIn (r.length.symm.trans l1) (rz.length.symm.trans l2)) r2 h) fun r s' hq => ?_)
  cases r with
  | error e => exact hx pins H s e s' I hq
  | ok fl =>
    cases fl with
    | ret u => exact I.after hq
    | next => exact False.elim hq
    | brk => exact False.elim hq
    | cont => exact False.elim hq
theorem pe_callKw0 (F : FnOk X.prog X.w X.K X.mg X.base CX k f fd ps sp) (hr : Room k X.A) (hg : Gl X x) (hm : X.mg x = some (.ref f)) (hk : PySem.W.keepIn X.K (.ref f) = true) (hb : KwB X.K fd ps n (kwNames kws)) (hx : ∀ σ, PassesAt CX X σ (E σ))
    (hkw : PK X kws tk) (hn : kwNamed kws = true) (hdb : (x == ("__debug__" : Str)) = false) : PE X (.Call (.Name x p) [] kws pos) (tCallKw sp ps n (kwNames kws) E tNil tk) := by
  refine ⟨fun pins s σ H Q I h => ?_⟩
  obtain ⟨a1, a2, a3⟩ := kw_all (env := X.env) (pos := pos) hn
  refine wpAny_Call_Name_kw (ld_glob I hg hm ?_ hdb)
  refine PySem.W.callWith_KW0 (h₀ := X.base) I.ok.mod.kin hk a1 ?_ (by rw [a2] <;> rfl)
  refine thn (hkw.run pos pins s σ H _ I h) fun ws s2 ⟨zs, H2, I2, rz, l1, l2, q2⟩ => ⟨I2.kIn, ?_⟩
  rw [a3]
  exact run_kw F hr hb (hx σ) I2 .nil rz l1 l2 q2
theorem pe_callKw (F : FnOk X.prog X.w X.K X.mg X.base CX k f fd ps sp) (hr : Room k X.A) (hg : Gl X x) (hm : X.mg x = some (.ref f)) (hk : PySem.W.keepIn X.K (.ref f) = true) (hb : KwB X.K fd ps n (kwNames kws)) (hx : ∀ σ, PassesAt CX X σ (E σ))
    (hs : ∀ y ∈ e :: es, isStar y = false) (ha : PA X (e :: es) t) (hkw : PK X kws tk) (hn : kwNamed kws = true) (hdb : (x == ("__debug__" : Str)) = false) : PE X (.Call (.Name x p) (e :: es) kws pos) (tCallKw sp ps n (kwNames kws) E t tk) := by
  refine ⟨fun pins s σ H Q I h => ?_⟩
  obtain ⟨a1, a2, a3⟩ := kw_all (env := X.env) (pos := pos) hn
  have b1 := star_any (env := X.env) (pos := pos) hs
  refine wpAny_Call_Name_kw (ld_glob I hg hm ?_ hdb)
  refine PySem.W.callWith_KW (h₀ := X.base) I.ok.mod.kin hk a1 (thn (ha.run pos pins s σ H _ I h) fun us s1 ⟨vs, H1, I1, r, q⟩ => ?_) (by rw [a2, b1] <;> rfl) (star_cons (hs e List.mem_cons_self))
  refine thn (hkw.run pos pins s1 σ H1 _ I1 q) fun ws s2 ⟨zs, H2, I2, rz, l1, l2, q2⟩ => ⟨I2.kIn, ?_⟩
  rw [a3]
  exact run_kw F hr hb (hx σ) I2 r rz l1 l2 q2
end
/-! ### own exceptions, made as values -/
/-- the class at C, its __init__ at fI -/
structure ExK (K : PySem.W.Frag) (C fI : Addr) : Prop where
  cls : OexC K C
  init : PySem.W.findIn K (.ref C) "__init__" = some (some (.ref fI))
  fn : PySem.W.typeIn K (.ref fI) = some (.type "function")
section
variable {X : Cx} {CX : CXT} {k n : Nat} {fI C : Addr} {fd : FuncData} {ps : List Str} {sp : Sp} {E : L2.St → XK} {x : Str} {p pos : Pos} {e : Expr} {es : List Expr} {kws : List Keyword} {t tk : TA}
theorem run_mkx (T : ExK X.K C fI) {ks : List Str} {pins : List (Addr × Obj)} {σ : L2.St} {H : Hp} {s : Shared} {Q : VK} {us ws : List Value} {vs zs : List V} (F : FnOk X.prog X.w X.K X.mg X.base CX k fI fd ps sp) (hr : Room (k + 1) X.A) (hb : KwB X.K fd ps (n + 1) ks) (hx : PassesAt CX X σ (E σ))
    (I : Inv X pins σ H s) (r1 : Vals vs us) (rz : Vals zs ws) (l1 : vs.length = n) (l2 : zs.length = ks.length) (hz : n ≤ 1000)
    (h : ∀ a, H a = none → sp (kwArgs ps ks (.ref a :: vs) zs) (upd H a (exo a C none)) (fun v H3 => v = .non ∧ Q (.ref a) H3) (E σ)) : wpAny (model X.prog X.w) X.A (call (.ref C) us (ks.zip ws)) (EP X pins σ Q) X.xe s := by
  obtain ⟨nm, q, N, bs, bm, sn, sub, ab, col, dd, k0, k1, k2, k3, k5, hC, hbm⟩ := T.cls.cls
  obtain ⟨hp, g, dr, tk, os⟩ := s
  have hsz : hp.objs.size ≤ hp.objs.size + 1 := Nat.le_succ _
  have hn : H (hp.objs.size + 1) = none := I.hok.fresh hsz
  have hq := h (hp.objs.size + 1) hn
  have kk : ∀ b o, hp.get? b = some o → ((hp.push (PySem.W.kdv_tup us)).push (PySem.HandSPX.excO C hp.objs.size)).get? b = some o := fun b o e => Heap.get?_push_of_some _ (Heap.get?_push_of_some _ e)
  have hget : ((hp.push (PySem.W.kdv_tup us)).push (PySem.HandSPX.excO C hp.objs.size)).get? (hp.objs.size + 1) = some (PySem.HandSPX.excO C hp.objs.size) := by heap_get
  have I2 : Inv X pins σ (upd H (hp.objs.size + 1) (exo (hp.objs.size + 1) C none)) ⟨(hp.push (PySem.W.kdv_tup us)).push (PySem.HandSPX.excO C hp.objs.size), g, dr, tk, os⟩ :=
    I.laid (t' := tk) (a := hp.objs.size + 1) (o := exo (hp.objs.size + 1) C none) (h' := (hp.push (PySem.W.kdv_tup us)).push (PySem.HandSPX.excO C hp.objs.size)) kk hsz (exo_ok hget)
  have r2 : Vals (V.ref (hp.objs.size + 1) :: vs) (Value.ref (hp.objs.size + 1) :: us) := .cons rfl r1
  have r3 := kwArgs_vals (ps := ps) (ks := ks) r2 rz
  have hus : us.length ≤ sizeLine := by
    rw [← Paired.length r1, sizeLine_eq]
    omega
  refine wpAny_call (PySem.HandSPX.call_kw PySem.F.excBase_ValueError (fun Y => PySem.HandSPX.refsVE_contains Y bm hbm) (I.kIn _ _ hC) (PySem.W.looks_findIn I.kIn T.init) (fun self => PySem.W.bind_fn I.kIn self T.fn) hus
    (codeAny_mono (F.run _ X.stack _ _ ⟨Value.ref (hp.objs.size + 1) :: us, ks.zip ws⟩ _ _ _ (E σ) (hr.make C us (ks.zip ws)) (I2.env0.make C us (ks.zip ws)) (hb _ (Value.ref (hp.objs.size + 1) :: us) ws I2.kIn (by rw [List.length_cons, ← Paired.length r1, l1]) (rz.length.symm.trans l2)) r3 hq) fun r s' hq' => ?_))
  cases r with
  | error er => exact hx pins _ _ er s' I2 hq'
  | ok fl =>
    cases fl with
    | ret u =>
      obtain ⟨v, H3, I3, rv, ev, q3⟩ := I2.after hq'
      subst ev
      exact ⟨rv, .ref (hp.objs.size + 1), H3, I3, rfl, q3⟩
    | next => exact False.elim hq'
    | brk => exact False.elim hq'
    | cont => exact False.elim hq'
theorem pe_mkx0 (T : ExK X.K C fI) (F : FnOk X.prog X.w X.K X.mg X.base CX k fI fd ps sp) (hr : Room (k + 1) X.A) (hg : Gl X x) (hm : X.mg x = some (.ref C)) (hb : KwB X.K fd ps (n + 1) (kwNames kws)) (hx : ∀ σ, PassesAt CX X σ (E σ))
    (hkw : PK X kws tk) (hn : kwNamed kws = true) (hdb : (x == ("__debug__" : Str)) = false) : PE X (.Call (.Name x p) [] kws pos) (tMkX C sp ps n (kwNames kws) E tNil tk) := by
  refine ⟨fun pins s σ H Q I h => ?_⟩
  obtain ⟨a1, a2, a3⟩ := kw_all (env := X.env) (pos := pos) hn
  refine wpAny_Call_Name_kw (ld_glob I hg hm ?_ hdb)
  refine PySem.W.callWith_KW0 (h₀ := X.base) I.ok.mod.kin T.cls.kC a1 ?_ (by rw [a2] <;> rfl)
  refine thn (hkw.run pos pins s σ H _ I h) fun ws s2 ⟨zs, H2, I2, rz, l1, l2, l3, q2⟩ => ⟨I2.kIn, ?_⟩
  rw [a3]
  exact run_mkx T F hr hb (hx σ) I2 .nil rz l1 l2 l3 q2
theorem pe_mkx (T : ExK X.K C fI) (F : FnOk X.prog X.w X.K X.mg X.base CX k fI fd ps sp) (hr : Room (k + 1) X.A) (hg : Gl X x) (hm : X.mg x = some (.ref C)) (hb : KwB X.K fd ps (n + 1) (kwNames kws)) (hx : ∀ σ, PassesAt CX X σ (E σ))
    (hs : ∀ y ∈ e :: es, isStar y = false) (ha : PA X (e :: es) t) (hkw : PK X kws tk) (hn : kwNamed kws = true) (hdb : (x == ("__debug__" : Str)) = false) : PE X (.Call (.Name x p) (e :: es) kws pos) (tMkX C sp ps n (kwNames kws) E t tk) := by
  refine ⟨fun pins s σ H Q I h => ?_⟩
  obtain ⟨a1, a2, a3⟩ := kw_all (env := X.env) (pos := pos) hn
  have b1 := star_any (env := X.env) (pos := pos) hs
  refine wpAny_Call_Name_kw (ld_glob I hg hm ?_ hdb)
  refine PySem.W.callWith_KW (h₀ := X.base) I.ok.mod.kin T.cls.kC a1 (thn (ha.run pos pins s σ H _ I h) fun us s1 ⟨vs, H1, I1, r, q⟩ => ?_) (by rw [a2, b1] <;> rfl) (star_cons (hs e List.mem_cons_self))
  refine thn (hkw.run pos pins s1 σ H1 _ I1 q) fun ws s2 ⟨zs, H2, I2, rz, l1, l2, l3, q2⟩ => ⟨I2.kIn, ?_⟩
  rw [a3]
  exact run_mkx T F hr hb (hx σ) I2 r rz l1 l2 l3 q2
end
end CK
end

section
set_option Elab.async false
set_option linter.all false
set_option maxRecDepth 100000
set_option maxHeartbeats 8000000
namespace PySem.W
open PySem PySem.Spec PySem.Calls PyProof.Rows
section
variable {prog : Program} {w : World} {A : Around} {E : Value → Shared → Prop} {s : Shared} {K : Frag} {x D : Addr} {ox : Obj} {od : Option Obj}
theorem findObj_dataO {C : Addr} {name : Str} {a g : Value} (hc : (clsIn K C).isSome = true) (ha : findIn K (.ref C) name = some (some a)) (hg : specialIn K a "__get__" = some (some g)) (ht : takesIn K a = some true) : findObj K C od name = some (.bind g a) := by
  obtain ⟨cd, hc⟩ := Option.isSome_iff_exists.mp hc
  unfold findObj
  rw [hc, Option.bind_some, ha, Option.bind_some]
  simp [hg, ht]
/-- x.__class__ of an own exception, whatever its own dict is -/
theorem exo_class {Q : Option Value → Shared → Prop} (c : L2.ExcC K D) (X : K.In s.heap) (I : InstAt s.heap x ox D od) (h : Q (some (.ref D)) { s with toks := s.toks + 1 }) : wpAny (model prog w) A (getAttr? (.ref x) "__class__") Q E s := by
  have hf : findObj K D od "__class__" = some (.bind (.builtin "getset_descriptor.__get__") (.builtin "object.__class__")) := findObj_dataO (by obtain ⟨cd, hc, _⟩ := any_some c.hd; rw [hc]; rfl) c.ha c.hn c.ht
  obtain ⟨hp, g, d, t, os⟩ := s
  have T0 := I.type (M := model prog w)
  have T1 := looks_findIn (M := model prog w) X c.hg
  have T2 := looks_findIn (M := model prog w) X c.hk
  have T3 := looks_find (M := model prog w) X I hf
  have sub : Looks (model prog w) hp (isInstance (.ref x) (.type "BaseException")) true := T0.andThen (looks_subIn X c.hs)
  have n0 : (false && onTheHeap (Value.builtin "BaseException.__getattribute__")) = false := rfl
  have n2 : (Value.builtin "BaseException.__getattribute__" == Value.builtin "object.__getattribute__") = false := by decide +kernel
  have n1 : (onTheHeap (Value.ref D) && Value.builtin "BaseException.__getattribute__" == Value.builtin "object.__getattribute__") = false := by rw [n2]; rfl
  unfold getAttr? getAttrBy? getAttrBy
  refine wpAny_bind (wpAny_mkText (wpAny_bind (wpAny_attempt (wpAny_holding (wpAny_bind (T0.at (wpAny_bind (T1.at ?_))))))))
  show wpAny _ _ (if (onTheHeap (Value.ref D) && Value.builtin "BaseException.__getattribute__" == Value.builtin "object.__getattribute__") = true then _ else _) _ _ _
  rw [n1, if_neg Bool.false_ne_true]
  unfold getAttrByItsOwn hookBefore
  refine wpAny_bind ?_
  rw [if_pos (show onTheHeap (Value.ref D) = true from rfl)]
  refine T2.at ?_
  refine wpAny_bind (wpAny_attempt (wpAny_holding ?_))
  unfold callGetattribute
  rw [n0, if_neg Bool.false_ne_true]
  unfold boundAndCalled
  rw [PySem.F.excAttr_ValueError.ga.bind (.ref x)]
  refine wpAny_bind (wpAny_pure ?_)
  show wpAny _ _ (call (.builtin "BaseException.__getattribute__") [.ref x, .str "__class__" t]) _ _ _
  refine wpAny_call (codeAny_call_builtin PySem.F.excAttr_ValueError.ga.plain PySem.F.entry_bexc_ga ?_)
  refine @check_slot (model prog w) _ _ ⟨hp, g, d, t + 1, os⟩ "BaseException.__getattribute__" "BaseException" "__getattribute__" (.ref x) [.str "__class__" t] [] _ (by decide +kernel) (by decide +kernel) sub (PySem.F.args_bexc_ga (.ref x) (.str "__class__" t)) ?_
  unfold Builtin.«object.__getattribute__»
  refine wpAny_bind (wpAny_of_eq (a := ((Value.ref x : Value), [Value.str "__class__" t])) (by first | rfl | (simp only [slotArgs]; rfl)) ?_)
  refine wpAny_bind (wpAny_pure (wpAny_bind (T0.at (wpAny_bind (T3.at ?_)))))
  show wpAny _ _ (holding [Value.builtin "object.__class__"] (call (.builtin "getset_descriptor.__get__") [.builtin "object.__class__", .ref x, .ref D]) >>= ret) _ _ _
  refine wpAny_bind (wpAny_holding (wpAny_call (class_get (s := ⟨hp, g, d, t + 1, os⟩) (ox := ox) (od := od) X I c.hm ?_)))
  refine wpAny_pure ?_
  show wpAny _ _ (handedOut (.ref D)) _ _ _
  rw [handedOut_of (v := .ref D) rfl]
  first
    | exact wpAny_pure (wpAny_pure h)
    | exact wpAny_pure h
    | exact wpAny_pure (wpAny_bind (wpAny_pure (wpAny_pure h)))
theorem kitx_exo (c : L2.ExcC K D) : KitX K (.ref x) (.ref D) (fun h => InstAt h x ox D od) where
  ty := fun _ _ _ I => I.type
  it := fun _ _ X _ => by
    obtain ⟨cdD, hcD, _⟩ := any_some c.hd
    unfold clsIn at hcD
    split at hcD
    · rename_i c' d' cd' sl' ho
      intro A' Q' E' s' k q
      unfold isType loadHead
      exact wpAny_bind (wpAny_loadPart (k _ _ (X _ _ ho)) (wpAny_pure q))
    · cases hcD
  ne := fun h tp dd its n sl X htp => by
    obtain ⟨cdD, hcD, _⟩ := any_some c.hd
    refine Bool.eq_false_iff.mpr fun q => ?_
    have e : D = tp := Value.ref.inj (beq_iff_eq.mp q)
    subst e
    unfold clsIn at hcD
    split at hcD
    · rename_i c' d' cd' sl' ho
      have z := (X _ _ ho).symm.trans htp
      cases z
    · cases hcD
  ca := fun X I k => exo_class c X I k
end
end PySem.W
namespace CK
open PySem PySem.Spec PyProof.Rows L2
section
variable {X : Cx} {C : Addr} {bmB : List Value} {B newId initId : String} {x f : Str} {p pos : Pos} {e : Expr} {te : TE}
/-- C(), an own exception class without own __init__, as a value -/
theorem pe_mk0 (F : ExcBaseFacts B newId initId bmB) (q : PySem.W.excIn X.K C bmB newId = true) (gC : X.mg x = some (.ref C)) (kC : PySem.W.keepIn X.K (.ref C) = true) (hg : Gl X x) (hdb : (x == ("__debug__" : Str)) = false) :
    PE X (.Call (.Name x p) [] [] pos) (tMk0 C) := by
  refine ⟨fun pins s σ H Q I h => ?_⟩
  refine wpAny_Call_Name_kw (ld_glob I hg gC ?_ hdb)
  refine PySem.W.callWith_K0 I.kIn kC ?_
  show wpAny _ _ (call (.ref C) []) _ _ _
  obtain ⟨bm, N, nm, qn, bs, hdct, sn, sub, ab, col, dd, k0, k1, k2, k3, k5, mN, hC, hN, hni, T⟩ := exc_obj I.kIn q
  refine wpAny_call_exc_subT F T hC hN hni (fun h' a hm => ?_) (Nat.zero_le _)
  have hn : H a = none := I.hok.gone hm.new
  obtain ⟨t, ht, _, _⟩ := hm.there
  exact ⟨.ref a, upd H a (exo a C none), I.laidN hm.keeps hm.new hn (exo_ok ht), rfl, h a hn⟩
/-- e.f, e an own exception -/
theorem pe_att (he : PE X e te) (hb : isCall0 e = false) : PE X (.Attribute e f pos) (tAtt X.K f te) := by
  refine ⟨fun pins s σ H Q I h => ?_⟩
  refine attr_of (base_of hb) (thn (he.run pins s σ H _ I h) fun u s1 hh => ?_)
  obtain ⟨z, H1, I1, rx, a, C, dx, fs, v, ex, T, hno, ea, ed, l, q⟩ := hh
  subst ex
  obtain rfl : u = Value.ref a := rx
  obtain ⟨t1, ho⟩ := exo_at I1.hok ea
  obtain ⟨mA, hns, hr⟩ := exd_at I1.hok ed
  obtain ⟨od, hod, hl⟩ := lookIn_ns hns
  obtain ⟨u, hu, ru⟩ := RelO.some_of (v := v) (o := mA f) (by rw [← l]; exact hr f)
  have J : PySem.W.InstAt s1.heap a _ C (some od) := ⟨ho, rfl, rfl, hod⟩
  exact HandSPX.exc_get I1.kIn J T.hg T.hk T.hs (PySem.W.findObj_own T.hd hno rfl (by rw [hl, hu])) (handed_of ru) ⟨v, H1, I1.tok _, ru, q⟩
end
end CK
end

section
set_option Elab.async false
set_option linter.all false
set_option maxRecDepth 100000
set_option maxHeartbeats 8000000
namespace CK
open PySem PySem.Spec PyProof.Rows L2
theorem lmO_at {Pg : Program} {w : World} {P : Pn} {H : Hp} {h : Heap} {f c : Addr} {L : LamI} (hok : HOk Pg w H h) (e : H f = some (LmO P f c L)) :
    ∃ (params : Arguments) (scope : Scope) (body : Expr) (pm ctv : Value), h.get? f = some (PySem.W.kla_obj "<lambda>" L.q params body scope [] pm c ctv) ∧ LmB P params scope body L := by
  obtain ⟨z, _, _⟩ := hok f _ e
  exact z
theorem lmO_laid {Pg : Program} {w : World} {P : Pn} {H : Hp} {h : Heap} {f c : Addr} {L : LamI} {params : Arguments} {scope : Scope} {body : Expr} {pm ctv : Value} (e : h.get? f = some (PySem.W.kla_obj "<lambda>" L.q params body scope [] pm c ctv)) (b : LmB P params scope body L) : ObjOk Pg w H h f (LmO P f c L) :=
  ⟨⟨params, scope, body, pm, ctv, e, b⟩, ⟨_, e⟩, fun _ _ ⟨p, s, bo, m, t, z, y⟩ st => ⟨p, s, bo, m, t, st _ z, y⟩⟩
theorem nfree {ns ps : List Str} {sc : Scope} (h : NdefX.nscB ns ps [] sc = true) : ∀ y ∈ sc.names, y.2 = .free → False := fun y hy e => nomatch (NdefX.nscope_by h).free y hy e
theorem clo_nil {cells : List (Str × Addr)} {names : List (Str × NameKind)} (h : ∀ y ∈ names, y.2 = .free → False) : cloFrom cells names [] = [] := by
  cases e : cloFrom cells names [] with
  | nil => rfl
  | cons q r =>
    have m : (q.1, q.2) ∈ cloFrom cells names [] := by rw [e]; exact List.mem_cons_self
    rcases cloFrom_mem m with hm | ⟨h1, _⟩
    · cases hm
    · exact (h _ h1 rfl).elim
section
variable {X : Cx} {D : Dm} {L : LamI} {c T0 : Addr} {params : Arguments} {body : Expr} {scope : Scope} {pos : Pos}
/-- a lambda that captures nothing, as a value -/
theorem pe_lam (TB : LamX.TabB X.base X.mg c T0) (hcode : X.env.code = .ref c) (hm : (T0, X.env.qual ++ "<lambda>") ∈ D.T) (hu : ∀ p ∈ D.T, p.1 = T0 → p.2 = X.env.qual ++ "<lambda>") (hq : L.q = X.env.qual ++ "<lambda>") (hB : LmB D.P params scope body L) :
    PE X (.Lambda params body scope pos) (tLam D L) := by
  refine ⟨fun pins s σ H Q I h => ?_⟩
  obtain ⟨hT, h⟩ := h
  obtain ⟨b1, b2, b3, b4⟩ := hB
  have nf := nfree b3
  have b1' := b1
  unfold plainPs at b1'
  simp only [Bool.and_eq_true, List.isEmpty_iff, Option.isNone_iff_eq_none] at b1'
  obtain ⟨⟨⟨⟨⟨_, _⟩, _⟩, d1⟩, _⟩, d2⟩ := b1'
  have hdef : defaultsOf params X.env = ([], []) := by
    obtain ⟨_, _, _, _, _, _, _⟩ := params
    simp only at d1 d2
    subst d1 d2
    rfl
  refine PySem.W.kla_eval hdef ?_
  have hcl : closureFor scope X.env = pure [] := by
    have q := closure_ok (env := X.env) (scope := scope) (fun y hy e => (nf y hy e).elim)
    rw [clo_nil nf] at q
    exact q
  obtain ⟨ps, hP, ht, ha⟩ := hT _ hm
  have glob := I.mod.glob.keeps I.bk
  have code := TB.code.keeps I.bk
  have blt := TB.bm.keeps I.bk
  have tab : s.heap.get? T0 = some { cls := .none, data := .fields ps } := I.hok T0 _ hP
  cases hc : codeAmong pos ps.toList with
  | none =>
    refine PySem.W.kla_makeFunction (mg := X.mg) (c := c) (P := T0) (ps := ps) hcl I.ok.glob glob hcode code tab ht hc TB.gP blt fun c' ctv h' tk hx hge hlt hrec htb => ?_
    obtain ⟨c2, oc, vs, t, e2, hoc, hd, hv⟩ := hrec
    cases e2
    have nC : H c' = none := I.hok.fresh hge
    have J := LamX.inv_table (t' := tk) (more := #[rawInt pos.line, rawInt pos.col, .ref c']) (h' := h') I hP (fun b o hb e => hx b o hb e) htb hge ⟨oc, vs, t, hoc, hd, hv⟩
    have nF : upd (upd H T0 (.tbl (ps ++ #[rawInt pos.line, rawInt pos.col, .ref c']))) c' (LamX.CodeO c' (X.env.qual ++ "<lambda>")) h'.objs.size = none := J.hok.fresh (Nat.le_refl _)
    have gF : (h'.push (PySem.W.kla_obj "<lambda>" (X.env.qual ++ "<lambda>") params body scope [] ((X.mg "__name__").getD .none) c' ctv)).get? h'.objs.size = some (PySem.W.kla_obj "<lambda>" (X.env.qual ++ "<lambda>") params body scope [] ((X.mg "__name__").getD .none) c' ctv) := Heap.get?_push_size _ rfl
    have J2 := J.laid (t' := tk) (a := h'.objs.size) (o := LmO D.P h'.objs.size c' L) (fun b u e => Heap.get?_push_of_some _ e) (Nat.le_refl _) (lmO_laid (by rw [hq]; exact gF) ⟨b1, b2, b3, b4⟩)
    have nCF : c' ≠ h'.objs.size := Nat.ne_of_lt hlt
    have hE : LamX.ExtN H (upd (upd (upd H T0 (.tbl (ps ++ #[rawInt pos.line, rawInt pos.col, .ref c']))) c' (LamX.CodeO c' (X.env.qual ++ "<lambda>"))) h'.objs.size (LmO D.P h'.objs.size c' L)) := fun b o e n => by
      have e1 : upd (upd H T0 (.tbl (ps ++ #[rawInt pos.line, rawInt pos.col, .ref c']))) c' (LamX.CodeO c' (X.env.qual ++ "<lambda>")) b = some o := by
        rw [upd_ne (ne_of_none e nC), upd_ne (fun z => n ps (Option.some.inj (e.symm.trans (by rw [z]; exact hP))))]
        exact e
      rw [upd_ne (ne_of_none e1 nF)]
      exact e1
    refine ⟨.ref h'.objs.size, _, J2, rfl, h h'.objs.size c' _ hE (fun p hp => ?_) (I.hok.fresh (Nat.le_trans hge (Nat.le_of_lt hlt))) upd_same (by rw [upd_ne nCF, hq]; exact upd_same)⟩
    by_cases hb : p.1 = T0
    · rw [hu p hp hb, hb]
      have eL : (ps ++ #[rawInt pos.line, rawInt pos.col, .ref c']).toList = ps.toList ++ [rawInt pos.line, rawInt pos.col, .ref c'] := by simp
      have atT : upd (upd H T0 (.tbl (ps ++ #[rawInt pos.line, rawInt pos.col, .ref c']))) c' (LamX.CodeO c' (X.env.qual ++ "<lambda>")) T0 = some (.tbl (ps ++ #[rawInt pos.line, rawInt pos.col, .ref c'])) := by
        rw [upd_ne (ne_of_none hP nC), upd_same]
      refine ⟨_, by rw [upd_ne (ne_of_none atT nF)]; exact atT, by rw [eL]; exact PySem.TriplesOk_snoc _ _ _ _ ht, fun p' cv hcv => ?_⟩
      rw [eL] at hcv
      rcases LamX.among_app _ ht hcv with z | z
      · obtain ⟨c0, e1, e2⟩ := ha p' cv z
        exact ⟨c0, e1, hE _ _ e2 LamX.codeO_ne⟩
      · exact ⟨c', z, by rw [upd_ne nCF]; exact upd_same⟩
    · obtain ⟨ps', a1, a2, a3⟩ := hT p hp
      have a1' : upd (upd H T0 (.tbl (ps ++ #[rawInt pos.line, rawInt pos.col, .ref c']))) c' (LamX.CodeO c' (X.env.qual ++ "<lambda>")) p.1 = some (.tbl ps') := by
        rw [upd_ne (ne_of_none a1 nC), upd_ne hb]
        exact a1
      refine ⟨ps', by rw [upd_ne (ne_of_none a1' nF)]; exact a1', a2, fun p' cv hcv => ?_⟩
      obtain ⟨c0, e1, e2⟩ := a3 p' cv hcv
      exact ⟨c0, e1, hE _ _ e2 LamX.codeO_ne⟩
  | some cv =>
    obtain ⟨c', e, hco⟩ := ha pos cv hc
    subst e
    refine PySem.W.kla_makeFunctionHit (mg := X.mg) (c := c) (P := T0) (ps := ps) hcl I.ok.glob glob hcode code tab ht hc blt fun ctv h' tk hx hsz => ?_
    have J : Inv X pins σ H { s with heap := h', toks := tk } := I.kept hx
    have nF : H h'.objs.size = none := J.hok.fresh (Nat.le_refl _)
    have gF : (h'.push (PySem.W.kla_obj "<lambda>" (X.env.qual ++ "<lambda>") params body scope [] ((X.mg "__name__").getD .none) c' ctv)).get? h'.objs.size = some (PySem.W.kla_obj "<lambda>" (X.env.qual ++ "<lambda>") params body scope [] ((X.mg "__name__").getD .none) c' ctv) := Heap.get?_push_size _ rfl
    have J2 := J.laid (t' := tk) (a := h'.objs.size) (o := LmO D.P h'.objs.size c' L) (fun b u e => Heap.get?_push_of_some _ e) (Nat.le_refl _) (lmO_laid (by rw [hq]; exact gF) ⟨b1, b2, b3, b4⟩)
    have kp : ∀ b o, H b = some o → upd H h'.objs.size (LmO D.P h'.objs.size c' L) b = some o := fun b o e => by
      rw [upd_ne (ne_of_none e nF)]
      exact e
    exact ⟨.ref h'.objs.size, _, J2, rfl, h h'.objs.size c' _ (LamX.ExtN.of kp) (LamX.Tabs.ext hT kp) nF upd_same (by rw [hq]; exact kp _ _ hco)⟩
end
/-! ### calls -/
structure LamOk (P : Pn) (Pg : Program) (w : World) (K : PySem.W.Frag) (mg : Str → Option Value) (base : Heap) (k : Nat) (Λ : LamI → Sp) : Prop where
  run : ∀ (A : Around) (outer : List Env) (s : Shared) (H : Hp) (f c : Addr) (Lm : LamI) (us : List Value) (vs : List V) (Q : VK) (E : XK), Room k A → Env0 Pg w K mg base A outer s H → H f = some (LmO P f c Lm) → H c = some (LamX.CodeO c Lm.q) →
    Vals vs us → Λ Lm vs H Q E → codeAny (model Pg w) A (.call (.ref f) ⟨us, []⟩) (CR (L2.CX Pg w) outer Pg w H s Q E) s
section
variable {X : Cx} {D : Dm} {k i : Nat} {x : Str} {E : L2.St → XK} {t : TA} {e : Expr} {es : List Expr} {p pos : Pos}
theorem lm_fn {pins : List (Addr × Obj)} {σ : L2.St} {H : Hp} {s : Shared} {P : Pn} {f c : Addr} {L : LamI} (I : Inv X pins σ H s) (e : H f = some (LmO P f c L)) : PySem.W.FnAt f s.heap := by
  obtain ⟨params, scope, body, pm, ctv, z, _⟩ := lmO_at I.hok e
  exact ⟨_, _, _, _, z⟩
theorem run_lm {pins : List (Addr × Obj)} {σ : L2.St} {H : Hp} {s : Shared} {Q : VK} {f c : Addr} {Lm : LamI} {us : List Value} {vs : List V} {E : XK} (F : LamOk D.P X.prog X.w X.K X.mg X.base k D.Λ) (hr : Room k X.A) (hx : PassesAt (L2.CX X.prog X.w) X σ E) (I : Inv X pins σ H s)
    (hf : H f = some (LmO D.P f c Lm)) (hc : H c = some (LamX.CodeO c Lm.q)) (r : Vals vs us) (q : D.Λ Lm vs H Q E) : wpAny (model X.prog X.w) X.A (call (.ref f) us) (EP X pins σ Q) X.xe s := by
  refine wpAny_call (codeAny_mono (F.run X.A X.stack s H f c Lm us vs Q E hr I.env0 hf hc r q) fun r s' hq => ?_)
  cases r with
  | error e => exact hx pins H s e s' I hq
  | ok fl =>
    cases fl with
    | ret u => exact I.after hq
    | next => exact False.elim hq
    | brk => exact False.elim hq
    | cont => exact False.elim hq
theorem pe_callv0 (F : LamOk D.P X.prog X.w X.K X.mg X.base k D.Λ) (hr : Room k X.A) (hx : ∀ σ, PassesAt (L2.CX X.prog X.w) X σ (E σ)) (hN : X.N[i]? = some x) (hv : Vis X.env.scope x) (hd : (x == ("__debug__" : Str)) = false) (hcd : (x == ("__classdict__" : Str)) = false) :
    PE X (.Call (.Name x p) [] [] pos) (tCallV D i E tNil) := by
  refine ⟨fun pins s σ H Q I h => ?_⟩
  obtain ⟨f, c, L, hs', hf, h1, h2, q⟩ := h
  refine wpAny_Call_Name_kw (thn ((pe_var (pos := p) hN hv hd hcd).run pins s σ H (fun v H1 => v = .ref f ∧ H1 = H) I ⟨.ref f, hs', rfl, rfl⟩) fun u s1 ⟨v, H1, I1, r1, q1⟩ => ?_)
  obtain ⟨ev, eH⟩ := q1
  subst ev
  rw [eH] at I1
  obtain rfl : u = Value.ref f := r1
  refine PySem.W.callWith_F0 (first := []) (lm_fn I1 hf) ?_
  show wpAny _ _ (call (.ref f) []) _ _ _
  exact run_lm F hr (hx σ) I1 h1 h2 .nil q
theorem pe_callv (F : LamOk D.P X.prog X.w X.K X.mg X.base k D.Λ) (hr : Room k X.A) (hx : ∀ σ, PassesAt (L2.CX X.prog X.w) X σ (E σ)) (hN : X.N[i]? = some x) (hv : Vis X.env.scope x) (hs : ∀ y ∈ e :: es, isStar y = false) (ha : PA X (e :: es) t) (hd : (x == ("__debug__" : Str)) = false) (hcd : (x == ("__classdict__" : Str)) = false) :
    PE X (.Call (.Name x p) (e :: es) [] pos) (tCallV D i E t) := by
  refine ⟨fun pins s σ H Q I h => ?_⟩
  obtain ⟨f, c, L, hs', hf, ht⟩ := h
  refine wpAny_Call_Name_kw (thn ((pe_var (pos := p) hN hv hd hcd).run pins s σ H (fun v H1 => v = .ref f ∧ H1 = H) I ⟨.ref f, hs', rfl, rfl⟩) fun u s1 ⟨v, H1, I1, r1, q1⟩ => ?_)
  obtain ⟨ev, eH⟩ := q1
  subst ev
  rw [eH] at I1
  obtain rfl : u = Value.ref f := r1
  refine PySem.W.callWith_F (first := []) (lm_fn I1 hf) (thn (ha.run pos pins s1 σ H _ I1 ht) fun us s2 ⟨vs, H2, I2, r, h1, h2, q⟩ => ⟨lm_fn I2 h1, ?_⟩) (star_cons (hs e List.mem_cons_self)) (star_any fun y hy => hs y (List.mem_cons_of_mem _ hy))
  show wpAny _ _ (call (.ref f) us) _ _ _
  exact run_lm F hr (hx σ) I2 h1 h2 r q
end
end CK
end

section
set_option Elab.async false
set_option linter.all false
set_option maxRecDepth 100000
set_option maxHeartbeats 4000000
namespace CK
open PySem PySem.Spec PyProof.Rows L2

/-! ### what is known of the program at hand -/
structure Gd (D : Dm) (P : Pn) (Pg : Program) (w : World) (mg : Str → Option Value) (base : Heap) (L : Nat) : Prop where
  fn : ∀ f k, P.defs.lookup f = some k → ∃ fd ps, FnOk Pg w D.K mg base (L2.CX Pg w) L (He.ga D.K f) fd ps (D.Γ f) ∧ mg f = some (.ref (He.ga D.K f)) ∧ PySem.W.keepIn D.K (.ref (He.ga D.K f)) = true ∧ Binds D.K fd ps [] ∧ ps.length = k
  bi : ∀ b : Bi, mg b.name = none
  isi : mg "isinstance" = none
  own : D.own = P.own
  cls : ∀ c ∈ P.own, mg c = some (.ref (He.ga D.K c))
  bcl : ∀ c ∈ P.bcls, c ∉ P.own → mg c = none
  pn : D.P = P
  ini : ∀ c ps, P.inits.lookup c = some ps → ∃ fI fd k, k + 1 ≤ L ∧ ExK D.K (He.ga D.K c) fI ∧ FnOk Pg w D.K mg base (L2.CX Pg w) k fI fd ("self" :: ps) (D.Γi c) ∧ mg c = some (.ref (He.ga D.K c)) ∧ ∀ n ks, kwFit ps n ks = true → KwB D.K fd ("self" :: ps) (n + 1) ks
  bare : ∀ c ∈ P.bare, PySem.W.excIn D.K (He.ga D.K c) [.type "ValueError", .type "Exception", .type "BaseException", .type "object"] "ValueError.__new__" = true ∧ mg c = some (.ref (He.ga D.K c)) ∧ PySem.W.keepIn D.K (.ref (He.ga D.K c)) = true
  lam : LamOk P Pg w D.K mg base L D.Λ
  ty : ∀ (X : Cx), X.prog = Pg → X.w = w → X.K = D.K → ∀ {pins : List (Addr × Obj)} {σ : L2.St} {H : Hp} {s : Shared} {x : V} {u t : Value}, Inv X pins σ H s → RelV x u → D.ty H x t → ∃ p : Heap → Prop, PySem.W.KitX X.K u t p ∧ p s.heap ∧ u ≠ .builtin "__main__.__loader__#opaque"
/-- .. and of where the code runs: sc the names as they are seen, cs the names whose cells are the block's own -/
structure Xc (D : Dm) (P : Pn) (Pg : Program) (w : World) (mg : Str → Option Value) (base : Heap) (L : Nat) (N : Nm) (cs sc : Scope) (W : WX) (X : Cx) : Prop where
  lq : ∀ q, N.lq = some q → ∃ c T0, LamX.TabB base mg c T0 ∧ X.env.code = .ref c ∧ (T0, q) ∈ D.T ∧ (∀ p ∈ D.T, p.1 = T0 → p.2 = q) ∧ X.env.qual ++ "<lambda>" = q
  prog : X.prog = Pg
  w : X.w = w
  K : X.K = D.K
  mg : X.mg = mg
  base : X.base = base
  N : X.N = N.ns
  sc : X.env.scope = sc
  calm : X.calm = true
  room : Room L X.A
  tk : Takes X W
  st : ∀ x, cs.names.lookup x = some .cell → X.fn x = true
structure SE (X : Cx) (ex : Expr) (r : Rd) : Prop where
  e : PE X ex r.e
  t : PT X ex r.t
  w : ∀ tg, PI X tg ex r.w
  o : PO X (some ex) r.o

/-! ### small rules -/
section
variable {X : Cx}
theorem PE.imp {e : Expr} {t t' : TE} (h : PE X e t) (i : ∀ σ H Q, t' σ H Q → t σ H Q) : PE X e t' := ⟨fun pins s σ H Q I q => h.run pins s σ H Q I (i σ H Q q)⟩
theorem PT.imp {e : Expr} {t t' : TT} (h : PT X e t) (i : ∀ σ H Q, t' σ H Q → t σ H Q) : PT X e t' := ⟨fun pins s σ H Q I q => h.run pins s σ H Q I (i σ H Q q)⟩
theorem PT.dead {e : Expr} : PT X e (fun _ _ _ => False) := ⟨fun _ _ _ _ _ _ q => q.elim⟩
theorem PE.dead {e : Expr} : PE X e (fun _ _ _ => False) := ⟨fun _ _ _ _ _ _ q => q.elim⟩
theorem PE.or {e : Expr} {t t' : TE} (h : PE X e t) (h' : PE X e t') : PE X e (fun σ H Q => t σ H Q ∨ t' σ H Q) := ⟨fun pins s σ H Q I q => q.elim (h.run pins s σ H Q I) (h'.run pins s σ H Q I)⟩
theorem PI.or {tg e : Expr} {t t' : TI} (h : PI X tg e t) (h' : PI X tg e t') : PI X tg e (fun σ H R => t σ H R ∨ t' σ H R) := ⟨fun pins s σ H R I q => q.elim (h.run pins s σ H R I) (h'.run pins s σ H R I)⟩
theorem PG.or {e : Expr} {t t' : TG} (h : PG X e t) (h' : PG X e t') : PG X e (fun v σ H Q => t v σ H Q ∨ t' v σ H Q) := ⟨fun pins s σ H v u Q I r q => q.elim (h.run pins s σ H v u Q I r) (h'.run pins s σ H v u Q I r)⟩
theorem OpR.dead {f : Value → Value → Sem Value} : OpR X f (fun _ _ _ _ => False) := fun _ _ _ _ _ _ _ _ _ _ _ _ q => q.elim
theorem CallR.dead {f : Value} : CallR X f (fun _ _ _ => False) := fun _ _ _ _ _ _ _ _ _ q => q.elim
theorem opBin (op : Operator) : OpR X (binaryOp op) (rBin X.K op) := by
  cases op with
  | Add => exact OpR.or op_add (OpR.or op_add_str (OpR.or op_cat op_catA))
  | Sub => exact op_sub
  | Mult => exact OpR.or op_mul op_rep
  | FloorDiv => exact op_fdivN
  | Mod => exact op_modN
  | Pow => exact op_pow
  | _ => exact OpR.dead
theorem opCmp (hu : X.A.units + 64 < cLine) (op : CmpOp) : OpR X (compareOp op) (rCmp X.K op) := by
  cases op with
  | Eq => exact OpR.or op_eq (op_eqD hu)
  | NotEq => exact OpR.or op_ne (op_neD hu)
  | Lt => exact OpR.or op_lt op_lt_str
  | LtE => exact op_le
  | Gt => exact op_gt
  | GtE => exact op_ge
  | Is => exact op_isN
  | IsNot => exact op_notN
  | In => exact OpR.or op_in_seq op_in_str
  | NotIn => exact OpR.or op_notIn_seq op_notIn_str
theorem isSet_mark {op : CmpOp} {b : Expr} (h : isSet b = false) : behindInMarks op b = false := by
  cases b <;> first | rfl | cases h
theorem pi_any {tg e : Expr} {te : TE} (he : PE X e te) : PI X tg e (wAny X.K te) := by
  refine ⟨fun pins s σ H R I h => ?_⟩
  refine thn (he.run pins s σ H _ I h) fun v s1 ⟨x, H1, I1, r1, q1⟩ => ?_
  have ev : ∀ {A : Around} {env : Env}, True := fun {_ _} => trivial
  rcases q1 with ⟨a, e, ⟨xs, hq⟩, q⟩ | ⟨a, e, ⟨xs, hq⟩, q⟩ | ⟨z, e, q⟩
  · subst e
    cases r1
    obtain ⟨its, rv, p, hz⟩ := I1.list hq
    refine wpAny_pyIter_list p.isList ?_
    refine ⟨s1.heap.objs.size, [s1.heap.objs.size], _, _, H1, rfl, I1.kept (t' := s1.toks) fun b o e => Heap.get?_push_of_some _ e, turn_list a _, ⟨_, Heap.get?_push_size _ rfl, rfl, rfl⟩, fun b hb => ?_, q⟩
    have e : b = s1.heap.objs.size := by simpa using hb
    subst e
    exact I1.fpOk (Nat.le_refl _) (I1.hok.fresh (Nat.le_refl _))
  · subst e
    cases r1
    obtain ⟨its, rv, p, hz⟩ := I1.tuple hq
    refine wpAny_pyIter_tuple (show s1.heap.IsTuple a its.toArray from p) ?_
    refine ⟨s1.heap.objs.size, [s1.heap.objs.size], _, _, H1, rfl, I1.kept (t' := s1.toks) fun b o e => Heap.get?_push_of_some _ e, turn_tuple a _, ⟨_, Heap.get?_push_size _ rfl, rfl, rfl⟩, fun b hb => ?_, q⟩
    have e : b = s1.heap.objs.size := by simpa using hb
    subst e
    exact I1.fpOk (Nat.le_refl _) (I1.hok.fresh (Nat.le_refl _))
  · subst e
    obtain ⟨t, rfl⟩ := r1
    cases ha : z.cps.all (· < 128)
    · exact wpAny_pyIter_wide ha (pi_one (tk := s1.toks) I1 _ (turn_str _ z t "str_iterator" (.inr rfl)) ⟨_, Heap.get?_push_size _ rfl, rfl, rfl⟩ q)
    · exact wpAny_pyIter_ascii ha (pi_one (tk := s1.toks) I1 _ (turn_str _ z t "str_ascii_iterator" (.inl rfl)) ⟨_, Heap.get?_push_size _ rfl, rfl, rfl⟩ q)
/-- an expression by its rule -/
theorem SE.mk0 {e : Expr} {te : TE} {K : PySem.W.Frag} (hK : X.K = K) (he : PE X e te) (h : ∀ whole, isTrue e X.env whole = (do let v ← whole; standAt e.pos; holding [v] (truthy v))) : SE X e (mkE K te) := by
  subst hK
  exact ⟨he, pt_truth he h, fun tg => pi_any he, po_some he⟩
theorem SE.g {e : Expr} {r : Rd} {g : TG} (h : SE X e r) : SE X e { r with g := g } := ⟨h.e, h.t, h.w, h.o⟩
theorem SE.tt {e : Expr} {te : TE} {t : TT} {K : PySem.W.Frag} (hK : X.K = K) (he : PE X e te) (ht : PT X e t) : SE X e { mkE K te with t := t } := by
  subst hK
  exact ⟨he, ht, fun tg => pi_any he, po_some he⟩
end
end CK
end

section
set_option Elab.async false
set_option linter.all false
set_option maxRecDepth 100000
set_option maxHeartbeats 4000000
namespace CK
open PySem PySem.Spec PyProof.Rows L2
theorem bsome {α β : Type} {x : Option α} {f : α → Option β} {y : β} (h : x.bind f = some y) : ∃ a, x = some a ∧ f a = some y := Option.bind_eq_some_iff.mp h
theorem msome {α β : Type} {x : Option α} {f : α → β} {y : β} (h : x.map f = some y) : ∃ a, x = some a ∧ f a = y := Option.map_eq_some_iff.mp h
theorem okName_d {x : Str} (h : okName x = true) : (x == ("__debug__" : Str)) = false ∧ (x == ("__classdict__" : Str)) = false := by
  unfold okName at h
  simp only [Bool.and_eq_true, Bool.not_eq_true', decide_eq_false_iff_not] at h
  exact ⟨by simpa using h.1, by simpa using h.2⟩
theorem isOwn_vis {sc : Scope} {x : Str} (h : isOwn (sc.names.lookup x) = true) : Vis sc x := by
  cases e : sc.names.lookup x with
  | none => rw [e] at h; cases h
  | some k => rw [e] at h; cases k <;> first | exact .inl e | exact .inr (.inl e) | exact .inr (.inr e) | cases h
section
variable {X : Cx} {CX : CXT} {k : Nat} {f : Addr} {fd : FuncData} {ps : List Str} {sp : Sp} {E : L2.St → XK} {x : Str} {p pos : Pos}
theorem pe_callS0 (F : FnOk X.prog X.w X.K X.mg X.base CX k f fd ps sp) (hr : Room k X.A) (hg : Gl X x) (hm : X.mg x = some (.ref f)) (hk : PySem.W.keepIn X.K (.ref f) = true) (hb : Binds X.K fd ps []) (hx : ∀ σ, PassesAt CX X σ (E σ))
    (hdb : (x == ("__debug__" : Str)) = false := by decide) : PE X (.Call (.Name x p) [] [] pos) (tCallS sp E tNil) := by
  refine ⟨fun pins s σ H Q I h => ?_⟩
  refine wpAny_Call_Name_kw (ld_glob I hg hm ?_ hdb)
  exact PySem.W.callWith_K0 I.kIn hk (run_fnS (us := []) F hr hb (hx σ) I .nil h)
end
/-! ### built-ins -/
def Bi.val (b : Bi) : Value := if b.isTy then .type (match b with | .list => "list" | .tuple => "tuple" | .int => "int" | .bool => "bool" | .str => "str" | .dict => "dict" | .range => "range" | .enumerate => "enumerate" | .zip => "zip" | _ => "reversed")
  else .builtin (match b with | .len => "len" | .all => "all" | .any => "any" | .sum => "sum" | .sorted => "sorted" | .max => "max" | _ => "min")
theorem bi_boot (b : Bi) : bootBuiltins b.name = some b.val := by
  cases b <;> decide +kernel
theorem bi_ok (b : Bi) : (b.name == ("__debug__" : Str)) = false ∧ b.name ≠ "__name__" := by
  cases b <;> decide +kernel
theorem biOf_name {x : Str} {b : Bi} (h : biOf x = some b) : b.name = x := by
  unfold biOf at h
  have q := List.find?_some (p := fun b : Bi => decide (b.name = x)) h
  exact of_decide_eq_true q
theorem callBi {X : Cx} (hc : X.calm = true) (b : Bi) : CallR X b.val (rBi X.K b) := by
  cases b with
  | len => exact call_len
  | list => exact call_list_of
  | tuple => exact call_tuple_of
  | int => exact call_int1
  | bool => exact call_bool1
  | str => exact call_str_int
  | all => exact cr_all hc
  | any => exact cr_any hc
  | sum => exact cr_sum hc
  | _ => exact CallR.dead
theorem pe_bi {X : Cx} {b : Bi} {p pos : Pos} {e : Expr} {es : List Expr} {t : TA} (hc : X.calm = true) (hg : Gl X b.name) (hm : X.mg b.name = none) (ha : PA X (e :: es) t)
    (he : starEach (e :: es) X.env = (false, eval e X.env) :: starEach es X.env) (hpl : (backTo pos (starEach es X.env)).any (·.1) = false) : PE X (.Call (.Name b.name p) (e :: es) [] pos) (tCB (rBi X.K b) t) := by
  have hv := bi_boot b
  have hr := callBi hc b
  obtain ⟨h1, h2⟩ := bi_ok b
  cases hb : b.isTy with
  | true =>
    unfold Bi.val at hv hr
    rw [if_pos hb] at hv hr
    exact pe_callTy hr hg hm hv ha h2 h1 he hpl
  | false =>
    unfold Bi.val at hv hr
    rw [if_neg (by rw [hb]; decide)] at hv hr
    exact pe_callB hr hg hm hv ha h2 h1 he hpl
/-! ### isinstance -/
theorem call_isZ {X : Cx} {D : Dm} {cs : List Str} (hK : X.K = D.K)
    (ty : ∀ {pins : List (Addr × Obj)} {σ : L2.St} {H : Hp} {s : Shared} {x : V} {u t : Value}, Inv X pins σ H s → RelV x u → D.ty H x t → ∃ p : Heap → Prop, PySem.W.KitX X.K u t p ∧ p s.heap ∧ u ≠ .builtin "__main__.__loader__#opaque")
    {c : Str} {v : V} {cv : Value} (hc : clsOf D.K D.own c = some (v, cv)) : CallR X (.builtin "isinstance") (fun xs H Q => ∃ x, xs = [x, v] ∧ rIs D [c] x H Q) := by
  intro pins s σ H xs us Q I r h
  obtain ⟨x, rfl, t, ws, b, e1, ht, e2, q⟩ := h
  obtain ⟨u1, u2, rfl, r1, r2⟩ := vals2 r
  obtain ⟨P, Z, p, hx⟩ := ty I r1 ht
  rw [List.map_cons, List.map_nil, hc] at e1
  have ew : ws = [cv] := by
    cases ws with
    | nil => cases e1
    | cons a l =>
      cases l with
      | nil => simp at e1; rw [e1]
      | cons a' l' => simp at e1
  subst ew
  have e3 : PySem.W.kitOne X.K t cv = some b := by
    rw [hK]
    unfold PySem.W.kitAny at e2
    cases q : PySem.W.kitOne D.K t cv with
    | none => rw [q] at e2; cases e2
    | some k =>
      rw [q] at e2
      cases k with
      | true => exact e2
      | false => exact e2
  have e4 : u2 = cv := by
    unfold clsOf at hc
    split at hc
    · cases hc; exact r2
    · split at hc
      · cases hc; exact r2
      · cases hc
  subst e4
  exact PySem.W.kia_one Z I.kIn p e3 hx fun tk => ⟨.bl b, H, I.tok tk, rfl, q⟩
theorem cls_vals {D : Dm} : ∀ {cs : List Str} {ws us : List Value}, cs.map (fun c => (clsOf D.K D.own c).map (·.2)) = ws.map some → Vals (cs.filterMap fun c => (clsOf D.K D.own c).map (·.1)) us → us = ws
  | [], [], us, _, r => by cases r; rfl
  | [], _ :: _, _, h, _ => by cases h
  | _ :: _, [], _, h, _ => by cases h
  | c :: cs, w :: ws, us, h, r => by
    rw [List.map_cons, List.map_cons] at h
    injection h with h1 h2
    cases hc : clsOf D.K D.own c with
    | none => rw [hc] at h1; cases h1
    | some q =>
      obtain ⟨v, cv⟩ := q
      rw [hc] at h1
      have ew : cv = w := Option.some.inj h1
      have r' : Vals (v :: cs.filterMap fun c => (clsOf D.K D.own c).map (·.1)) us := by
        rw [List.filterMap_cons, hc] at r
        exact r
      cases r' with
      | cons r1 r2 =>
        rename_i u us'
        rw [cls_vals h2 r2]
        have eu : u = cv := by
          unfold clsOf at hc
          split at hc
          · cases hc; exact r1
          · split at hc
            · cases hc; exact r1
            · cases hc
        rw [eu, ew]
theorem call_isZT {X : Cx} {D : Dm} {cs : List Str} (hK : X.K = D.K)
    (ty : ∀ {pins : List (Addr × Obj)} {σ : L2.St} {H : Hp} {s : Shared} {x : V} {u t : Value}, Inv X pins σ H s → RelV x u → D.ty H x t → ∃ p : Heap → Prop, PySem.W.KitX X.K u t p ∧ p s.heap ∧ u ≠ .builtin "__main__.__loader__#opaque") :
    CallR X (.builtin "isinstance") (fun xs H Q => ∃ x tp, xs = [x, .ref tp] ∧ H tp = some (.tup (cs.filterMap fun c => (clsOf D.K D.own c).map (·.1))) ∧ rIs D cs x H Q) := by
  intro pins s σ H xs us Q I r h
  obtain ⟨x, tp, rfl, hT, t, ws, b, e1, ht, e2, q⟩ := h
  obtain ⟨u1, u2, rfl, r1, r2⟩ := vals2 r
  obtain rfl : u2 = Value.ref tp := r2
  obtain ⟨P, Z, p, hx⟩ := ty I r1 ht
  obtain ⟨_, its, rv, o, h1, h2, n, h3⟩ := (show ObjOk X.prog X.w H s.heap tp (.tup _) from I.hok tp _ hT)
  have e3 := cls_vals e1 rv
  subst e3
  obtain ⟨oc, od, dt, sl⟩ := o
  simp only at h2 h3
  subst h2 h3
  rw [← hK] at e2
  exact PySem.W.kia_tup Z I.kIn p h1 e2 hx fun tk => ⟨.bl b, H, I.tok tk, rfl, q⟩
/-! ### methods -/
theorem mtOf_name {x : Str} {m : Mt} (h : mtOf x = some m) : m.name = x := by
  unfold mtOf at h
  have q := List.find?_some (p := fun m : Mt => decide (m.name = x)) h
  exact of_decide_eq_true q
theorem few_of {es : List Expr} {env : Env} {pos : Pos} (h : ∀ e ∈ es, isStar e = false) (hl : es.length < 20) : ((backTo pos (starEach es env)).all (fun x => !x.1) && (backToKw pos (keywordEach [] env)).all (fun x => x.1.isSome)
      && decide (es.length + ([] : List Keyword).length + (if ([] : List Keyword).isEmpty then 0 else 1) < 30)) = true := by
  rw [star_all h]
  have e : decide (es.length + ([] : List Keyword).length + (if ([] : List Keyword).isEmpty then 0 else 1) < 30) = true := by
    apply decide_eq_true
    show es.length + 0 + 0 < 30
    omega
  rw [e] <;> rfl
theorem pe_mE {X : Cx} {m : Mt} {o : Expr} {es : List Expr} {to : TE} {ta : TA} {ap cp : Pos} (ho : PE X o to) (ha : PA X es ta) (hb : isCall0 o = false) (hl : (ap.endLine == cp.line) = true) (hs : ∀ e ∈ es, isStar e = false) (hn : es.length < 20) :
    PE X (.Call (.Attribute o m.name ap) es [] cp) (mE X.K m (nE es) to ta) := by
  have bo : attributeBase o m.name X.env (eval o X.env) = eval o X.env := base_of hb
  cases es with
  | nil =>
    cases m with
    | pop => exact pe_bm0 PySem.F.plainAttrs_list PySem.F.slot_list_pop PySem.F.type_list_pop mt_pop ho bo hl
    | _ => exact PE.dead
  | cons e es =>
    have h1 := star_cons (es := es) (env := X.env) (hs e List.mem_cons_self)
    have h2 := star_any (env := X.env) (pos := cp) fun x hx => hs x (List.mem_cons_of_mem _ hx)
    have h3 := few_of (env := X.env) (pos := cp) hs hn
    cases m with
    | append => exact pe_bm PySem.F.plainAttrs_list PySem.F.slot_list_append PySem.F.type_list_append mt_append ho ha bo h3 hl h1 h2
    | extend => exact pe_bm PySem.F.plainAttrs_list PySem.F.slot_list_extend PySem.F.type_list_extend mt_extend ho ha bo h3 hl h1 h2
    | pop => exact pe_bm PySem.F.plainAttrs_list PySem.F.slot_list_pop PySem.F.type_list_pop mt_popAt ho ha bo h3 hl h1 h2
    | items => exact PE.dead
end CK
end

section
set_option Elab.async false
set_option linter.all false
set_option maxRecDepth 100000
set_option maxHeartbeats 4000000
namespace CK
open PySem PySem.Spec PyProof.Rows L2
section
variable {D : Dm} {P : Pn} {Pg : Program} {w : World} {mg : Str → Option Value} {base : Heap} {L : Nat}
abbrev W0 : WX := fun _ _ _ _ => False
structure Sim (D : Dm) (P : Pn) (Pg : Program) (w : World) (mg : Str → Option Value) (base : Heap) (L : Nat) (n : Nat) : Prop where
  E : ∀ {N cs sc W X e r}, Xc D P Pg w mg base L N cs sc W X → trE P N n sc e = some r → SE X e (rd D W r)
  Ca : ∀ {N cs sc W X f args r}, Xc D P Pg w mg base L N cs sc W X → Gz sc f = true → okName f = true → trCall P N n sc f args = some r → ∀ p pos, SE X (.Call (.Name f p) args [] pos) (rd D W r)
  B : ∀ {N cs sc W X op vs r}, Xc D P Pg w mg base L N cs sc W X → trB P N n sc op vs = some r → ∀ pos, PE X (.BoolOp op vs pos) (rd D W r).e ∧ PW X (.BoolOp op vs pos) (rd D W r).t
  A : ∀ {N cs sc W X es r}, Xc D P Pg w mg base L N cs sc W X → trEs P N n sc es = some r → (∀ e ∈ es, isStar e = false) ∧ PA X es (rd D W r).a ∧ r.len = es.length ∧ r.any = nE es
  O : ∀ {N cs sc W X eo r}, Xc D P Pg w mg base L N cs sc W X → trO P N n sc eo = some r → PO X eo (rd D W r).o
  I : ∀ {N cs sc W X tg it r}, Xc D P Pg w mg base L N cs sc W X → trI P N n sc tg it = some r → PI X tg it (rd D W r).w
  C : ∀ {N cs sc W X es r}, Xc D P Pg w mg base L N cs sc W X → trC P N n sc es = some r → PTs X es (rd D W r).t
  G : ∀ {N cs sc W X tg r}, Xc D P Pg w mg base L N cs sc W X → N.ns.Nodup → trG P N n cs sc tg = some r → PG X tg (rd D W r).g
  Gs : ∀ {N cs sc W X es r}, Xc D P Pg w mg base L N cs sc W X → N.ns.Nodup → trGs P N n cs sc es = some r → (∀ e ∈ es, isStar e = false) ∧ PGs X es (rd D W r).gs ∧ r.len = es.length

  Ds : ∀ {N cs sc W X ks vs r}, Xc D P Pg w mg base L N cs sc W X → trDs P N n sc ks vs = some r → ∀ pos, PPs X pos ks vs (rd D W r).d ∧ (ks = [] → r = .nil) ∧ (ks ≠ [] → ∃ a b c, r = .dcons a b c)
  K : ∀ {N cs sc W X kws r}, Xc D P Pg w mg base L N cs sc W X → trEs P N n sc (kws.map (·.value)) = some r → PK X kws (rd D W r).a

theorem sim0 : Sim D P Pg w mg base L 0 where
  E := fun _ h => by simp [trE] at h
  Ca := fun _ _ _ h => by simp [trCall] at h
  B := fun _ h => by simp [trB] at h
  A := fun _ h => by simp [trEs] at h
  O := fun _ h => by simp [trO] at h
  I := fun _ h => by simp [trI] at h
  C := fun _ h => by simp [trC] at h
  G := fun _ _ h => by simp [trG] at h
  Gs := fun _ _ h => by simp [trGs] at h
  Ds := fun _ h => by simp [trDs] at h
  K := fun _ h => by simp [trEs] at h
section
variable {N : Nm} {cs sc : Scope} {W : WX} {X : Cx} {n : Nat}
theorem Xc.gl (c : Xc D P Pg w mg base L N cs sc W X) {x : Str} (h : Gz sc x = true) : Gl X x := by
  show X.env.scope.names.lookup x = _
  rw [c.sc]
  exact of_decide_eq_true h
theorem Xc.un (c : Xc D P Pg w mg base L N cs sc W X) : X.A.units + 64 < cLine := c.room.units
/-- a comprehension's block -/
theorem Xc.blk (c : Xc D P Pg w mg base L N cs sc W X) (scope : Scope) (s : Shared) (H : Hp) (C : Addr) (cl : List (Str × Addr)) (fp : List Addr) :
    Xc D P Pg w mg base L N scope (relS scope sc) W0 (X.blk s H scope (compEnvC scope cl C X.env) fp) :=
  ⟨c.lq, c.prog, c.w, c.K, c.mg, c.base, c.N, by rw [← c.sc]; rfl, c.calm, c.room, takes0, fun x h => by
    show (scope.names.lookup x == some NameKind.cell) = true
    rw [h] <;> rfl⟩
theorem stepK (S : Sim D P Pg w mg base L n) (c : Xc D P Pg w mg base L N cs sc W X) {kws : List Keyword} {r : Ie} (h : trEs P N (n + 1) sc (kws.map (·.value)) = some r) : PK X kws (rd D W r).a := by
  cases kws with
  | nil =>
    simp only [List.map_nil, trEs] at h
    cases h
    exact pk_nil
  | cons k kws =>
    obtain ⟨nm, e, kp⟩ := k
    simp only [List.map_cons, trEs] at h
    split at h
    · cases h
    · obtain ⟨e', h1, h⟩ := bsome h
      obtain ⟨es', h2, h⟩ := msome h
      subst h
      exact pk_cons (S.E c h1).e (S.K c h2)
theorem stepDs (S : Sim D P Pg w mg base L n) (c : Xc D P Pg w mg base L N cs sc W X) {ks : List (Option Expr)} {vs : List Expr} {r : Ie} (h : trDs P N (n + 1) sc ks vs = some r) (pos : Pos) : PPs X pos ks vs (rd D W r).d ∧ (ks = [] → r = .nil) ∧ (ks ≠ [] → ∃ a b c, r = .dcons a b c) := by
  match ks, vs, h with
  | [], [], h =>
    simp only [trDs] at h
    cases h
    exact ⟨pps_nil, fun _ => rfl, fun z => absurd rfl z⟩
  | some k :: ks, v :: vs, h =>
    simp only [trDs] at h
    obtain ⟨k', h1, h⟩ := bsome h
    obtain ⟨v', h2, h⟩ := bsome h
    obtain ⟨r', h3, h⟩ := msome h
    subst h
    exact ⟨pps_cons (S.E c h1).e (S.E c h2).e (S.Ds c h3 pos).1, fun z => (nomatch z), fun _ => ⟨_, _, _, rfl⟩⟩
  | [], _ :: _, h => simp [trDs] at h
  | none :: _, _, h => simp [trDs] at h
  | some _ :: _, [], h => simp [trDs] at h
theorem stepA (S : Sim D P Pg w mg base L n) (c : Xc D P Pg w mg base L N cs sc W X) {es : List Expr} {r : Ie} (h : trEs P N (n + 1) sc es = some r) : (∀ e ∈ es, isStar e = false) ∧ PA X es (rd D W r).a ∧ r.len = es.length ∧ r.any = nE es := by
  cases es with
  | nil =>
    simp only [trEs] at h
    cases h
    exact ⟨fun e he => (nomatch he), pa_nil, rfl, rfl⟩
  | cons e es =>
    simp only [trEs] at h
    split at h
    · cases h
    · rename_i hst
      have hst : isStar e = false := by simpa using hst
      obtain ⟨e', h1, h⟩ := bsome h
      obtain ⟨es', h2, h⟩ := msome h
      subst h
      obtain ⟨s1, s2, s3, _⟩ := S.A c h2
      refine ⟨fun x hx => ?_, pa_cons (S.E c h1).e s2 (star_cons hst), ?_, rfl⟩
      · rcases List.mem_cons.mp hx with rfl | hx
        · exact hst
        · exact s1 x hx
      · show es'.len + 1 = _
        rw [s3, List.length_cons]
theorem stepO (S : Sim D P Pg w mg base L n) (c : Xc D P Pg w mg base L N cs sc W X) {eo : Option Expr} {r : Ie} (h : trO P N (n + 1) sc eo = some r) : PO X eo (rd D W r).o := by
  cases eo with
  | none =>
    simp only [trO] at h
    cases h
    exact po_none
  | some e =>
    simp only [trO] at h
    exact (S.E c h).o
theorem stepC (S : Sim D P Pg w mg base L n) (c : Xc D P Pg w mg base L N cs sc W X) {es : List Expr} {r : Ie} (h : trC P N (n + 1) sc es = some r) : PTs X es (rd D W r).t := by
  match es, h with
  | [], h =>
    simp only [trC] at h
    cases h
    exact pts_nil
  | [e], h =>
    simp only [trC] at h
    exact pts_one (S.E c h).t
  | _ :: _ :: _, h => simp [trC] at h
theorem stepB (S : Sim D P Pg w mg base L n) (c : Xc D P Pg w mg base L N cs sc W X) {op : BoolOp} {vs : List Expr} {r : Ie} (h : trB P N (n + 1) sc op vs = some r) (pos : Pos) : PE X (.BoolOp op vs pos) (rd D W r).e ∧ PW X (.BoolOp op vs pos) (rd D W r).t := by
  match op, vs, h with
  | _, [], h => simp [trB] at h
  | .And, [a], h =>
    simp only [trB] at h
    have q := S.E c h
    exact ⟨pe_one q.e, pw_and1 q.t⟩
  | .Or, [a], h =>
    simp only [trB] at h
    have q := S.E c h
    exact ⟨pe_one q.e, pw_or1 q.t⟩
  | .And, a :: b :: rest, h =>
    simp only [trB] at h
    obtain ⟨a', h1, h⟩ := bsome h
    obtain ⟨b', h2, h⟩ := msome h
    subst h
    have q1 := S.E c h1
    have q2 := S.B c h2 pos
    have hK := c.K
    refine ⟨?_, pw_and q1.t q2.2⟩
    have z := pe_andT (pos := pos) q1.e q2.1
    rw [hK] at z
    exact z
  | .Or, a :: b :: rest, h =>
    simp only [trB] at h
    obtain ⟨a', h1, h⟩ := bsome h
    obtain ⟨b', h2, h⟩ := msome h
    subst h
    have q1 := S.E c h1
    have q2 := S.B c h2 pos
    have hK := c.K
    refine ⟨?_, pw_or q1.t q2.2⟩
    have z := pe_orT (pos := pos) q1.e q2.1
    rw [hK] at z
    exact z
theorem stepG (S : Sim D P Pg w mg base L n) (c : Xc D P Pg w mg base L N cs sc W X) (nd : N.ns.Nodup) {tg : Expr} {r : Ie} (h : trG P N (n + 1) cs sc tg = some r) : PG X tg (rd D W r).g := by
  match tg, h with
  | .Name x pos, h =>
    simp only [trG] at h
    split at h
    · rename_i hc
      cases h
      simp only [Bool.and_eq_true, Bool.or_eq_true, decide_eq_true_eq] at hc
      obtain ⟨⟨h1, h2⟩, h3⟩ := hc
      have hl : Loc X.env.scope x := by
        rw [c.sc]
        exact h1.elim .inl fun z => .inr z.1
      refine pg_name (i := N.ns.idxOf x) (by rw [c.N]; exact nd) (by rw [c.N]; exact h3) hl ?_
      rcases h1 with z | z
      · exact .inr (by rw [c.sc]; exact z)
      · exact .inl (c.st x z.2)
    · cases h
  | .Tuple es k pos, h =>
    simp only [trG] at h
    obtain ⟨as, h1, h⟩ := msome h
    subst h
    obtain ⟨s1, s2, s3⟩ := S.Gs c nd h1
    have hK := c.K
    show PG X _ (fun v σ H Q => gTup D.K as.len (rd D W as).gs v σ H Q ∨ gUnl D.K as.len (rd D W as).gs v σ H Q)
    rw [← hK, s3]
    exact PG.or (pg_tup c.calm s2 (asg_len s1) (asg_none s1)) (pg_unl c.calm s2 (asg_len s1) (asg_none s1))
  | .Subscript o i pos, h =>
    simp only [trG] at h
    split at h
    · cases h
    · rename_i hsl
      obtain ⟨o', h1, h⟩ := bsome h
      obtain ⟨i', h2, h⟩ := msome h
      subst h
      refine pg_sub (S.E c h1).e (S.E c h2).e set_list ?_
      intro v
      cases i <;> first | rfl | exact absurd rfl hsl
  | .BoolOp .., h | .NamedExpr .., h | .BinOp .., h | .UnaryOp .., h | .Lambda .., h | .IfExp .., h | .Dict .., h | .Set .., h | .ListComp .., h | .SetComp .., h | .DictComp .., h | .GeneratorExp .., h | .Await .., h | .Yield .., h | .YieldFrom .., h | .Compare .., h | .Call .., h | .FormattedValue .., h | .JoinedStr .., h | .Constant .., h | .Attribute .., h | .Starred .., h | .List .., h | .Slice .., h => simp [trG] at h
theorem stepGs (S : Sim D P Pg w mg base L n) (c : Xc D P Pg w mg base L N cs sc W X) (nd : N.ns.Nodup) {es : List Expr} {r : Ie} (h : trGs P N (n + 1) cs sc es = some r) : (∀ e ∈ es, isStar e = false) ∧ PGs X es (rd D W r).gs ∧ r.len = es.length := by
  cases es with
  | nil =>
    simp only [trGs] at h
    cases h
    exact ⟨fun e he => (nomatch he), pgs_nil, rfl⟩
  | cons e es =>
    simp only [trGs] at h
    split at h
    · cases h
    · rename_i hst
      have hst : isStar e = false := by simpa using hst
      obtain ⟨e', h1, h⟩ := bsome h
      obtain ⟨es', h2, h⟩ := msome h
      subst h
      obtain ⟨s1, s2, s3⟩ := S.Gs c nd h2
      refine ⟨fun x hx => ?_, pgs_cons (S.G c nd h1) s2 (by rw [asg_cons hst] <;> rfl), ?_⟩
      · rcases List.mem_cons.mp hx with rfl | hx
        · exact hst
        · exact s1 x hx
      · show es'.len + 1 = _
        rw [s3, List.length_cons]
end
end
end CK
end

section
set_option Elab.async false
set_option linter.all false
set_option maxRecDepth 100000
set_option maxHeartbeats 8000000
namespace CK
open PySem PySem.Spec PyProof.Rows L2
section
variable {D : Dm} {P : Pn} {Pg : Program} {w : World} {mg : Str → Option Value} {base : Heap} {L : Nat}
variable {N : Nm} {cs sc : Scope} {W : WX} {X : Cx} {n : Nat}
theorem call_plain {X : Cx} {f : Expr} {args : List Expr} {kws : List Keyword} {pos : Pos} : ∀ whole, isTrue (.Call f args kws pos) X.env whole = (do let v ← whole; standAt (Expr.Call f args kws pos).pos; holding [v] (truthy v)) := fun _ => rfl
theorem trEs_nil {as : Ie} {n : Nat} (h : trEs P N n sc [] = some as) : as = .nil := by
  cases n with
  | zero => simp [trEs] at h
  | succ m =>
    simp only [trEs] at h
    cases h
    rfl
theorem itemsOf_eq {args : List Expr} {o : Expr} {ap cp : Pos} (h : itemsOf args = some (o, ap, cp)) : args = [.Call (.Attribute o "items" ap) [] [] cp] := by
  unfold itemsOf at h
  split at h
  · rename_i o' m ap' cp'
    split at h
    · rename_i hm
      cases h
      rw [of_decide_eq_true hm]
    · cases h
  · cases h
/-- an own class made -/
theorem se_mk (G : Gd D P Pg w mg base L) (c : Xc D P Pg w mg base L N cs sc W X) {f : Str} {ps : List Str} {args : List Expr} {kws : List Keyword} {as zs : Ie} (hg : Gz sc f = true) (ho : okName f = true) (hi : P.inits.lookup f = some ps) (s1 : ∀ e ∈ args, isStar e = false) (s2 : PA X args (rd D W as).a) (s3 : as.len = args.length)
    (r2 : kwFit ps args.length (kwNames kws) = true) (hkw : PK X kws (rd D W zs).a) (hn : kwNamed kws = true) (p pos : Pos) (s0 : args = [] → as = .nil) : SE X (.Call (.Name f p) args kws pos) (rd D W (.mk f as (kwNames kws) zs)) := by
  obtain ⟨fI, fd, k, hk, T, F, hm, hb⟩ := G.ini f ps hi
  have hdb := (okName_d ho).1
  have F' : FnOk X.prog X.w X.K X.mg X.base (L2.CX Pg w) k fI fd ("self" :: ps) (D.Γi f) := by
    rw [c.prog, c.w, c.K, c.mg, c.base]; exact F
  have hm' : X.mg f = some (.ref (He.ga D.K f)) := by rw [c.mg]; exact hm
  have T' : ExK X.K (He.ga D.K f) fI := by rw [c.K]; exact T
  have hb' : KwB X.K fd ("self" :: ps) (args.length + 1) (kwNames kws) := by rw [c.K]; exact hb _ _ r2
  have hx : ∀ σ, PassesAt (L2.CX Pg w) X σ (WE W σ) := by
    intro σ
    have q := passAt c.tk σ
    rw [c.prog, c.w] at q
    exact q
  have hr : Room (k + 1) X.A := c.room.mono hk
  refine SE.mk0 c.K ?_ call_plain
  show PE X _ (tMkX (He.ga D.K f) (D.Γi f) ("self" :: (D.P.inits.lookup f).getD []) as.len (kwNames kws) (WE W) (rd D W as).a (rd D W zs).a)
  rw [G.pn, hi, s3]
  cases args with
  | nil =>
    have e := s0 rfl
    subst e
    exact pe_mkx0 T' F' hr (c.gl hg) hm' hb' hx hkw hn hdb
  | cons e es => exact pe_mkx T' F' hr (c.gl hg) hm' hb' hx s1 s2 hkw hn hdb
theorem stepCa (G : Gd D P Pg w mg base L) (S : Sim D P Pg w mg base L n) (c : Xc D P Pg w mg base L N cs sc W X) {f : Str} {args : List Expr} {r : Ie} (hg : Gz sc f = true) (ho : okName f = true) (h : trCall P N (n + 1) sc f args = some r) (p pos : Pos) : SE X (.Call (.Name f p) args [] pos) (rd D W r) := by
  simp only [trCall] at h
  split at h
  · rename_i k hk
    split at h
    · rename_i hlen
      obtain ⟨as, h1, h⟩ := msome h
      subst h
      obtain ⟨s1, s2, s3, s4⟩ := S.A c h1
      obtain ⟨fd, ps, F, hm, hkp, hb, hps⟩ := G.fn f k hk
      have hdb := (okName_d ho).1
      have F' : FnOk X.prog X.w X.K X.mg X.base (L2.CX Pg w) L (He.ga D.K f) fd ps (D.Γ f) := by
        rw [c.prog, c.w, c.K, c.mg, c.base]; exact F
      have hm' : X.mg f = some (.ref (He.ga D.K f)) := by rw [c.mg]; exact hm
      have hkp' : PySem.W.keepIn X.K (.ref (He.ga D.K f)) = true := by rw [c.K]; exact hkp
      have hb' : Binds X.K fd ps [] := by rw [c.K]; exact hb
      have hx : ∀ σ, PassesAt (L2.CX Pg w) X σ (WE W σ) := by
        intro σ
        have q := passAt c.tk σ
        rw [c.prog, c.w] at q
        exact q
      refine SE.mk0 c.K ?_ call_plain
      cases args with
      | nil =>
        cases n with
        | zero => simp [trEs] at h1
        | succ m =>
          simp only [trEs] at h1
          cases h1
          exact pe_callS0 F' c.room (c.gl hg) hm' hkp' hb' hx hdb
      | cons e es =>
        exact pe_callS F' c.room (c.gl hg) hm' hkp' hb' hx s2 hdb (star_cons (s1 e List.mem_cons_self)) (star_any fun x hx => s1 x (List.mem_cons_of_mem _ hx))
    · cases h
  · split at h
    · rename_i ps hi
      split at h
      · rename_i hl
        obtain ⟨as, h1, h⟩ := msome h
        subst h
        obtain ⟨s1, s2, s3, s4⟩ := S.A c h1
        have hl := of_decide_eq_true hl
        refine se_mk (kws := []) G c hg ho hi (zs := .nil) s1 s2 s3 ?_ pk_nil rfl p pos fun z => by subst z; exact trEs_nil h1
        unfold kwFit
        simp [hl, kwNames]
      · cases h
    · split at h
      · rename_i hb
        split at h
        · rename_i he
          cases h
          have e0 : args = [] := by simpa using he
          subst e0
          obtain ⟨b1, b2, b3⟩ := G.bare f (of_decide_eq_true hb)
          refine SE.mk0 c.K ?_ call_plain
          exact pe_mk0 PySem.F.excBase_ValueError (by rw [c.K]; exact b1) (by rw [c.mg]; exact b2) (by rw [c.K]; exact b3) (c.gl hg) (okName_d ho).1
        · cases h
      · split at h
        · rename_i b hb
          have en := biOf_name hb
          have hK := c.K
          have hm : X.mg b.name = none := by rw [c.mg]; exact G.bi b
          split at h
          · rename_i o ap cp hit
            split at h
            · rename_i hc
              simp only [Bool.and_eq_true, Bool.not_eq_true'] at hc
              obtain ⟨o', h1, h⟩ := msome h
              subst h
              split at hit
              · rename_i hbl
                subst hbl
                have e2 : f = "list" := en.symm
                subst e2
                obtain rfl := itemsOf_eq hit
                exact SE.mk0 hK (LiI.pe_listItems c.calm (S.E c h1).e (c.gl hg) hm (by decide +kernel) (base_of hc.2) hc.1 rfl) call_plain
              · cases hit
            · cases h
          · split at h
            · cases h
            · rename_i hne
              obtain ⟨as, h1, h⟩ := msome h
              subst h
              obtain ⟨s1, s2, s3, s4⟩ := S.A c h1
              subst en
              cases args with
              | nil => exact absurd (.inr (.inr (.inr (.inr rfl)))) hne
              | cons e es =>
                have q : PE X (.Call (.Name b.name p) (e :: es) [] pos) (tCB (rBi D.K b) (rd D W as).a) := by
                  rw [← hK]
                  exact pe_bi c.calm (c.gl hg) hm s2 (star_cons (s1 e List.mem_cons_self)) (star_any fun x hx => s1 x (List.mem_cons_of_mem _ hx))
                have z := SE.mk0 hK q call_plain
                refine ⟨z.e, z.t, fun tg => ?_, z.o⟩
                show PI X tg _ (wBi D.K b as.len (rd D W as).a)
                have y := z.w tg
                cases b <;> first | exact y | exact absurd (by simp) hne
        · cases h
theorem headOf_eq {e : Expr} {f : Str} {args : List Expr} (h : headOf e = some (f, args)) : ∃ p q, e = .Call (.Name f p) args [] q := by
  unfold headOf at h
  split at h
  · cases h; exact ⟨_, _, rfl⟩
  · cases h
theorem isTup_eq {e : Expr} (h : isTup e = true) : ∃ es k p, e = .Tuple es k p := by
  cases e <;> first | exact ⟨_, _, _, rfl⟩ | cases h
theorem stepI (G : Gd D P Pg w mg base L) (S : Sim D P Pg w mg base L n) (c : Xc D P Pg w mg base L N cs sc W X) {tg it : Expr} {r : Ie} (h : trI P N (n + 1) sc tg it = some r) : PI X tg it (rd D W r).w := by
  have gen : ∀ {it r}, trE P N n sc it = some r → PI X tg it (rd D W r).w := fun {it r} h => (S.E c h).w tg
  simp only [trI] at h
  split at h
  · rename_i f args hh
    obtain ⟨p, q, rfl⟩ := headOf_eq hh
    split at h
    · rename_i hc
      simp only [Bool.and_eq_true] at hc
      obtain ⟨⟨h1, h2⟩, h3⟩ := hc
      have hK := c.K
      split at h
      · rename_i hb
        have en := biOf_name hb
        subst en
        split at h
        · rename_i hl
          obtain ⟨as, ha, h⟩ := msome h
          subst h
          obtain ⟨s1, s2, s3, s4⟩ := S.A c ha
          have hm : X.mg "range" = none := by rw [c.mg]; exact G.bi .range
          show PI X tg _ (if as.len = 1 then iRng1 (rd D W as).a else iRng2 (rd D W as).a)
          rw [s3]
          match args, s1, s2, hl with
          | [a], s1, s2, hl =>
            rw [if_pos (show [a].length = 1 from rfl)]
            exact pi_range1 (c.gl h1) hm s2 (star_cons (s1 a List.mem_cons_self))
          | [a, b], s1, s2, hl =>
            rw [if_neg (show ¬ [a, b].length = 1 by simp)]
            have e2 : starEach [b] X.env = [(false, eval b X.env)] := star_cons (s1 b (by simp))
            exact pi_range2 (c.gl h1) hm s2 (by rw [star_cons (s1 a List.mem_cons_self), e2]) e2
          | [], _, _, hl => simp at hl
          | _ :: _ :: _ :: _, _, _, hl => simp at hl
        · cases h
      · rename_i hb
        have en := biOf_name hb
        subst en
        split at h
        · rename_i hl
          obtain ⟨as, ha, h⟩ := msome h
          subst h
          obtain ⟨s1, s2, s3, s4⟩ := S.A c ha
          have hm : X.mg "enumerate" = none := by rw [c.mg]; exact G.bi .enumerate
          simp only [Bool.and_eq_true, decide_eq_true_eq] at hl
          obtain ⟨tes, tk, tp, rfl⟩ := isTup_eq hl.2
          match args, s1, s2, hl.1 with
          | [a], s1, s2, _ =>
            show PI X _ _ (iEnum D.K (rd D W as).a)
            rw [← hK]
            exact pi_enum (c.gl h1) hm s2 (star_cons (s1 a List.mem_cons_self))
        · cases h
      · rename_i hb
        have en := biOf_name hb
        subst en
        split at h
        · rename_i hl
          obtain ⟨as, ha, h⟩ := msome h
          subst h
          obtain ⟨s1, s2, s3, s4⟩ := S.A c ha
          have hm : X.mg "zip" = none := by rw [c.mg]; exact G.bi .zip
          simp only [Bool.and_eq_true, decide_eq_true_eq] at hl
          obtain ⟨tes, tk, tp, rfl⟩ := isTup_eq hl.2
          match args, s1, s2, hl.1 with
          | [a, b], s1, s2, _ =>
            show PI X _ _ (RZ.iZipA D.K (rd D W as).a)
            rw [← hK]
            exact RZ.pi_zipA (c.gl h1) hm s2 (star_cons (s1 a List.mem_cons_self)) (star_any fun x hx => s1 x (List.mem_cons_of_mem _ hx))
        · cases h
      · exact gen h
    · exact gen h
  · exact gen h
theorem clsName_eq {sc : Scope} {e : Expr} {x : Str} (h : clsName P sc e = some x) : ∃ p, e = .Name x p ∧ Gz sc x = true ∧ okName x = true ∧ x ≠ "__name__" ∧ (x ∈ P.own ∨ (x ∈ P.bcls ∧ ∃ n, bootBuiltins x = some (.type n))) := by
  unfold clsName at h
  split at h
  · rename_i y p
    split at h
    · rename_i hc
      cases h
      simp only [Bool.and_eq_true, Bool.or_eq_true, decide_eq_true_eq, Bool.not_eq_true', decide_eq_false_iff_not] at hc
      obtain ⟨⟨⟨h1, h2⟩, h3⟩, h4⟩ := hc
      refine ⟨p, rfl, h1, h2, h4, ?_⟩
      rcases h3 with h3 | ⟨h5, h3⟩
      · exact .inl h3
      · refine .inr ⟨h5, ?_⟩
        unfold isTyB at h3
        split at h3
        · rename_i n hn
          exact ⟨n, hn⟩
        · cases h3
    · cases h
  · cases h
theorem pe_cls (G : Gd D P Pg w mg base L) (c : Xc D P Pg w mg base L N cs sc W X) {e : Expr} {x : Str} (h : clsName P sc e = some x) : ∃ v cv, clsOf D.K D.own x = some (v, cv) ∧ PE X e (tC v) := by
  obtain ⟨p, rfl, h1, h2, h3, h4⟩ := clsName_eq h
  unfold clsOf
  rw [G.own]
  by_cases ho : x ∈ P.own
  · rw [if_pos ho]
    exact ⟨_, _, rfl, pe_glob (c.gl h1) (by rw [c.mg]; exact G.cls x ho) rfl (okName_d h2).1⟩
  · rw [if_neg ho]
    rcases h4 with h4 | ⟨h5, n, h4⟩
    · exact absurd h4 ho
    · rw [h4]
      exact ⟨_, _, rfl, pe_bltn (c.gl h1) (by rw [c.mg]; exact G.bcl x h5 ho) h4 rfl h3 (okName_d h2).1⟩
theorem pa_clss (G : Gd D P Pg w mg base L) (c : Xc D P Pg w mg base L N cs sc W X) : ∀ {es : List Expr} {xs : List Str}, es.mapM (clsName P sc) = some xs → ∃ t, PA X es t ∧ ∀ σ H Q, Q (xs.filterMap fun c => (clsOf D.K D.own c).map (·.1)) H → t σ H Q
  | [], xs, h => by
    simp at h
    subst h
    exact ⟨_, pa_nil, fun σ H Q q => q⟩
  | e :: es, xs, h => by
    rw [List.mapM_cons] at h
    obtain ⟨x, h1, h⟩ := bsome h
    obtain ⟨xs', h2, h⟩ := bsome h
    cases h
    obtain ⟨t, h3, h4⟩ := pa_clss G c h2
    obtain ⟨v, cv, e1, e2⟩ := pe_cls G c h1
    obtain ⟨p, rfl, _⟩ := clsName_eq h1
    refine ⟨_, pa_cons e2 h3, fun σ H Q q => ?_⟩
    show t σ H fun ys H2 => Q (v :: ys) H2
    refine h4 σ H _ ?_
    rw [List.filterMap_cons, e1] at q
    exact q
theorem se_isi (G : Gd D P Pg w mg base L) (S : Sim D P Pg w mg base L n) (c : Xc D P Pg w mg base L N cs sc W X) {a e : Expr} {x : Str} {a' : Ie} {p pos : Pos} (hg : Gz sc "isinstance" = true) (h1 : clsName P sc e = some x) (h2 : trE P N n sc a = some a') (hs : isStar a = false) :
    SE X (.Call (.Name "isinstance" p) [a, e] [] pos) (rd D W (.isi a' [x] true)) := by
  obtain ⟨v, cv, e1, e2⟩ := pe_cls G c h1
  obtain ⟨pp, rfl, _⟩ := clsName_eq h1
  have q := pe_callB (p := p) (pos := pos) (call_isZ (cs := []) c.K (fun I r t => G.ty X c.prog c.w c.K I r t) e1) (c.gl hg) (by rw [c.mg]; exact G.isi) (by decide +kernel) (pa_cons (S.E c h2).e (pa_cons e2 pa_nil) (star_cons hs)) (by decide) (by decide) (star_cons hs) rfl
  have z : PE X (.Call (.Name "isinstance" p) [a, .Name x pp] [] pos) (tIs D [x] true (rd D W a').e) := PE.imp q fun σ H Q h => by
    show (rd D W a').e σ H _
    refine (show (rd D W a').e σ H (fun y H1 => ∃ z, [y, v] = [z, v] ∧ rIs D [x] z H1 Q) from ?_)
    have h : (rd D W a').e σ H (fun y H1 => if true = true then rIs D [x] y H1 Q else ∀ p, H1 p = none → rIs D [x] y (upd H1 p (.tup ([x].filterMap fun c => (clsOf D.K D.own c).map (·.1)))) Q) := h
    have e : (fun (y : V) (H1 : Hp) => if true = true then rIs D [x] y H1 Q else ∀ p, H1 p = none → rIs D [x] y (upd H1 p (.tup ([x].filterMap fun c => (clsOf D.K D.own c).map (·.1)))) Q) = fun y H1 => ∃ z, [y, v] = [z, v] ∧ rIs D [x] z H1 Q := by
      funext y H1
      rw [if_pos rfl]
      exact propext ⟨fun k => ⟨y, rfl, k⟩, fun ⟨z, e, k⟩ => by cases e; exact k⟩
    rw [← e]
    exact h
  exact SE.mk0 c.K z call_plain
def tMono (t : TE) : TE := fun σ H Q => ∃ Q0 : VK, t σ H Q0 ∧ ∀ v H', Q0 v H' → Q v H'
theorem PE.mono {X : Cx} {e : Expr} {t : TE} (h : PE X e t) : PE X e (tMono t) := ⟨fun pins s σ H Q I ⟨Q0, q, m⟩ => thn (h.run pins s σ H Q0 I q) fun _ _ ⟨v, H', I', r, z⟩ => ⟨v, H', I', r, m v H' z⟩⟩
theorem se_isiT (G : Gd D P Pg w mg base L) (S : Sim D P Pg w mg base L n) (c : Xc D P Pg w mg base L N cs sc W X) {a : Expr} {es : List Expr} {xs : List Str} {a' : Ie} {k : Nat} {p p2 pos : Pos} (hg : Gz sc "isinstance" = true) (h1 : es.mapM (clsName P sc) = some xs) (hx : xs.length ≤ 100) (h2 : trE P N n sc a = some a') (hs : isStar a = false) :
    SE X (.Call (.Name "isinstance" p) [a, .Tuple es k p2] [] pos) (rd D W (.isi a' xs false)) := by
  obtain ⟨t, h3, h4⟩ := pa_clss G c h1
  have q := pe_callB (p := p) (pos := pos) (call_isZT (cs := xs) c.K (fun I r t => G.ty X c.prog c.w c.K I r t)) (c.gl hg) (by rw [c.mg]; exact G.isi) (by decide +kernel) (pa_cons (PE.mono (S.E c h2).e) (pa_cons (pe_tup (x1 := k) (pos := p2) h3) pa_nil) (star_cons hs)) (by decide) (by decide) (star_cons hs) rfl
  refine SE.mk0 c.K (PE.imp q fun σ H Q h => ?_) call_plain
  have h : (rd D W a').e σ H (fun y H1 => if false = true then rIs D xs y H1 Q else ∀ p, H1 p = none → rIs D xs y (upd H1 p (.tup (xs.filterMap fun c => (clsOf D.K D.own c).map (·.1)))) Q) := h
  refine ⟨_, h, fun v H1 z => ?_⟩
  rw [if_neg (by decide)] at z
  refine h4 σ H1 _ ⟨?_, fun p hp => ?_⟩
  · refine Nat.le_trans (List.length_filterMap_le _ _) (Nat.le_trans hx ?_)
    rw [sizeLine_eq]
    decide
  · exact ⟨v, p, rfl, upd_same, z p hp⟩
theorem mapM_len {α β : Type} {f : α → Option β} : ∀ {es : List α} {xs : List β}, es.mapM f = some xs → xs.length = es.length
  | [], xs, h => by
    simp at h
    subst h
    rfl
  | e :: es, xs, h => by
    rw [List.mapM_cons] at h
    obtain ⟨x, h1, h⟩ := bsome h
    obtain ⟨xs', h2, h⟩ := bsome h
    cases h
    rw [List.length_cons, List.length_cons, mapM_len h2]
theorem sliceOf_eq {e : Expr} {lo hi : Option Expr} (h : sliceOf e = some (lo, hi)) : ∃ p, e = .Slice lo hi none p := by
  unfold sliceOf at h
  split at h
  · cases h; exact ⟨_, rfl⟩
  · cases h
theorem chain_mark {op op' : CmpOp} {b c : Expr} (h : isSet c = false) : lastMarks [op, op'] [b, c] = false := by
  show behindInMarks op' c = false
  exact isSet_mark h
theorem stepE (G : Gd D P Pg w mg base L) (S : Sim D P Pg w mg base L n) (c : Xc D P Pg w mg base L N cs sc W X) {e : Expr} {r : Ie} (h : trE P N (n + 1) sc e = some r) : SE X e (rd D W r) := by
  have hK := c.K
  match e, h with
  | .Constant cv k pos, h =>
    cases cv with
    | none => simp only [trE] at h; cases h; exact SE.mk0 hK pe_non (fun _ => rfl)
    | bool b => simp only [trE] at h; cases h; exact SE.mk0 hK pe_bl (fun _ => rfl)
    | int i => simp only [trE] at h; cases h; exact SE.mk0 hK pe_int (fun _ => rfl)
    | str x => simp only [trE] at h; cases h; exact SE.mk0 hK pe_str (fun _ => rfl)
    | _ => simp [trE] at h
  | .Name x pos, h =>
    simp only [trE] at h
    split at h
    · rename_i hc
      cases h
      simp only [Bool.and_eq_true, decide_eq_true_eq] at hc
      obtain ⟨⟨h1, h2⟩, h3⟩ := hc
      obtain ⟨d1, d2⟩ := okName_d h2
      exact SE.g (SE.mk0 hK (pe_var (by rw [c.N]; exact h3) (by rw [c.sc]; exact isOwn_vis h1) d1 d2) (fun _ => rfl))
    · cases h
  | .BinOp a op b pos, h =>
    simp only [trE] at h
    obtain ⟨a', h1, h⟩ := bsome h
    obtain ⟨b', h2, h⟩ := msome h
    subst h
    have q := pe_op (pos := pos) (opBin (X := X) op) (S.E c h1).e (S.E c h2).e
    rw [hK] at q
    exact SE.mk0 hK q (fun _ => rfl)
  | .UnaryOp op a pos, h =>
    cases op with
    | USub =>
      simp only [trE] at h
      obtain ⟨a', h1, h⟩ := msome h
      subst h
      exact SE.mk0 hK (pe_un un_neg (S.E c h1).e) (fun _ => rfl)
    | Not =>
      simp only [trE] at h
      obtain ⟨a', h1, h⟩ := msome h
      subst h
      have q := pe_notT (pos := pos) (S.E c h1).e
      rw [hK] at q
      exact SE.tt hK q (pt_not (S.E c h1).t)
    | _ => simp [trE] at h
  | .Compare a ops es pos, h =>
    match ops, es, h with
    | [op], [b], h =>
      simp only [trE] at h
      split at h
      · cases h
      · rename_i hs
        have hs : isSet b = false := by simpa using hs
        obtain ⟨a', h1, h⟩ := bsome h
        obtain ⟨b', h2, h⟩ := msome h
        subst h
        have q := pe_cmpR (pos := pos) (opCmp c.un op) (S.E c h1).e (S.E c h2).e (isSet_mark hs)
        have t := pt_cmpR (pos := pos) (opCmp c.un op) (S.E c h1).e (S.E c h2).e (isSet_mark hs)
        rw [hK] at q t
        exact SE.tt hK q t
    | [op, op'], [b, d], h =>
      simp only [trE] at h
      split at h
      · cases h
      · rename_i hs
        have hs : isSet d = false := by simpa using hs
        obtain ⟨a', h1, h⟩ := bsome h
        obtain ⟨b', h2, h⟩ := bsome h
        obtain ⟨d', h3, h⟩ := msome h
        subst h
        have q := pe_chain (pos := pos) (opCmp c.un op) (opCmp c.un op') (S.E c h1).e (S.E c h2).e (S.E c h3).e (chain_mark hs)
        have t := pt_chain (pos := pos) (opCmp c.un op) (opCmp c.un op') (S.E c h1).e (S.E c h2).e (S.E c h3).e (chain_mark hs)
        rw [hK] at q t
        exact SE.tt hK q t
    | [], _, h => simp [trE] at h
    | [_], [], h => simp [trE] at h
    | [_], _ :: _ :: _, h => simp [trE] at h
    | [_, _], [], h => simp [trE] at h
    | [_, _], [_], h => simp [trE] at h
    | [_, _], _ :: _ :: _ :: _, h => simp [trE] at h
    | _ :: _ :: _ :: _, _, h => simp [trE] at h
  | .BoolOp op vs pos, h =>
    match op, vs, h with
    | .And, a :: b :: rest, h =>
      simp only [trE] at h
      obtain ⟨a', h1, h⟩ := bsome h
      obtain ⟨b', h2, h⟩ := msome h
      subst h
      have q1 := S.E c h1
      have q2 := S.B c h2 pos
      have z := pe_andT (pos := pos) q1.e q2.1
      rw [hK] at z
      exact SE.tt hK z (pw_and q1.t q2.2).pt
    | .Or, a :: b :: rest, h =>
      simp only [trE] at h
      obtain ⟨a', h1, h⟩ := bsome h
      obtain ⟨b', h2, h⟩ := msome h
      subst h
      have q1 := S.E c h1
      have q2 := S.B c h2 pos
      have z := pe_orT (pos := pos) q1.e q2.1
      rw [hK] at z
      exact SE.tt hK z (pw_or q1.t q2.2).pt
    | _, [], h => simp [trE] at h
    | _, [_], h => simp [trE] at h
  | .IfExp t a b pos, h =>
    simp only [trE] at h
    obtain ⟨c', h1, h⟩ := bsome h
    obtain ⟨a', h2, h⟩ := bsome h
    obtain ⟨b', h3, h⟩ := msome h
    subst h
    exact SE.tt hK (pe_ifExp (S.E c h1).t (S.E c h2).e (S.E c h3).e) PT.dead
  | .Tuple es k pos, h =>
    simp only [trE] at h
    obtain ⟨as, h1, h⟩ := msome h
    subst h
    exact SE.g (SE.mk0 hK (pe_tup (S.A c h1).2.1) (fun _ => rfl))
  | .List es pos, h =>
    simp only [trE] at h
    obtain ⟨as, h1, h⟩ := msome h
    subst h
    exact SE.mk0 hK (pe_lst (S.A c h1).2.1) (fun _ => rfl)
  | .Subscript a i pos, h =>
    simp only [trE] at h
    split at h
    · rename_i lo hi hsl
      obtain ⟨p2, rfl⟩ := sliceOf_eq hsl
      obtain ⟨a', h1, h⟩ := bsome h
      obtain ⟨l, h2, h⟩ := bsome h
      obtain ⟨u, h3, h⟩ := msome h
      subst h
      have q := pe_slice (pos := pos) (p2 := p2) (SlR.or sl_list sl_tupA) (S.E c h1).e (S.O c h2) (S.O c h3)
      rw [hK] at q
      exact SE.mk0 hK q (fun _ => rfl)
    · split at h
      · cases h
      · rename_i hi
        have hi : isSlice i = false := by simpa using hi
        obtain ⟨a', h1, h⟩ := bsome h
        obtain ⟨i', h2, h⟩ := msome h
        subst h
        have q := pe_ix (pos := pos) (ix_seq (X := X)) (S.E c h1).e (S.E c h2).e (by intro o z; cases i <;> first | rfl | cases hi)
        rw [hK] at q
        exact SE.g (SE.mk0 hK q (fun _ => rfl))
  | .ListComp elt gs scope pos, h =>
    match gs, h with
    | [⟨tg, it, ifs, z⟩], h =>
      simp only [trE] at h
      split at h
      · rename_i hc
        simp only [Bool.and_eq_true, decide_eq_true_eq, Bool.not_eq_true'] at hc
        obtain ⟨⟨⟨hz, h1⟩, h2⟩, nd⟩ := hc
        subst hz
        obtain ⟨it', h3, h⟩ := bsome h
        obtain ⟨tg', h4, h⟩ := bsome h
        obtain ⟨c', h5, h⟩ := bsome h
        obtain ⟨e', h6, h⟩ := msome h
        subst h
        refine SE.mk0 hK ?_ (fun _ => rfl)
        refine pe_lc c.calm (by rw [c.N]; exact nd) (S.I c h3) (by rw [c.N, c.sc]; exact blkOk_by h1) (fun s H C cl fp => S.G (c.blk scope s H C cl fp) nd h4) (fun s H C cl fp => S.C (c.blk scope s H C cl fp) h5) (fun s H C cl fp => (S.E (c.blk scope s H C cl fp) h6).e) ?_
        intro x
        cases it <;> first | rfl | cases h2
      · cases h
    | [], h => simp [trE] at h
    | _ :: _ :: _, h => simp [trE] at h
  | .Call f args kws pos, h =>
    match f, kws, h with
    | .Name f p, [], h =>
      simp only [trE] at h
      split at h
      · rename_i hc
        simp only [Bool.and_eq_true] at hc
        obtain ⟨hg, ho⟩ := hc
        split at h
        · rename_i a x px
          split at h
          · rename_i hi
            simp only [Bool.and_eq_true, decide_eq_true_eq, Bool.not_eq_true'] at hi
            obtain ⟨hi, hst⟩ := hi
            obtain ⟨y, h1, h⟩ := bsome h
            obtain ⟨a', h2, h⟩ := msome h
            subst h
            subst hi
            exact se_isi G S c hg h1 h2 hst
          · exact S.Ca c hg ho h p pos
        · rename_i a es k p2
          split at h
          · rename_i hi
            simp only [Bool.and_eq_true, decide_eq_true_eq, Bool.not_eq_true', decide_eq_false_iff_not] at hi
            obtain ⟨⟨⟨hi, hne⟩, hl⟩, hst⟩ := hi
            obtain ⟨ys, h1, h⟩ := bsome h
            obtain ⟨a', h2, h⟩ := msome h
            subst h
            subst hi
            exact se_isiT G S c hg h1 (by rw [mapM_len h1]; omega) h2 hst
          · exact S.Ca c hg ho h p pos
        · exact S.Ca c hg ho h p pos
      · split at h
        · rename_i hc
          simp only [Bool.and_eq_true, decide_eq_true_eq] at hc
          obtain ⟨⟨v1, v2⟩, v3⟩ := hc
          obtain ⟨as, h1, h⟩ := msome h
          subst h
          obtain ⟨d1, d2⟩ := okName_d v2
          obtain ⟨s1, s2, s3, s4⟩ := S.A c h1
          have F : LamOk D.P X.prog X.w X.K X.mg X.base L D.Λ := by
            rw [c.prog, c.w, c.K, c.mg, c.base, G.pn]; exact G.lam
          have hx : ∀ σ, PassesAt (L2.CX X.prog X.w) X σ (WE W σ) := fun σ => passAt c.tk σ
          refine SE.mk0 hK ?_ call_plain
          cases args with
          | nil =>
            have e0 := trEs_nil h1
            subst e0
            exact pe_callv0 F c.room hx (by rw [c.N]; exact v3) (by rw [c.sc]; exact isOwn_vis v1) d1 d2
          | cons a as' => exact pe_callv F c.room hx (by rw [c.N]; exact v3) (by rw [c.sc]; exact isOwn_vis v1) s1 s2 d1 d2
        · cases h
    | .Name f p, k :: kws, h =>
      simp only [trE] at h
      split at h
      · rename_i hc
        simp only [Bool.and_eq_true] at hc
        obtain ⟨⟨⟨hg, ho⟩, hd⟩, hn⟩ := hc
        obtain ⟨ps, hi, h⟩ := bsome h
        split at h
        · rename_i hf
          obtain ⟨as, h1, h⟩ := bsome h
          obtain ⟨zs, h2, h⟩ := msome h
          subst h
          obtain ⟨s1, s2, s3, s4⟩ := S.A c h1
          exact se_mk G c hg ho hi s1 s2 s3 hf (S.K c h2) hn p pos (fun z => by
            subst z
            exact trEs_nil h1)
        · cases h
      · cases h
    | .Attribute o m ap, [], h =>
      simp only [trE] at h
      split at h
      · rename_i hc
        simp only [Bool.and_eq_true, decide_eq_true_eq, Bool.not_eq_true'] at hc
        obtain ⟨⟨h1, h2⟩, h3⟩ := hc
        obtain ⟨m', hm, h⟩ := bsome h
        obtain ⟨o', h4, h⟩ := bsome h
        obtain ⟨as, h5, h⟩ := msome h
        subst h
        obtain ⟨s1, s2, s3, s4⟩ := S.A c h5
        have en := mtOf_name hm
        subst en
        have q := pe_mE (m := m') (ap := ap) (cp := pos) (S.E c h4).e s2 h3 h1 s1 h2
        rw [hK, ← s4] at q
        exact SE.mk0 hK q call_plain
      · cases h
    | .Attribute .., _ :: _, h => simp [trE] at h
    | .BoolOp .., _, h | .NamedExpr .., _, h | .BinOp .., _, h | .UnaryOp .., _, h | .Lambda .., _, h | .IfExp .., _, h | .Dict .., _, h | .Set .., _, h | .ListComp .., _, h | .SetComp .., _, h | .DictComp .., _, h | .GeneratorExp .., _, h | .Await .., _, h | .Yield .., _, h | .YieldFrom .., _, h | .Compare .., _, h | .Call .., _, h | .FormattedValue .., _, h | .JoinedStr .., _, h | .Constant .., _, h | .Subscript .., _, h | .Starred .., _, h | .List .., _, h | .Tuple .., _, h | .Slice .., _, h => simp [trE] at h
  | .Attribute o f pos, h =>
    simp only [trE] at h
    split at h
    · cases h
    · rename_i hc
      have hc : isCall0 o = false := by simpa using hc
      obtain ⟨o', h1, h⟩ := msome h
      subst h
      have q := pe_att (f := f) (pos := pos) (S.E c h1).e hc
      rw [hK] at q
      exact SE.mk0 hK q (fun _ => rfl)
  | .Dict ks vs pos, h =>
    simp only [trE] at h
    split at h
    · rename_i hc
      simp only [Bool.and_eq_true, decide_eq_true_eq] at hc
      obtain ⟨⟨c1, c2⟩, c3⟩ := hc
      obtain ⟨ps, h1, h⟩ := msome h
      subst h
      obtain ⟨d1, d2, d3⟩ := S.Ds c h1 pos
      by_cases hk : ks = []
      · have e := d2 hk
        subst e
        subst hk
        have ev : vs = [] := List.length_eq_zero_iff.mp c1.symm
        subst ev
        exact SE.mk0 hK (PE.or pe_dnewK pe_dnewT) (fun _ => rfl)
      · obtain ⟨a1, a2, a3, e⟩ := d3 hk
        subst e
        exact SE.mk0 hK (pe_disp d1 c3 c1 hk c2) (fun _ => rfl)
    · cases h
  | .Lambda params body scope pos, h =>
    simp only [trE] at h
    obtain ⟨q, hq, h⟩ := bsome h
    split at h
    · rename_i hc
      simp only [Bool.and_eq_true] at hc
      obtain ⟨b, h1, h⟩ := msome h
      subst h
      obtain ⟨cc, T0, TB, hcode, hm, hu, hqq⟩ := c.lq q hq
      refine SE.mk0 hK ?_ (fun _ => rfl)
      exact pe_lam (L := ⟨paramsOf params, lamNames params body scope, q, b⟩) (by rw [c.base, c.mg]; exact TB) hcode (by rw [hqq]; exact hm) (by rw [hqq]; exact hu) hqq.symm ⟨hc.1, rfl, hc.2, ⟨n, by rw [G.pn]; exact h1⟩⟩
    · cases h
  | .NamedExpr .., h | .Set .., h | .SetComp .., h | .DictComp .., h | .GeneratorExp .., h | .Await .., h | .Yield .., h | .YieldFrom .., h | .FormattedValue .., h | .JoinedStr .., h | .Starred .., h | .Slice .., h => simp [trE] at h
end
end CK
end

section
set_option Elab.async false
set_option linter.all false
set_option maxRecDepth 100000
set_option maxHeartbeats 8000000
namespace CK
open PySem PySem.Spec PyProof.Rows L2
section
variable {D : Dm} {P : Pn} {Pg : Program} {w : World} {mg : Str → Option Value} {base : Heap} {L : Nat}
theorem stepAll (G : Gd D P Pg w mg base L) {n : Nat} (S : Sim D P Pg w mg base L n) : Sim D P Pg w mg base L (n + 1) where
  E := fun c h => stepE G S c h
  Ca := fun c h1 h2 h p pos => stepCa G S c h1 h2 h p pos
  B := fun c h pos => stepB S c h pos
  A := fun c h => stepA S c h
  O := fun c h => stepO S c h
  I := fun c h => stepI G S c h
  C := fun c h => stepC S c h
  G := fun c nd h => stepG S c nd h
  Gs := fun c nd h => stepGs S c nd h
  Ds := fun c h pos => stepDs S c h pos
  K := fun c h => stepK S c h
theorem sim (G : Gd D P Pg w mg base L) : ∀ n, Sim D P Pg w mg base L n
  | 0 => sim0
  | n + 1 => stepAll G (sim G n)
variable {N : Nm} {cs sc : Scope} {W : WX} {X : Cx}
theorem swS_false {tg e : Expr} {l : Nat} {env : Env} (h : isComp e = false) : swapsWithSole [tg] e l env = pure false := sw_false h
theorem sw_noname {tg e : Expr} {l : Nat} {env : Env} (h : isName tg = false) : swapsWith e (some tg) l env = pure false := by
  cases tg <;> first | (cases h; done) | (cases e <;> rfl)
theorem swp_none {tg e : Expr} {env : Env} (h : isTup e = false) : swappedStores [tg] e env = pure none := by
  unfold swappedStores
  cases e <;> first | (cases h; done) | (cases tg <;> rfl)
theorem swp_none2 {tg e : Expr} {env : Env} (h : isTup tg = false) (h2 : isStar tg = false) : swappedStores [tg] e env = pure none ∨ ∃ ts p, tg = .List ts p := by
  cases tg <;> first | exact .inr ⟨_, _, rfl⟩ | (refine .inl ?_; unfold swappedStores; cases e <;> first | (cases h; done) | rfl)
theorem blk_fn {env : Env} (hk : env.scope.kind = .function) : env.blockKind = .function := by
  unfold Env.blockKind
  rw [hk]
  rfl
theorem swp_par {env : Env} {x y : Str} {px py pt pt2 : Pos} {kt k2 : Nat} {a b : Expr} (hk : env.scope.kind = .function) (hx : env.scope.names.lookup x = some .local) (hy : env.scope.names.lookup y = some .local) (hl : (px.line == py.line) = true) (hxy : x ≠ y)
    (ha : isStar a = false) (hb : isStar b = false) (hf : ([a, b].all (foldedForSure 8)) = false) (hc : ([a, b].all (constantsAlone 8)) = false) :
    swappedStores [.Tuple [.Name x px, .Name y py] kt pt] (.Tuple [a, b] k2 pt2) env = pure (some [x, y]) := by
  have st : ([a, b].any fun | .Starred .. => true | _ => false) = false := by
    have e1 : ∀ e : Expr, (match e with | .Starred .. => true | _ => false) = isStar e := fun e => by cases e <;> rfl
    rw [List.any_cons, List.any_cons, List.any_nil, e1, e1, ha, hb] <;> rfl
  have kx : env.kindOf x = some .local := hx
  have ky : env.kindOf y = some .local := hy
  have hl' : (py.line == px.line) = true := by
    rw [beq_iff_eq] at hl ⊢
    exact hl.symm
  have dd : ([x, y] : List Str).eraseDups.length = 2 := by
    have : (x == y) = false := by simpa using hxy
    simp [List.eraseDups_cons, Ne.symm hxy]
  have fm : ([Expr.Name x px, Expr.Name y py].filterMap fun
    | .Name id pos => if env.kindOf id == some .local && pos.line == (([Expr.Name x px, Expr.Name y py].head?.map (·.pos.line)).getD 0) then some id else none
    | _ => none) = [x, y] := by
    have e0 : (([Expr.Name x px, Expr.Name y py].head?.map (·.pos.line)).getD 0) = px.line := rfl
    rw [e0, List.filterMap_cons]
    simp only [kx, beq_self_eq_true, Bool.and_self, if_true]
    rw [List.filterMap_cons]
    simp only [ky, hl', beq_self_eq_true, Bool.and_self, if_true, List.filterMap_nil]
  unfold swappedStores
  simp only
  have kb := blk_fn hk
  split
  · rename_i h
    rw [kb] at h
    simp at h
  · split
    · rename_i h
      exact absurd (st.symm.trans h) (by decide)
    · generalize hfm : List.filterMap _ _ = nl
      have e : nl = [x, y] := hfm.symm.trans fm
      subst e
      split
      · rename_i h
        rw [dd] at h
        simp at h
      · split
        · rename_i h
          rw [hf] at h
          cases h
        · split
          · rename_i h
            rw [hc] at h
            cases h
          · rfl
theorem fm_short {env : Env} {line : Nat} : ∀ {ts : List Expr}, (ts.any fun t => !isName t) = true → (ts.filterMap fun
    | .Name id pos => if env.kindOf id == some .local && pos.line == line then some id else none
    | _ => none).length < ts.length
  | [], h => by cases h
  | t :: ts, h => by
    rw [List.any_cons, Bool.or_eq_true] at h
    rw [List.filterMap_cons, List.length_cons]
    rcases h with h | h
    · have hn : isName t = false := by simpa using h
      have e : (match t with
        | .Name id pos => if env.kindOf id == some .local && pos.line == line then some id else none
        | _ => none) = none := by cases t <;> first | rfl | cases hn
      rw [e]
      exact Nat.lt_succ_of_le (List.length_filterMap_le _ _)
    · have ih := fm_short (env := env) (line := line) h
      split
      · omega
      · rw [List.length_cons]; omega
theorem swp_mixed {env : Env} {tg e : Expr} (h : mixed tg = true) : swappedStores [tg] e env = pure none := by
  match tg, h with
  | .Tuple ts kt pt, h =>
    have q := fm_short (env := env) (line := (ts.head?.map (·.pos.line)).getD 0) (show (ts.any fun t => !isName t) = true from h)
    cases e with
    | Tuple vs k p =>
      unfold swappedStores
      simp only
      split
      · rfl
      · split
        · rfl
        · rw [if_pos]
          · rw [Bool.or_eq_true]
            refine .inl ?_
            rw [bne_iff_ne]
            exact Nat.ne_of_lt q
    | _ => rfl
theorem parOf_eq {N : List Str} {tg e : Expr} {i j : Nat} {es : List Expr} (h : parOf N sc tg e = some (i, j, es)) : ∃ x y px py a b kt pt k2 p2, tg = .Tuple [.Name x px, .Name y py] kt pt ∧ e = .Tuple [a, b] k2 p2 ∧ es = [a, b] ∧ i = N.idxOf x ∧ j = N.idxOf y ∧ N[i]? = some x ∧ N[j]? = some y ∧ x ≠ y ∧
    sc.names.lookup x = some .local ∧ sc.names.lookup y = some .local ∧ (px.line == py.line) = true ∧ isStar a = false ∧ isStar b = false ∧ ([a, b].all (foldedForSure 8)) = false ∧ ([a, b].all (constantsAlone 8)) = false := by
  unfold parOf at h
  split at h
  · rename_i x px y py kt pt a b k2 p2
    split at h
    · rename_i hc
      cases h
      simp only [Bool.and_eq_true, decide_eq_true_eq, Bool.not_eq_true', decide_eq_false_iff_not] at hc
      obtain ⟨⟨⟨⟨⟨⟨⟨⟨⟨h1, h2⟩, h3⟩, h4⟩, h5⟩, h6⟩, h7⟩, h8⟩, h9⟩, h10⟩ := hc
      exact ⟨x, y, px, py, a, b, kt, pt, k2, p2, rfl, rfl, rfl, rfl, rfl, h7, h8, h4, h1, h2, h3, h5, h6, h9, h10⟩
    · cases h
  · cases h
/-- in a def's own body -/
structure Xd (D : Dm) (P : Pn) (Pg : Program) (w : World) (mg : Str → Option Value) (base : Heap) (L : Nat) (N : Nm) (sc : Scope) (W : WX) (X : Cx) : Prop where
  x : Xc D P Pg w mg base L N sc sc W X
  po : PassesOwn (model X.prog X.w) X.A X.env X.xe
  nd : N.ns.Nodup
  kind : sc.kind = .function
theorem lc_inv {n : Nat} {elt : Expr} {gs : List Comprehension} {scope : Scope} {p : Pos} {r : Ie} (h : trE P N (n + 1) sc (.ListComp elt gs scope p) = some r) : ∃ tg it ifs it' tg' c' e', gs = [⟨tg, it, ifs, 0⟩] ∧ blkC N.ns sc scope (ownOf N.ns scope) = true ∧ isSet it = false ∧
    trI P N n sc tg it = some it' ∧ trG P N n scope (relS scope sc) tg = some tg' ∧ trC P N n (relS scope sc) ifs = some c' ∧ trE P N n (relS scope sc) elt = some e' ∧ r = .lc e' tg' it' c' ((ownOf N.ns scope).map (·.2)) := by
  match gs, h with
  | [⟨tg, it, ifs, z⟩], h =>
    simp only [trE] at h
    split at h
    · rename_i hc
      simp only [Bool.and_eq_true, decide_eq_true_eq, Bool.not_eq_true'] at hc
      obtain ⟨⟨⟨hz, h1⟩, h2⟩, nd⟩ := hc
      subst hz
      obtain ⟨it', h3, h⟩ := bsome h
      obtain ⟨tg', h4, h⟩ := bsome h
      obtain ⟨c', h5, h⟩ := bsome h
      obtain ⟨e', h6, h⟩ := msome h
      exact ⟨_, _, _, _, _, _, _, rfl, h1, h2, h3, h4, h5, h6, h.symm⟩
    · cases h
  | [], h => simp [trE] at h
  | _ :: _ :: _, h => simp [trE] at h
theorem se_set (G : Gd D P Pg w mg base L) {n : Nat} (S : Sim D P Pg w mg base L n) (c : Xd D P Pg w mg base L N sc W X) {tg e : Expr} {r : Is} {pos : Pos} (h : trSet P N n sc sc tg e = some r) : PS X (.Assign [tg] e pos) (rdS D W r) := by
  have nd := c.nd
  have hkf : X.env.scope.kind = .function := by rw [c.x.sc]; exact c.kind
  unfold trSet at h
  split at h
  · rename_i i j es hp
    obtain ⟨as, h1, h⟩ := msome h
    subst h
    obtain ⟨x, y, px, py, a, b, kt, pt, k2, p2, rfl, rfl, rfl, ei, ej, hi, hj, hxy, hx, hy, hl, ha, hb, hf, hc⟩ := parOf_eq hp
    have hx' : X.env.scope.names.lookup x = some .local := by rw [c.x.sc]; exact hx
    have hy' : X.env.scope.names.lookup y = some .local := by rw [c.x.sc]; exact hy
    refine ps_par c.x.calm (by rw [c.x.N]; exact nd) (by rw [c.x.N]; exact hi) (by rw [c.x.N]; exact hj) (fun z => hxy ?_) hx' hy' (S.A c.x h1).2.1 (swp_par hkf hx' hy' hl hxy ha hb hf hc) rfl
    rw [z] at hi
    exact Option.some.inj (hi.symm.trans hj)
  · split at h
    · cases h
    · rename_i hc
      simp only [Bool.or_eq_true, Bool.and_eq_true, Bool.not_eq_true', not_or, not_and, Bool.not_eq_false] at hc
      obtain ⟨hst, hmx⟩ := hc
      have hst : isStar tg = false := by simpa using hst
      obtain ⟨e', h1, h⟩ := bsome h
      obtain ⟨t, h2, h⟩ := msome h
      subst h
      have qe := (S.E c.x h1).e
      have qg := S.G c.x nd h2
      have hw : swappedStores [tg] e X.env = pure none := by
        cases he : isTup e with
        | false => exact swp_none he
        | true =>
          cases ht : isTup tg with
          | true => exact swp_mixed (hmx ⟨ht, he⟩)
          | false =>
            rcases swp_none2 (env := X.env) (e := e) ht hst with z | ⟨ts, p, rfl⟩
            · exact z
            · cases n with
              | zero => simp [trG] at h2
              | succ m => simp [trG] at h2
      have h1' : (assignEach [tg] X.env).map (·.2) = [assign tg X.env] := by rw [asg_cons hst] <;> rfl
      cases hcm : isComp e with
      | false => exact ps_asg qe qg (swS_false hcm) hw h1'
      | true =>
        cases hn : isName tg with
        | false => exact ps_asg qe qg (sw_noname hn) hw h1'
        | true =>
          match tg, e, hn, hcm, h1, h2, qe, qg, hw, h1' with
          | .Name y py, .ListComp elt gs scope p, _, _, h1, h2, qe, qg, hw, h1' =>
            -- the comprehension's value is stored within its own frame, or as any other
            have hcase : (swapsWith (.ListComp elt gs scope p) (some (.Name y py)) pos.line X.env = pure true ∧ X.env.kindOf y = some .local) ∨ swapsWith (.ListComp elt gs scope p) (some (.Name y py)) pos.line X.env = pure false := by
              unfold swapsWith
              simp only
              generalize hbb : (X.env.blockKind == ScopeKind.function && X.env.kindOf y == some NameKind.local && py.line == (Expr.ListComp elt gs scope p).pos.line && !(scope.names.any fun (n, k) => n == y && (k == .local || k == .cell))) = bb
              cases bb
              · exact .inr rfl
              · simp only [Bool.and_eq_true, beq_iff_eq] at hbb
                exact .inl ⟨rfl, hbb.1.1.2⟩
            rcases hcase with ⟨hs, hyl⟩ | hs
            · cases n with
              | zero => simp [trE] at h1
              | succ m =>
                obtain ⟨tg, it, ifs, it', tg', c', e', rfl, b1, b2, b3, b4, b5, b6, rfl⟩ := lc_inv h1
                have M := sim G m
                cases m with
                | zero => simp [trI] at b3
                | succ k =>
                  simp only [trG] at h2
                  split at h2
                  · rename_i hc
                    cases h2
                    simp only [Bool.and_eq_true, Bool.or_eq_true, decide_eq_true_eq] at hc
                    obtain ⟨⟨g1, g2⟩, g3⟩ := hc
                    refine ps_setLc c.x.calm (by rw [c.x.N]; exact nd) (by rw [c.x.N]; exact g3) hyl hs (M.I c.x b3) (by rw [c.x.N, c.x.sc]; exact blkOk_by b1) (fun s H C cl fp => M.G (c.x.blk scope s H C cl fp) nd b4) (fun s H C cl fp => M.C (c.x.blk scope s H C cl fp) b5) (fun s H C cl fp => (M.E (c.x.blk scope s H C cl fp) b6).e) ?_
                    intro x
                    cases it <;> first | rfl | cases b2
                  · cases h2
            · exact ps_asg qe qg hs hw h1'
          | .Name y py, .SetComp .., _, _, h1, _, _, _, _, _ => cases n <;> simp [trE] at h1
          | .Name y py, .DictComp .., _, _, h1, _, _, _, _, _ => cases n <;> simp [trE] at h1
end
end CK
end

section
set_option Elab.async false
set_option linter.all false
set_option maxRecDepth 100000
set_option maxHeartbeats 8000000
namespace CK
open PySem PySem.Spec PyProof.Rows L2
section
variable {D : Dm} {P : Pn} {Pg : Program} {w : World} {mg : Str → Option Value} {base : Heap} {L : Nat} {N : Nm} {sc : Scope} {W : WX} {X : Cx}
theorem PS.never {st : Stmt} : PS X st (rdS D W .never) := ps_never
theorem ps_getD {st : Stmt} {o : Option Is} (h : ∀ r, o = some r → PS X st (rdS D W r)) : PS X st (rdS D W (o.getD .never)) := by
  cases o with
  | none => exact ps_never
  | some r => exact h r rfl
theorem fldOf_eq {tg o : Expr} {f : Str} (h : fldOf tg = some (o, f)) : ∃ p, tg = .Attribute o f p := by
  unfold fldOf at h
  split at h
  · cases h; exact ⟨_, rfl⟩
  · cases h
theorem simS (G : Gd D P Pg w mg base L) (c : Xd D P Pg w mg base L N sc W X) : ∀ n, (∀ st, PS X st (rdS D W (trS P N sc sc n st))) ∧ ∀ sts, PSs X sts (rdS D W (trSs P N sc sc n sts)) := by
  intro n
  induction n with
  | zero => exact ⟨fun st => by simp only [trS]; exact ps_never, fun sts => by simp only [trSs]; exact pss_never⟩
  | succ n ih =>
    obtain ⟨ih1, ih2⟩ := ih
    have M := sim (D := D) (P := P) (Pg := Pg) (w := w) (mg := mg) (base := base) (L := L) G n
    refine ⟨fun st => ?_, fun sts => ?_⟩
    · cases st with
      | Assign tgs e pos =>
        match tgs with
        | [tg] =>
          simp only [trS]
          split
          · rename_i o f hf
            obtain ⟨pp, rfl⟩ := fldOf_eq hf
            split
            · exact ps_never
            · rename_i hc
              refine ps_getD fun r h => ?_
              obtain ⟨e', h1, h⟩ := bsome h
              obtain ⟨o', h2, h⟩ := msome h
              subst h
              have q := ps_ost (pos := pos) (p' := pp) (f := f) (M.E c.x h2).e (M.E c.x h1).e (sw_false (by simpa using hc))
              rw [c.x.K] at q
              exact q
          · exact ps_getD fun r h => se_set G M c h
        | [] => simp only [trS]; exact ps_never
        | _ :: _ :: _ => simp only [trS]; exact ps_never
      | Expr e pos =>
        simp only [trS]
        split
        · exact ps_never
        · rename_i hc
          refine ps_getD fun r h => ?_
          obtain ⟨e', h1, h⟩ := msome h
          subst h
          exact ps_expr (M.E c.x h1).e (sw_false (by simpa using hc))
      | Return eo pos =>
        cases eo with
        | none =>
          simp only [trS]
          exact ps_retN
        | some e =>
          simp only [trS]
          refine ps_getD fun r h => ?_
          obtain ⟨e', h1, h⟩ := msome h
          subst h
          exact ps_ret (M.E c.x h1).e
      | If t a b pos =>
        simp only [trS]
        refine ps_getD fun r h => ?_
        obtain ⟨e', h1, h⟩ := msome h
        subst h
        exact ps_if (M.E c.x h1).t (ih2 a) (ih2 b)
      | While t a b pos =>
        cases b with
        | nil =>
          simp only [trS]
          refine ps_getD fun r h => ?_
          obtain ⟨e', h1, h⟩ := msome h
          subst h
          exact ps_while c.po (M.E c.x h1).t (ih2 a)
        | cons _ _ => simp only [trS]; exact ps_never
      | For tg it a b pos =>
        cases b with
        | nil =>
          simp only [trS]
          split
          · exact ps_never
          · rename_i hs
            refine ps_getD fun r h => ?_
            obtain ⟨it', h1, h⟩ := bsome h
            obtain ⟨t', h2, h⟩ := msome h
            subst h
            refine ps_for c.po c.x.calm (M.I c.x h1) (M.G c.x c.nd h2) (ih2 a) ?_
            intro x
            cases it <;> first | rfl | exact absurd rfl hs
        | cons _ _ => simp only [trS]; exact ps_never
      | Pass pos => simp only [trS]; exact ps_pass
      | Break pos => simp only [trS]; exact ps_break
      | Continue pos => simp only [trS]; exact ps_continue
      | _ => simp only [trS]; exact ps_never
    · match sts with
      | [] => simp only [trSs]; exact pss_nil
      | [s] => simp only [trSs]; exact pss_one (ih1 s)
      | s :: r :: rs => simp only [trSs]; exact pss_cons (ih1 s) (ih2 (r :: rs))
/-! ### a def -/
def stmNames : Nat → List Stmt → List Str
  | 0, _ => []
  | n + 1, ss => ss.flatMap fun
    | .Assign ts e _ => compNames n (e :: ts)
    | .AugAssign t _ e _ => compNames n [t, e]
    | .Expr e _ => compNames n [e]
    | .Return e _ => compNames n e.toList
    | .If c a b _ => compNames n [c] ++ stmNames n a ++ stmNames n b
    | .While c a b _ => compNames n [c] ++ stmNames n a ++ stmNames n b
    | .For t i a b _ => compNames n [t, i] ++ stmNames n a ++ stmNames n b
    | .Raise e _ _ => compNames n e.toList
    | .Try a hs b f _ => stmNames n a ++ stmNames n (hs.flatMap fun | .ExceptHandler _ _ b _ => b) ++ stmNames n b ++ stmNames n f
    | _ => []
def namesOf (d : He.DefD) : List Str := (paramsOf d.params ++ (d.scope.names.filterMap fun p => if p.2 == .local || p.2 == .cell then some p.1 else none) ++ stmNames 60 d.body).eraseDups
def scopeB (N ps : List Str) (sc : Scope) : Bool := decide (sc.kind = .function) && !sc.isCoroutine && !sc.isGenerator && decide N.Nodup && decide (N.take ps.length = ps) && ps.all (fun x => decide (sc.names.lookup x = some .local) || decide (sc.names.lookup x = some .cell)) && sc.names.all fun y => !decide (y.2 = .free)
theorem scopeB_ok {N ps : List Str} {sc : Scope} (h : scopeB N ps sc = true) : FnScope N ps sc := by
  unfold scopeB at h
  simp only [Bool.and_eq_true, Bool.not_eq_true', decide_eq_true_eq, List.all_eq_true, Bool.or_eq_true, decide_eq_false_iff_not] at h
  obtain ⟨⟨⟨⟨⟨⟨h1, h2⟩, h3⟩, h4⟩, h5⟩, h6⟩, h7⟩ := h
  exact ⟨h1, h2, h3, h4, h5, h6, h7⟩
/-- the name of a def's lambdas -/
def lamQ (qual : Str) : Str := qual ++ ".<locals>." ++ "<lambda>"
def nmOf (P : Pn) (d : He.DefD) : Nm := ⟨namesOf d, if d.qual ∈ P.tabs then some (lamQ d.qual) else none⟩
/-- the def's body, in the small language -/
def bodyOf (P : Pn) (d : He.DefD) : Is := trSs P (nmOf P d) d.scope d.scope 200 d.body
/-- what has to be shown of a def's reading -/
def Keeps (D : Dm) (P : Pn) (d : He.DefD) (sp : Sp) : Prop := ∀ vs H Q E, sp vs H Q E → rdS D (fun c dx _ H' => E c dx H') (bodyOf P d) { nx := fun _ H' => Q .non H', rt := Q } (start (namesOf d) vs) H
/-- the table of a def that makes lambdas -/
def TabOk (T : List (Addr × Str)) (P : Pn) (mg : Str → Option Value) (base : Heap) (qual : Str) (fd : FuncData) : Prop := qual ∈ P.tabs → ∃ c T0, fd.code = .ref c ∧ LamX.TabB base mg c T0 ∧ (T0, lamQ qual) ∈ T ∧ ∀ p ∈ T, p.1 = T0 → p.2 = lamQ qual
theorem def_ok (G : Gd D P Pg w mg base L) {d : He.DefD} {fd : FuncData} {f : Addr} {sp : Sp} (F : FunD D.K d.name d.qual d.params d.body d.scope [] [] f fd) (T : TabOk D.T P mg base d.qual fd) (hs : scopeB (namesOf d) (paramsOf d.params) d.scope = true)
    (len : ∀ vs H Q E, sp vs H Q E → vs.length = (paramsOf d.params).length) (k : Keeps D P d sp) : FnOk Pg w D.K mg base (L2.CX Pg w) (L + 1) f fd (paramsOf d.params) sp := by
  have S := scopeB_ok hs
  obtain ⟨oc, od, dV, kV, doc, pm, an, cdv, ct, osl, rfl, lk, hcd, _, _⟩ := F.ex
  refine fn_of lk hcd S len fun A outer s H vs Q E hr h => ⟨_, (simS G (N := nmOf P d) (sc := d.scope) (W := fun c dx _ H' => E c dx H') ⟨⟨fun q hq => ?_, rfl, rfl, rfl, rfl, rfl, rfl, rfl, rfl, hr, takes_of rfl rfl rfl rfl, fun _ _ => rfl⟩, passes_of rfl, S.nd, S.kind⟩ 200).2 d.body, k vs H Q E h⟩
  unfold nmOf at hq
  dsimp only at hq
  split at hq
  · rename_i ht
    cases hq
    obtain ⟨c, T0, e1, e2, e3, e4⟩ := T ht
    exact ⟨c, T0, e2, e1, e3, e4, rfl⟩
  · cases hq
/-! ### lambdas -/
/-- the promise of a lambda, by its body's reading -/
def ΛR (D : Dm) : LamI → Sp := fun Lm vs H Q E => vs.length = Lm.ps.length ∧ (rd D (fun c dx _ H' => E c dx H') Lm.b).e (start Lm.ns vs) H Q
theorem start_F {ns : List Str} {vs : List V} : NdefX.startF ns vs [] = L2.start ns vs := by
  unfold NdefX.startF L2.start
  simp
theorem lam_ok (G : Gd D P Pg w mg base L) : LamOk P Pg w D.K mg base (L + 1) (ΛR D) := by
  refine ⟨fun A outer s H f c Lm us vs Q E hr e0 hf hc r hq => ?_⟩
  obtain ⟨hl, hq⟩ := hq
  obtain ⟨params, scope, body, pm, ctv, ho, b1, b2, b3, n, b4⟩ := lmO_at e0.hok hf
  have S := NdefX.nscope_by b3
  have lim : s.heap.NoLimit := e0.mod.nolimit.keeps fun b o e => (e0.bs b o e).1
  have hlu : us.length = Lm.ps.length := by rw [← r.length]; exact hl
  have ndp : Lm.ps.Nodup := by
    have q := S.nd.sublist (List.take_sublist (Lm.ps.length + ([] : List Str).length) Lm.ns)
    rw [S.pre, List.append_nil] at q
    exact q
  have hb : bindArgs (PySem.W.kla_fn "<lambda>" Lm.q params body scope [] pm (.ref c) ctv) ⟨us, []⟩ = pure (Lm.ps.zip us) := by
    have q := bind_pos (fd := PySem.W.kla_fn "<lambda>" Lm.q params body scope [] pm (.ref c) ctv) (us := us) b1 rfl (by show (paramsOf params).Nodup; rw [b2]; exact ndp) (by show us.length = (paramsOf params).length; rw [b2]; exact hlu)
    have e : paramsOf (PySem.W.kla_fn "<lambda>" Lm.q params body scope [] pm (.ref c) ctv).params = Lm.ps := b2
    rw [e] at q
    exact q
  refine PySem.W.kla_callFunE hr.depth ho rfl S.co S.gen rfl (NdefX.codeO_at e0.hok hc) ?_
  rw [hb]
  refine wpAny_pure (wpAny_newFunctionEnv S.nocell (fun ⟨n, _⟩ hy => S.par n (List.of_mem_zip hy).1) (fun h₁ hns hsb => ⟨lim.fresh _ hsb, ?_⟩) S.kind)
  have kp : ∀ b o, s.heap.get? b = some o → h₁.get? b = some o := fun b o e => hsb.extBut b o (Nat.ne_of_lt (Heap.lt_size e)) (Heap.get?_push_of_some _ e)
  have C0 : NdefX.CellsAt [] [] [] s.heap H := ⟨rfl, fun y c (e : List.lookup y ([] : List (Str × Addr)) = some c) => by simp at e, fun x y c (e : List.lookup x ([] : List (Str × Addr)) = some c) => by simp at e, fun i y (e : ([] : List Str)[i]? = some y) => by simp at e⟩
  have I : Inv (NdefX.ncx (L2.CX Pg w) Pg w D.K mg base Lm.ns ⟨"<lambda>", Lm.q, params, [], scope, [], c⟩ f A outer s H E) [] (NdefX.startF Lm.ns vs []) H { s with heap := h₁, toks := s.toks + (Lm.ps.zip us).length } :=
    NdefX.inv_startN (fr := []) (ps := Lm.ps) (F := ⟨"<lambda>", Lm.q, params, [], scope, [], c⟩) S hr.hd e0 hl r C0 hns kp
  rw [start_F] at I
  have cx : Xc D P Pg w mg base L ⟨Lm.ns, none⟩ scope scope (fun c dx _ H' => E c dx H') (NdefX.ncx (L2.CX Pg w) Pg w D.K mg base Lm.ns ⟨"<lambda>", Lm.q, params, [], scope, [], c⟩ f A outer s H E) :=
    { lq := fun q hq => (by have z : (none : Option Str) = some q := hq; cases z), prog := rfl, w := rfl, K := rfl, mg := rfl, base := rfl, N := rfl, sc := rfl, calm := rfl, room := hr.deeper _, tk := takes_of rfl rfl rfl rfl, st := fun x hx => absurd rfl (S.nocell _ (PySem.mem_of_lookup hx)) }
  have M := (sim G n).E cx b4
  show codeAny _ _ (.expr body (NdefX.envF ⟨"<lambda>", Lm.q, params, [], scope, [], c⟩ f s.heap.objs.size)) _ _
  refine PySem.W.kla_codeExpr (wpAny_mono (M.e.run [] _ _ H Q I hq) (fun v s' hv => ?_) fun e s' he => he)
  obtain ⟨w', H', J', rv, q⟩ := hv
  exact ⟨w', H', J'.os, J'.bare, J'.base, J'.hok, rv, q⟩
end
/-! ### an __init__ -/
theorem init_kwb {K : PySem.W.Frag} {name qual : Str} {params : Arguments} {body : List Stmt} {scope : Scope} {f : Addr} {fd : FuncData} {ps : List Str} (F : FunD K name qual params body scope [] [] f fd) (hp : plainPs params = true) (hq : paramsOf params = ("self" : Str) :: ps) (nd : (("self" : Str) :: ps).Nodup) :
    ∀ n ks, kwFit ps n ks = true → KwB K fd (("self" : Str) :: ps) (n + 1) ks := by
  intro n ks hk s us ws X l1 l2
  obtain ⟨oc, od, dV, kV, doc, pm, an, cdv, ct, osl, rfl, lk, hcd, hd, _⟩ := F.ex
  have ed : dV = .none := by
    rcases hd with ⟨_, e⟩ | ⟨e, _⟩
    · exact e
    · exact absurd rfl e
  subst ed
  have hk2 : kwFit (("self" : Str) :: ps) us.length ks = true := by
    unfold kwFit at hk ⊢
    simp only [Bool.and_eq_true, decide_eq_true_eq] at hk ⊢
    obtain ⟨⟨⟨k1, k2⟩, k3⟩, k4⟩ := hk
    rw [l1]
    refine ⟨⟨⟨?_, ?_⟩, k3⟩, k4⟩
    · simp only [List.length_cons]; omega
    · simp only [List.length_cons]; omega
  have q := bind_kw (fd := PySem.W.fnOf name qual params body scope .none kV doc pm an cdv ct) (us := us) (ws := ws) (ks := ks) hp rfl (by show (paramsOf params).Nodup; rw [hq]; exact nd) (by show kwFit (paramsOf params) us.length ks = true; rw [hq]; exact hk2) l2
  have e : paramsOf (PySem.W.fnOf name qual params body scope .none kV doc pm an cdv ct).params = ("self" : Str) :: ps := hq
  rw [e] at q
  exact BindsTo.of_eq q
end CK
end

section
set_option Elab.async false
set_option linter.all false
set_option maxRecDepth 100000
set_option maxHeartbeats 8000000
/-! The tower: all defs of a program at all levels, from their bodies' readings. -/
namespace CK
open PySem PySem.Spec PyProof.Rows L2
/-! ### own exception classes, by a look at K -/
def oexObj (K : PySem.W.Frag) (C : Addr) : Bool := match K.lookup C with
  | some ⟨.type "type", _, .cls cd, sl⟩ => (match cd.mro, sl.toList with
    | .ref C' :: bm, [_, _, _, _, some (.builtin n), _] => C' == C && n == "ValueError.__new__" && !cd.hasDel && cd.hasDict && PySem.HandSPX.refsVE bm
    | _, _ => false)
  | _ => false
def oexB (K : PySem.W.Frag) (C : Addr) : Bool := oexObj K C && decide (PySem.W.findIn K (.ref C) "__setattr__" = some (some (.builtin "object.__setattr__"))) && decide (PySem.W.subIn K (.ref C) (.type "BaseException") = some true) && decide (PySem.W.typeIn K (.ref C) = some (.type "type")) && PySem.W.keepIn K (.ref C)
theorem oexObj_ok {K : PySem.W.Frag} {C : Addr} (q : oexObj K C = true) : ∃ nm qn N bs bm sn sub ab col dd k0 k1 k2 k3 k5, K.lookup C = some (excClassObj nm qn C N bs bm true sn sub ab col dd k0 k1 k2 k3 k5 "ValueError.__new__") ∧ PySem.HandSPX.refsVE bm = true := by
  unfold oexObj at q
  split at q
  · rename_i dd cd sl ho
    split at q
    · rename_i C' bm k0 k1 k2 k3 n k5 hm hs
      simp only [Bool.and_eq_true, beq_iff_eq, Bool.not_eq_true'] at q
      obtain ⟨⟨⟨⟨e1, e2⟩, e3⟩, e4⟩, e5⟩ := q
      obtain ⟨nm, bs, mro, ns, qn, hd, sn, sub, ab, col, del⟩ := cd
      dsimp only at hm e3 e4
      subst hm e3 e4 e1 e2
      obtain ⟨l⟩ := sl
      have e6 : l = [k0, k1, k2, k3, some (.builtin "ValueError.__new__"), k5] := hs
      rw [e6] at ho
      exact ⟨nm, qn, ns, bs, bm, sn, sub, ab, col, dd, k0, k1, k2, k3, k5, ho, e5⟩
    · cases q
  · cases q
theorem oexB_ok {K : PySem.W.Frag} {C : Addr} (q : oexB K C = true) : OexC K C := by
  unfold oexB at q
  simp only [Bool.and_eq_true, decide_eq_true_eq] at q
  obtain ⟨⟨⟨⟨h1, h2⟩, h3⟩, h4⟩, h5⟩ := q
  exact ⟨oexObj_ok h1, h2, h3, h4, h5⟩
def excB (K : PySem.W.Frag) (D : Addr) : Bool := decide (PySem.W.findIn K (.ref D) "__getattribute__" = some (some (.builtin "BaseException.__getattribute__"))) && decide (PySem.W.findIn K (.ref D) "__getattr__" = some none) && decide (PySem.W.subIn K (.ref D) (.type "BaseException") = some true) && PySem.W.hasDictIn K D &&
  decide (PySem.W.findIn K (.ref D) "__class__" = some (some (.builtin "object.__class__"))) && decide (PySem.W.specialIn K (.builtin "object.__class__") "__get__" = some (some (.builtin "getset_descriptor.__get__"))) && decide (PySem.W.takesIn K (.builtin "object.__class__") = some true) && decide (PySem.W.mroIn K D (.type "object") = some true)
theorem excB_ok {K : PySem.W.Frag} {D : Addr} (q : excB K D = true) : ExcC K D := by
  unfold excB at q
  simp only [Bool.and_eq_true, decide_eq_true_eq] at q
  obtain ⟨⟨⟨⟨⟨⟨⟨h1, h2⟩, h3⟩, h4⟩, h5⟩, h6⟩, h7⟩, h8⟩ := q
  exact ⟨h1, h2, h3, h4, h5, h6, h7, h8⟩
/-! ### the tower -/
structure Tw where
  fn : List He.DefD
  fi : List He.DefD
  own : List Str
  bare : List Str
  bcls : List Str
  tabs : List Str
def cntP (d : He.DefD) : Nat := (paramsOf d.params).length
def Tw.P (t : Tw) : Pn := ⟨t.fn.map fun d => (d.name, cntP d), t.own, t.fi.map fun d => (d.at_.1, (paramsOf d.params).tail), t.bare, t.bcls, t.tabs⟩
/-- for the __init__s: no def, no class -/
def P00 : Pn := ⟨[], [], [], [], [], []⟩
/-- what the texts have to be -/
def defB (d : He.DefD) : Bool := decide (d.qual = d.name) && decide (d.at_ = (d.name, none)) && d.dfl.isEmpty && d.kwd.isEmpty && plainPs d.params && scopeB (namesOf d) (paramsOf d.params) d.scope && decide (paramsOf d.params).Nodup
def iniB (d : He.DefD) : Bool := decide (d.at_.2 = some "__init__") && d.dfl.isEmpty && d.kwd.isEmpty && plainPs d.params && scopeB (namesOf d) (paramsOf d.params) d.scope && decide (paramsOf d.params).Nodup && decide ((paramsOf d.params).head? = some "self")
def Tw.textB (t : Tw) : Bool := t.fn.all defB && t.fi.all iniB
/-- what K has to hold -/
def Tw.facts (t : Tw) : List He.Fa := (t.fn.map fun d => He.Fa.glo d.name) ++ (t.own.map He.Fa.glo) ++ (t.bare.map He.Fa.glo) ++ ((t.fi.map fun d => He.Fa.glo d.at_.1)) ++ (t.bcls.map He.Fa.free) ++ (Bi.every.map fun b => He.Fa.free b.name) ++ [He.Fa.free "isinstance"]
def iniK (K : PySem.W.Frag) (d : He.DefD) : Bool := oexB K (He.ga K d.at_.1) && decide (PySem.W.findIn K (.ref (He.ga K d.at_.1)) "__init__" = some (some (.ref (He.fAd K d.at_)))) && decide (PySem.W.typeIn K (.ref (He.fAd K d.at_)) = some (.type "function"))
def bareK (K : PySem.W.Frag) (c : Str) : Bool := PySem.W.excIn K (He.ga K c) [.type "ValueError", .type "Exception", .type "BaseException", .type "object"] "ValueError.__new__" && PySem.W.keepIn K (.ref (He.ga K c))
/-- the tables' addresses, each with its lambdas' name -/
def Tw.T (t : Tw) (K : PySem.W.Frag) : List (Addr × Str) := t.tabs.map fun x => ((He.cT K (x, none)).2, lamQ x)
def Tw.exK (t : Tw) (K : PySem.W.Frag) : Bool := t.fi.all (iniK K) && t.bare.all (bareK K) && decide (t.T K).unzip.1.Nodup
structure Tk (t : Tw) (Pg : Program) (w : World) (K : PySem.W.Frag) (mg : Str → Option Value) (base : Heap) : Prop where
  text : t.textB = true
  fa : ∀ f ∈ t.facts, f.ok K = true
  fd : ∀ d ∈ t.fn ++ t.fi, ∃ fd, FunD K d.name d.qual d.params d.body d.scope (d.dvs K) (d.kws K) (He.fAd K d.at_) fd
  ex : t.exK K = true
  KX : K.In base
  G : base.Ns mainGlobals mg
  TB : ∀ x ∈ t.tabs, LamX.TabB base mg (He.cT K (x, none)).1 (He.cT K (x, none)).2
/-- the promises, by levels -/
structure Ps (t : Tw) (K : PySem.W.Frag) where
  Γ : Nat → Str → Sp
  Γi : Str → Sp
  ty : Hp → V → Value → Prop
def Ps.D {t : Tw} {K : PySem.W.Frag} (p : Ps t K) : Nat → Dm
  | 0 => { P := t.P, K := K, Γ := p.Γ 0, Γi := p.Γi, ty := p.ty, own := t.own, Λ := fun _ _ _ _ _ => False, T := t.T K }
  | n + 1 => { P := t.P, K := K, Γ := p.Γ (n + 1), Γi := p.Γi, ty := p.ty, own := t.own, Λ := ΛR (p.D n), T := t.T K }
section
variable {t : Tw} {K : PySem.W.Frag} {p : Ps t K}
theorem Ps.DP : ∀ n, (p.D n).P = t.P
  | 0 => rfl
  | _ + 1 => rfl
theorem Ps.DK : ∀ n, (p.D n).K = K
  | 0 => rfl
  | _ + 1 => rfl
theorem Ps.DΓ : ∀ n, (p.D n).Γ = p.Γ n
  | 0 => rfl
  | _ + 1 => rfl
theorem Ps.DΓi : ∀ n, (p.D n).Γi = p.Γi
  | 0 => rfl
  | _ + 1 => rfl
theorem Ps.Dty : ∀ n, (p.D n).ty = p.ty
  | 0 => rfl
  | _ + 1 => rfl
theorem Ps.Down : ∀ n, (p.D n).own = t.own
  | 0 => rfl
  | _ + 1 => rfl
theorem Ps.DT : ∀ n, (p.D n).T = t.T K
  | 0 => rfl
  | _ + 1 => rfl
theorem Ps.DΛ (n : Nat) : (p.D (n + 1)).Λ = ΛR (p.D n) := rfl
end
/-- the domain of the __init__s' bodies -/
def D00 (K : PySem.W.Frag) : Dm := { P := P00, K := K, Γ := fun _ _ _ _ _ => False, Γi := fun _ _ _ _ _ => False, ty := fun _ _ _ => False, own := [], Λ := fun _ _ _ _ _ => False, T := [] }
/-- what has to be shown -/
structure Ok (t : Tw) (K : PySem.W.Frag) (p : Ps t K) : Prop where
  zero : ∀ f vs H Q E, p.Γ 0 f vs H Q E → False
  len : ∀ n, ∀ d ∈ t.fn, ∀ vs H Q E, p.Γ n d.name vs H Q E → vs.length = (paramsOf d.params).length
  leni : ∀ d ∈ t.fi, ∀ vs H Q E, p.Γi d.at_.1 vs H Q E → vs.length = (paramsOf d.params).length
  keep : ∀ n, ∀ d ∈ t.fn, Keeps (p.D n) t.P d (p.Γ (n + 1) d.name)
  keepi : ∀ d ∈ t.fi, Keeps (D00 K) P00 d (p.Γi d.at_.1)
  ty : ∀ (X : Cx), X.K = K → ∀ {pins : List (Addr × Obj)} {σ : L2.St} {H : Hp} {s : Shared} {x : V} {u t : Value}, Inv X pins σ H s → RelV x u → p.ty H x t → ∃ q : Heap → Prop, PySem.W.KitX X.K u t q ∧ q s.heap ∧ u ≠ .builtin "__main__.__loader__#opaque"
section
variable {t : Tw} {Pg : Program} {w : World} {K : PySem.W.Frag} {mg : Str → Option Value} {base : Heap} {p : Ps t K}
theorem FnOk.dead {CX : CXT} {k : Nat} {f : Addr} {fd : FuncData} {ps : List Str} {sp : Sp} (h : ∀ vs H Q E, sp vs H Q E → False) : FnOk Pg w K mg base CX k f fd ps sp :=
  ⟨fun vs H Q E z => (h _ _ _ _ z).elim, fun _ _ _ _ _ _ _ _ _ _ _ _ _ z => (h _ _ _ _ z).elim⟩
theorem Tk.glo (k : Tk t Pg w K mg base) {x : Str} (h : He.Fa.glo x ∈ t.facts) : mg x = some (.ref (He.ga K x)) := He.glo_ok k.KX k.G (k.fa _ h)
theorem Tk.free (k : Tk t Pg w K mg base) {x : Str} (h : He.Fa.free x ∈ t.facts) : mg x = none := He.free_ok k.KX k.G (k.fa _ h)
theorem gd00 (k : Tk t Pg w K mg base) : Gd (D00 K) P00 Pg w mg base 0 where
  fn := fun f n h => by cases h
  bi := fun b => k.free (by unfold Tw.facts; simp only [List.mem_append, List.mem_map]; exact .inl (.inr ⟨b, by cases b <;> decide, rfl⟩))
  isi := k.free (by unfold Tw.facts; simp)
  own := rfl
  cls := fun c h => by cases h
  bcl := fun c h => by cases h
  pn := rfl
  ini := fun c ps h => by cases h
  bare := fun c h => by cases h
  lam := ⟨fun _ _ _ _ _ _ _ _ _ _ _ _ _ _ _ _ z => z.elim⟩
  ty := fun _ _ _ _ _ _ _ _ _ _ _ _ _ z => z.elim
theorem mem_look {α β : Type} [BEq α] [LawfulBEq α] {a : α} {b : β} : ∀ {l : List (α × β)}, l.lookup a = some b → (a, b) ∈ l
  | [], h => by cases h
  | (k, v) :: l, h => by
    rw [List.lookup_cons] at h
    cases e : (a == k) with
    | true =>
      rw [e] at h
      have z : v = b := Option.some.inj h
      rw [← z, eq_of_beq e]
      exact List.mem_cons_self
    | false =>
      rw [e] at h
      exact List.mem_cons_of_mem _ (mem_look h)
theorem nodup_uniq {α β : Type} {l : List (α × β)} (h : l.unzip.1.Nodup) {a : α} {b c : β} (h1 : (a, b) ∈ l) (h2 : (a, c) ∈ l) : b = c := by
  induction l with
  | nil => cases h1
  | cons q l ih =>
    rw [List.unzip_cons] at h
    have nd := List.nodup_cons.mp h
    have mm : ∀ {x : α} {y : β}, (x, y) ∈ l → x ∈ l.unzip.1 := fun {x y} hm => by
      rw [List.unzip_eq_map]
      exact List.mem_map.mpr ⟨_, hm, rfl⟩
    rcases List.mem_cons.mp h1 with e1 | h1 <;> rcases List.mem_cons.mp h2 with e2 | h2
    · exact (Prod.mk.inj (e1.trans e2.symm)).2
    · rw [← e1] at nd
      exact absurd (mm h2) nd.1
    · rw [← e2] at nd
      exact absurd (mm h1) nd.1
    · exact ih nd.2 h1 h2
theorem Tk.tab (k : Tk t Pg w K mg base) {d : He.DefD} (hd : defB d = true) {fd : FuncData} (F : FunD K d.name d.qual d.params d.body d.scope [] [] (He.fAd K d.at_) fd) : TabOk (t.T K) t.P mg base d.qual fd := by
  intro ht
  unfold defB at hd
  simp only [Bool.and_eq_true, decide_eq_true_eq] at hd
  obtain ⟨⟨⟨⟨⟨⟨q1, q2⟩, _⟩, _⟩, _⟩, _⟩, _⟩ := hd
  have ht : d.qual ∈ t.tabs := ht
  obtain ⟨oc, od, dV, kV, doc, pm, an, cdv, ct, osl, rfl, lk, hcd, _, _⟩ := F.ex
  obtain ⟨c, rfl⟩ := He.codeIn_ref hcd
  have e : He.codeOf K (d.name, none) = c := by
    rw [← q2]
    exact He.codeOf_eq lk rfl
  have m : ((He.cT K (d.qual, none)).2, lamQ d.qual) ∈ t.T K := List.mem_map.mpr ⟨_, ht, rfl⟩
  have nd : (t.T K).unzip.1.Nodup := by
    have z := k.ex
    unfold Tw.exK at z
    simp only [Bool.and_eq_true, decide_eq_true_eq] at z
    exact z.2
  have TB := k.TB _ ht
  have e1 : (He.cT K (d.qual, none)).1 = c := by rw [q1]; exact e
  rw [e1] at TB
  exact ⟨c, _, rfl, TB, m, fun x hx e => nodup_uniq nd (a := (He.cT K (d.qual, none)).2) (by rw [← e]; exact hx) m⟩
theorem Tk.def (k : Tk t Pg w K mg base) {d : He.DefD} (h : d ∈ t.fn) : defB d = true ∧ ∃ fd, FunD K d.name d.qual d.params d.body d.scope [] [] (He.ga K d.name) fd ∧ TabOk (t.T K) t.P mg base d.qual fd := by
  have q := k.text
  unfold Tw.textB at q
  rw [Bool.and_eq_true] at q
  have hb := List.all_eq_true.mp q.1 d h
  obtain ⟨fd, F⟩ := k.fd d (List.mem_append_left _ h)
  have hb' := hb
  unfold defB at hb'
  simp only [Bool.and_eq_true, decide_eq_true_eq, List.isEmpty_iff] at hb'
  obtain ⟨⟨⟨⟨⟨⟨q1, q2⟩, q3⟩, q4⟩, _⟩, _⟩, _⟩ := hb'
  have e1 : d.dvs K = [] := by unfold He.DefD.dvs; rw [q3]; rfl
  have e2 : d.kws K = [] := by unfold He.DefD.kws; rw [q4]; rfl
  rw [e1, e2] at F
  have T := k.tab hb F
  rw [q2] at F
  exact ⟨hb, fd, F, T⟩
/-- THE TOWER -/
theorem tower (k : Tk t Pg w K mg base) (o : Ok t K p) : ∀ n, Gd (p.D n) t.P Pg w mg base (n + 2) ∧ ∀ d ∈ t.fn, ∃ fd, FunD K d.name d.qual d.params d.body d.scope [] [] (He.ga K d.name) fd ∧ FnOk Pg w K mg base (L2.CX Pg w) (n + 2) (He.ga K d.name) fd (paramsOf d.params) (p.Γ n d.name) := by
  have ini : ∀ d ∈ t.fi, ∃ fd, ExK K (He.ga K d.at_.1) (He.fAd K d.at_) ∧ FnOk Pg w K mg base (L2.CX Pg w) 1 (He.fAd K d.at_) fd (paramsOf d.params) (p.Γi d.at_.1) ∧ paramsOf d.params = ("self" : Str) :: (paramsOf d.params).tail ∧ ∀ n ks, kwFit (paramsOf d.params).tail n ks = true → KwB K fd (("self" : Str) :: (paramsOf d.params).tail) (n + 1) ks := by
    intro d hd
    have q := k.text
    unfold Tw.textB at q
    rw [Bool.and_eq_true] at q
    have hb := List.all_eq_true.mp q.2 d hd
    unfold iniB at hb
    simp only [Bool.and_eq_true, decide_eq_true_eq, List.isEmpty_iff] at hb
    obtain ⟨⟨⟨⟨⟨⟨q1, q2⟩, q3⟩, q4⟩, q5⟩, q6⟩, q7⟩ := hb
    obtain ⟨fd, F⟩ := k.fd d (List.mem_append_right _ hd)
    have e1 : d.dvs K = [] := by unfold He.DefD.dvs; rw [q2]; rfl
    have e2 : d.kws K = [] := by unfold He.DefD.kws; rw [q3]; rfl
    rw [e1, e2] at F
    have z := k.ex
    unfold Tw.exK at z
    simp only [Bool.and_eq_true, decide_eq_true_eq] at z
    have zi := List.all_eq_true.mp z.1.1 d hd
    unfold iniK at zi
    simp only [Bool.and_eq_true, decide_eq_true_eq] at zi
    have hps : paramsOf d.params = ("self" : Str) :: (paramsOf d.params).tail := by
      cases e : paramsOf d.params with
      | nil => rw [e] at q7; cases q7
      | cons a l => rw [e] at q7; rw [Option.some.inj q7]; rfl
    have nd := q6
    rw [hps] at nd
    exact ⟨fd, ⟨oexB_ok zi.1.1, zi.1.2, zi.2⟩, def_ok (gd00 k) F (fun h => by cases h) q5 (o.leni d hd) (o.keepi d hd), hps, init_kwb F q4 hps nd⟩
  have gd : ∀ n, (∀ d ∈ t.fn, ∃ fd, FunD K d.name d.qual d.params d.body d.scope [] [] (He.ga K d.name) fd ∧ FnOk Pg w K mg base (L2.CX Pg w) (n + 2) (He.ga K d.name) fd (paramsOf d.params) (p.Γ n d.name)) → LamOk t.P Pg w K mg base (n + 2) (p.D n).Λ → Gd (p.D n) t.P Pg w mg base (n + 2) := by
    intro n hf hl
    refine { fn := ?_, bi := (gd00 k).bi, isi := (gd00 k).isi, own := Ps.Down n, cls := ?_, bcl := ?_, pn := Ps.DP n, ini := ?_, bare := ?_, lam := ?_, ty := ?_ }
    · intro f m hm
      rw [Ps.DK, Ps.DΓ]
      obtain ⟨d, hd, e⟩ := List.mem_map.mp (mem_look hm)
      obtain ⟨e1, e2⟩ := Prod.mk.inj e
      subst e1
      obtain ⟨hb, fd0, F0, _⟩ := k.def hd
      obtain ⟨fd, F, FO⟩ := hf d hd
      unfold defB at hb
      simp only [Bool.and_eq_true, decide_eq_true_eq] at hb
      obtain ⟨⟨⟨⟨⟨⟨q1, q2⟩, q3⟩, q4⟩, q5⟩, q6⟩, q7⟩ := hb
      refine ⟨fd, _, FO, k.glo (by unfold Tw.facts; simp only [List.mem_append, List.mem_map]; exact .inl (.inl (.inl (.inl (.inl (.inl ⟨d, hd, rfl⟩)))))), F.kp, Binds.all fun us hl => ?_, e2⟩
      obtain ⟨oc, od, dV, kV, doc, pm, an, cdv, ct, osl, rfl, lk, hcd, hdv, _⟩ := F.ex
      have ed : dV = .none := by
        rcases hdv with ⟨_, e⟩ | ⟨e, _⟩
        · exact e
        · exact absurd rfl e
      subst ed
      exact bind_pos (fd := PySem.W.fnOf d.name d.qual d.params d.body d.scope .none kV doc pm an cdv ct) q5 rfl q7 hl
    · intro c hc
      rw [Ps.DK]
      exact k.glo (by unfold Tw.facts; simp only [List.mem_append, List.mem_map]; exact .inl (.inl (.inl (.inl (.inl (.inr ⟨c, hc, rfl⟩))))))
    · intro c hc _
      exact k.free (by unfold Tw.facts; simp only [List.mem_append, List.mem_map]; exact .inl (.inl (.inr ⟨c, hc, rfl⟩)))
    · intro c ps hp
      rw [Ps.DK, Ps.DΓi]
      obtain ⟨d, hd, e⟩ := List.mem_map.mp (mem_look hp)
      obtain ⟨e1, e2⟩ := Prod.mk.inj e
      subst e1 e2
      obtain ⟨fd, T, F, hps, hb⟩ := ini d hd
      rw [hps] at F
      exact ⟨_, fd, 1, by omega, T, F, k.glo (by unfold Tw.facts; simp only [List.mem_append, List.mem_map]; exact .inl (.inl (.inl (.inr ⟨d, hd, rfl⟩)))), hb⟩
    · intro c hc
      rw [Ps.DK]
      have z := k.ex
      unfold Tw.exK at z
      simp only [Bool.and_eq_true, decide_eq_true_eq] at z
      have zb := List.all_eq_true.mp z.1.2 c hc
      unfold bareK at zb
      rw [Bool.and_eq_true] at zb
      exact ⟨zb.1, k.glo (by unfold Tw.facts; simp only [List.mem_append, List.mem_map]; exact .inl (.inl (.inl (.inl (.inr ⟨c, hc, rfl⟩))))), zb.2⟩
    · rw [Ps.DK]
      exact hl
    · intro X _ _ hK pins σ H s x u tt I r h
      rw [Ps.Dty] at h
      rw [Ps.DK] at hK
      exact o.ty X hK I r h
  intro n
  induction n with
  | zero =>
    have hf : ∀ d ∈ t.fn, ∃ fd, FunD K d.name d.qual d.params d.body d.scope [] [] (He.ga K d.name) fd ∧ FnOk Pg w K mg base (L2.CX Pg w) (0 + 2) (He.ga K d.name) fd (paramsOf d.params) (p.Γ 0 d.name) := fun d hd => by
      obtain ⟨_, fd, F, _⟩ := k.def hd
      exact ⟨fd, F, FnOk.dead (o.zero d.name)⟩
    exact ⟨gd 0 hf ⟨fun _ _ _ _ _ _ _ _ _ _ _ _ _ _ _ _ z => z.elim⟩, hf⟩
  | succ n ih =>
    obtain ⟨G, _⟩ := ih
    have hf : ∀ d ∈ t.fn, ∃ fd, FunD K d.name d.qual d.params d.body d.scope [] [] (He.ga K d.name) fd ∧ FnOk Pg w K mg base (L2.CX Pg w) (n + 1 + 2) (He.ga K d.name) fd (paramsOf d.params) (p.Γ (n + 1) d.name) := fun d hd => by
      obtain ⟨hb, fd, F, T⟩ := k.def hd
      have hs : scopeB (namesOf d) (paramsOf d.params) d.scope = true := by
        unfold defB at hb
        simp only [Bool.and_eq_true, decide_eq_true_eq] at hb
        exact hb.1.2
      have q := def_ok (d := d) (f := He.ga K d.name) (sp := p.Γ (n + 1) d.name) G (by rw [Ps.DK]; exact F) (by rw [Ps.DT]; exact T) hs (o.len (n + 1) d hd) (o.keep n d hd)
      rw [Ps.DK] at q
      exact ⟨fd, F, q⟩
    have hl : LamOk t.P Pg w K mg base (n + 1 + 2) (p.D (n + 1)).Λ := by
      have q := lam_ok G
      rw [Ps.DK] at q
      exact q
    exact ⟨gd (n + 1) hf hl, hf⟩
end
end CK
end

section
set_option Elab.async false
set_option linter.all false
set_option maxRecDepth 100000
set_option maxHeartbeats 4000000
/-! A hook that looks at a short part of the heap: the module's names, its functions' code objects, its classes' names and methods. -/
namespace CK
open PySem PySem.Spec PyProof.Rows L2
def adFn (g : Addr → Option Obj) (a : Addr) : List Addr := match g a with
  | some ⟨_, _, .func fd, _⟩ => a :: He.refV fd.code
  | _ => []
def adOne (g : Addr → Option Obj) (a : Addr) : List Addr := match g a with
  | some ⟨_, _, .func fd, _⟩ => a :: He.refV fd.code
  | some ⟨_, _, .cls cd, _⟩ => a :: cd.ns :: (match g cd.ns with
    | some ⟨_, _, .dict es _, _⟩ => es.toList.flatMap fun e => (He.refV e.val).flatMap (adFn g)
    | _ => [])
  | _ => []
def adY (g : Addr → Option Obj) : List Addr := mainGlobals :: match g mainGlobals with
  | some ⟨_, _, .dict es _, _⟩ => es.toList.flatMap fun e => (He.refV e.val).flatMap (adOne g)
  | _ => []
def frY (g : Addr → Option Obj) : PySem.W.Frag := He.frT g (adY g)
abbrev AlY : Type := (Bool × List He.FnW) × Bool
def obsY (fa : List He.Fa) (fn : List He.DefD) (tf : List He.Defn) (ex : PySem.W.Frag → Bool) (g : Addr → Option Obj) : AlY := (He.obsD fa fn (frY g), ex (frY g) && He.tabsB g tf (frY g))
def valY (fn : List He.DefD) : AlY := (He.valD fn, true)
/-- what is told -/
structure SaysY (fa : List He.Fa) (fn : List He.DefD) (tf : List He.Defn) (ex : PySem.W.Frag → Bool) (h : Heap) (K : PySem.W.Frag) : Prop where
  d : He.SaysD fa fn K
  more : ex K = true
  hd : ∀ p ∈ tf, PySem.W.codeHdIn K (He.cT K p).1 (He.cT K p).2 = true
  out : ∀ p ∈ tf, K.lookup (He.cT K p).2 = none
  empty : ∀ p ∈ tf, h.get? (He.cT K p).2 = some { cls := .none, data := .fields #[] }
theorem saysY_of {fa : List He.Fa} {fn : List He.DefD} {tf : List He.Defn} {ex : PySem.W.Frag → Bool} {h : Heap} (e : obsY fa fn tf ex h.get? = valY fn) : SaysY fa fn tf ex h (frY h.get?) := by
  obtain ⟨e1, e2⟩ := Prod.mk.inj e
  rw [Bool.and_eq_true] at e2
  have key : ∀ p ∈ tf, PySem.W.codeHdIn (frY h.get?) (He.cT (frY h.get?) p).1 (He.cT (frY h.get?) p).2 = true ∧ ∃ o, h.get? (He.cT (frY h.get?) p).2 = some o ∧ He.emptyTab o = true := by
    intro p hp
    have z := List.all_eq_true.mp e2.2 p hp
    rw [Bool.and_eq_true] at z
    refine ⟨z.1, ?_⟩
    have y := z.2
    cases q : h.get? (He.cT (frY h.get?) p).2 with
    | none => rw [q] at y; cases y
    | some o => rw [q] at y; exact ⟨o, rfl, y⟩
  refine ⟨e1, e2.1, fun p hp => (key p hp).1, fun p hp => ?_, fun p hp => ?_⟩
  · obtain ⟨_, o, q, z⟩ := key p hp
    exact He.frT_none q z
  · obtain ⟨_, o, q, z⟩ := key p hp
    rw [q, He.emptyTab_eq z]
def hookY (fa : List He.Fa) (fn : List He.DefD) (tf : List He.Defn) (ex : PySem.W.Frag → Bool) : PySem.W.Hook where
  α := AlY
  obs := fun s => obsY fa fn tf ex s.heap.get?
  val := fun _ => valY fn
  says := fun _ h => ∃ K : PySem.W.Frag, K.In h ∧ SaysY fa fn tf ex h K
  of := fun _ _ e => ⟨_, He.frT_in, saysY_of e⟩
  keeps := fun _ _ _ ⟨K, hK, c⟩ k => ⟨K, PySem.W.Frag.In.keeps hK k, ⟨c.d, c.more, c.hd, c.out, fun p hp => k _ _ (c.empty p hp)⟩⟩
theorem obsY_eq {fa : List He.Fa} {fn : List He.DefD} {tf : List He.Defn} {ex : PySem.W.Frag → Bool} {g : Addr → Option Obj} {s : Shared} (h : ∀ a, g a = s.heap.get? a) : obsY fa fn tf ex g = (hookY fa fn tf ex).obs s := by
  have e : g = s.heap.get? := funext h
  rw [e] <;> rfl
/-- the parts of what is told, each looked at by a run of its own -/
theorem obsY_parts {fa : List He.Fa} {fn : List He.DefD} {tf : List He.Defn} {ex : PySem.W.Frag → Bool} {g : Addr → Option Obj} (h1 : (fa.all fun f => f.ok (frY g)) = true) (h2 : (fn.all fun d => d.ok (frY g)) = true) (h3 : (fn.map fun d => He.fnW (frY g) d.at_) = fn.map He.DefD.val) (h4 : ex (frY g) = true) (h5 : He.tabsB g tf (frY g) = true) :
    obsY fa fn tf ex g = valY fn := by
  show (((fa.all fun f => f.ok (frY g)) && fn.all fun d => d.ok (frY g), fn.map fun d => He.fnW (frY g) d.at_), ex (frY g) && He.tabsB g tf (frY g)) = ((true, fn.map He.DefD.val), true)
  rw [h1, h2, h3, h4, h5]
  rfl
theorem of_map {α β : Type} {o : Option α} {f : α → β} {b : β} {s : α} (h : o.map f = some b) (e : o = some s) : f s = b := by
  subst e
  exact Option.some.inj h
/-! ### the end -/
open LamX in
/-- the law's end with tables, K told by the hook -/
theorem walk_ofTE {l : PySem.W.OpenLaw} {n k : Nat} {q : Program} {loose : List Str} {XP : (Str → Option Value) → Heap → Prop} {YP : World → Heap → Prop} {d : DefRec} {CX : World → CXT} {x : Str}
    (hn : l.most = some n) (hn2 : n ≤ sizeLine) (hdf : d.params.defaults = []) (hr : Room k callerA)
    (F : ∀ (w : World) (mg : Str → Option Value) (fa : Addr) (h : Heap), YP w h → h.Ns mainGlobals mg → mg d.name = some (.ref fa) → ∃ K : PySem.W.Frag, K.In h ∧ LawAtS l w K (CX w) k n x mg fa h)
    (hCX : ∀ (w : World) (H : Hp) (s : Shared) (e : Value) (s' : Shared), CX w [] H s (fun _ _ _ => False) e s' → False) :
    PySem.W.WalkO q loose XP YP l.row.toRowW d [] (fun f vs => PySem.call f vs) := by
  refine Att.attach_callB hn hdf fun w s₀ s₁ mg mb fa o pm cd doc a vs ns G Y ho hd hcd hmg hobj hints hlen hbits hg => ?_
  obtain ⟨K, KX, fd, cs, sp, hT, nT, C, hb, hsp, hF⟩ := F w mg fa _ Y G.T.g hmg
  exact law_callTs KX G.T.g G.T.b G.T.builtins G.T.nolimit hg hT nT C G.T.bmain hobj hints (Nat.le_trans hlen hn2) hr hF hb (fun H hH hS => hsp H a ns hlen hbits hH hS) fun H e s' => hCX w H s₁ e s'
end CK
end

section
set_option Elab.async false
set_option linter.all false
set_option maxRecDepth 100000
set_option maxHeartbeats 4000000
/-! Rules for readings. -/
namespace CK
open PySem PySem.Spec PyProof.Rows L2
section
variable {K : PySem.W.Frag} {H H' : Hp} {Q : VK} {p q : Addr} {i j : Int} {v x y : V} {xs ys zs : List V} {s t : Str} {b c : Bool}
theorem SqL.at (h : H p = some (.lst xs)) : SqL K H p xs := .inl (.inl h)
theorem SqT.at (h : H p = some (.tup xs)) : SqT K H p xs := .inl (.inl h)
theorem r_ix (h : H p = some (.lst xs)) (e : atI xs i = some v) (r : Q v H) : rIx K (.ref p) (.int i) H Q := .inl ⟨p, xs, i, v, rfl, rfl, SqL.at h, e, r⟩
theorem r_ixL (h : SqL K H p xs) (e : atI xs i = some v) (r : Q v H) : rIx K (.ref p) (.int i) H Q := .inl ⟨p, xs, i, v, rfl, rfl, h, e, r⟩
theorem r_ixT (h : SqT K H p xs) (e : atI xs i = some v) (r : Q v H) : rIx K (.ref p) (.int i) H Q := .inr (.inl ⟨p, xs, i, v, rfl, rfl, h, e, r⟩)
theorem r_ixS {k : Nat} (z : s.length ≤ sizeLine) (e : atI s.cps.toList i = some k) (r : Q (.str ⟨#[k]⟩) H) : rIx K (.str s) (.int i) H Q := .inr (.inr ⟨s, i, k, rfl, rfl, z, e, r⟩)
theorem r_add (r : Q (.int (i + j)) H) : rBin K .Add (.int i) (.int j) H Q := .inl ⟨i, j, rfl, rfl, r⟩
theorem r_addS (z : s.length + t.length ≤ sizeLine) (r : Q (.str (s ++ t)) H) : rBin K .Add (.str s) (.str t) H Q := .inr (.inl ⟨s, t, rfl, rfl, z, r⟩)
theorem r_cat (h : H p = some (.lst xs)) (h2 : H q = some (.lst ys)) (z : xs.length + ys.length ≤ sizeLine) (r : ∀ a, H a = none → Q (.ref a) (upd H a (.lst (xs ++ ys)))) : rBin K .Add (.ref p) (.ref q) H Q := .inr (.inr (.inl ⟨p, q, xs, ys, rfl, rfl, h, h2, z, r⟩))
theorem r_sub (r : Q (.int (i - j)) H) : rBin K .Sub (.int i) (.int j) H Q := ⟨i, j, rfl, rfl, r⟩
theorem r_mul (h : CMul i j) (r : Q (.int (i * j)) H) : rBin K .Mult (.int i) (.int j) H Q := .inl ⟨i, j, rfl, rfl, h, r⟩
theorem r_fdiv (h : CDivN i j) (r : Q (.int (i.fdiv j)) H) : rBin K .FloorDiv (.int i) (.int j) H Q := ⟨i, j, rfl, rfl, h, r⟩
theorem r_mod (h : j ≠ 0) (r : Q (.int (i.fmod j)) H) : rBin K .Mod (.int i) (.int j) H Q := ⟨i, j, rfl, rfl, h, r⟩
theorem r_pow (h : CPow i j) (r : Q (.int (i ^ j.toNat)) H) : rBin K .Pow (.int i) (.int j) H Q := ⟨i, j, rfl, rfl, h, r⟩
theorem r_eq (h : scal x y = true) (r : Q (.bl (decide (x = y))) H) : rCmp K .Eq x y H Q := .inl ⟨h, r⟩
theorem r_ne (h : scal x y = true) (r : Q (.bl (!decide (x = y))) H) : rCmp K .NotEq x y H Q := .inl ⟨h, r⟩
theorem r_eqI (r : Q (.bl (decide (i = j))) H) : rCmp K .Eq (.int i) (.int j) H Q := .inl ⟨rfl, by
  have e : decide (V.int i = V.int j) = decide (i = j) := by simp
  rw [e]; exact r⟩
theorem r_eqS (r : Q (.bl (decide (s = t))) H) : rCmp K .Eq (.str s) (.str t) H Q := .inl ⟨rfl, by
  have e : decide (V.str s = V.str t) = decide (s = t) := by simp
  rw [e]; exact r⟩
theorem r_neS (r : Q (.bl (!decide (s = t))) H) : rCmp K .NotEq (.str s) (.str t) H Q := .inl ⟨rfl, by
  have e : decide (V.str s = V.str t) = decide (s = t) := by simp
  rw [e]; exact r⟩
theorem r_neI (r : Q (.bl (!decide (i = j))) H) : rCmp K .NotEq (.int i) (.int j) H Q := .inl ⟨rfl, by
  have e : decide (V.int i = V.int j) = decide (i = j) := by simp
  rw [e]; exact r⟩
theorem r_eqB (r : Q (.bl (decide (b = c))) H) : rCmp K .Eq (.bl b) (.bl c) H Q := .inl ⟨rfl, by
  have e : decide (V.bl b = V.bl c) = decide (b = c) := by simp
  rw [e]; exact r⟩
theorem r_neB (r : Q (.bl (!decide (b = c))) H) : rCmp K .NotEq (.bl b) (.bl c) H Q := .inl ⟨rfl, by
  have e : decide (V.bl b = V.bl c) = decide (b = c) := by simp
  rw [e]; exact r⟩
theorem r_lt (r : Q (.bl (decide (i < j))) H) : rCmp K .Lt (.int i) (.int j) H Q := .inl ⟨i, j, rfl, rfl, r⟩
theorem r_le (r : Q (.bl (decide (i ≤ j))) H) : rCmp K .LtE (.int i) (.int j) H Q := ⟨i, j, rfl, rfl, r⟩
theorem r_gt (r : Q (.bl (decide (j < i))) H) : rCmp K .Gt (.int i) (.int j) H Q := ⟨i, j, rfl, rfl, r⟩
theorem r_ge (r : Q (.bl (decide (j ≤ i))) H) : rCmp K .GtE (.int i) (.int j) H Q := ⟨i, j, rfl, rfl, r⟩
theorem r_is (r : Q (.bl (decide (x = .non))) H) : rCmp K .Is x .non H Q := ⟨rfl, r⟩
theorem r_isn (r : Q (.bl (!decide (x = .non))) H) : rCmp K .IsNot x .non H Q := ⟨rfl, r⟩
theorem r_set {Q : Hp → Prop} {k : Nat} (h : H p = some (.lst xs)) (e : ixN xs.length i = some k) (r : Q (upd H p (.lst (xs.set k v)))) : rSetL (.ref p) (.int i) v H Q := ⟨p, xs, i, k, rfl, rfl, h, e, r⟩
theorem r_len (h : H p = some (.lst xs)) (r : Q (.int xs.length) H) : rBi K .len [.ref p] H Q := ⟨_, xs.length, rfl, .inl ⟨xs, SqL.at h, rfl⟩, r⟩
theorem r_lenL (h : SqL K H p xs) (r : Q (.int xs.length) H) : rBi K .len [.ref p] H Q := ⟨_, xs.length, rfl, .inl ⟨xs, h, rfl⟩, r⟩
theorem r_lenT (h : SqT K H p xs) (r : Q (.int xs.length) H) : rBi K .len [.ref p] H Q := ⟨_, xs.length, rfl, .inr ⟨xs, h, rfl⟩, r⟩
theorem r_int (r : Q (.int i) H) : rBi K .int [.int i] H Q := .inl ⟨i, rfl, r⟩
theorem r_list (h : SqL K H p xs) (r : ∀ l, H l = none → Q (.ref l) (upd H l (.lst xs))) : rBi K .list [.ref p] H Q := ⟨p, xs, rfl, .inl h, r⟩
theorem r_listT (h : SqT K H p xs) (r : ∀ l, H l = none → Q (.ref l) (upd H l (.lst xs))) : rBi K .list [.ref p] H Q := ⟨p, xs, rfl, .inr h, r⟩
theorem r_append (h : H p = some (.lst xs)) (z : xs.length < sizeLine) (r : Q .non (upd H p (.lst (xs ++ [y])))) : rAppend (.ref p) [y] H Q := ⟨p, xs, y, rfl, rfl, h, z, r⟩
theorem r_extend (h : H p = some (.lst xs)) (h2 : H q = some (.lst ys)) (z : xs.length + ys.length ≤ sizeLine) (r : Q .non (upd H p (.lst (xs ++ ys)))) : rExtend (.ref p) [.ref q] H Q := ⟨p, q, xs, ys, rfl, rfl, h, h2, z, r⟩
theorem r_popAt {k : Nat} (h : H p = some (.lst xs)) (h1 : -(2 ^ 63) ≤ i) (h2 : i < 2 ^ 63) (e : seqIndex? i xs.length = some k) (g : xs[k]? = some v) (r : Q v (upd H p (.lst (xs.eraseIdx k)))) : rPopAt (.ref p) [.int i] H Q := ⟨p, xs, i, k, v, rfl, rfl, h, h1, h2, e, g, r⟩
theorem ty_list (h : H p = some (.lst xs)) : tyV K "list" (.ref p) H := .inl ⟨rfl, xs, SqL.at h⟩
theorem ty_listL (h : SqL K H p xs) : tyV K "list" (.ref p) H := .inl ⟨rfl, xs, h⟩
end
/-! ### lists of flat data compared -/
theorem dp_ints {K : PySem.W.Frag} {H : Hp} : ∀ ys : List Int, DpAll K H (ys.map V.int) (ys.map PyData.int)
  | [] => .nil
  | y :: ys => .cons (.int y) (dp_ints ys)
theorem lay_ints : ∀ ys : List Int, PyData.canLayAll0 (ys.map PyData.int) = true ∧ PyData.depthAll (ys.map PyData.int) = 0
  | [] => ⟨rfl, rfl⟩
  | y :: ys => by
    obtain ⟨h1, h2⟩ := lay_ints ys
    constructor
    · simp only [List.map_cons, PyData.canLayAll0, PyData.canLay0, h1, Bool.and_self]
    · simp only [List.map_cons, PyData.depthAll, PyData.depth, h2, Nat.max_self]
theorem shaped_ints (ys : List Int) : SeqAt.shaped (.list (ys.map PyData.int)) = true := by
  obtain ⟨h1, h2⟩ := lay_ints ys
  unfold SeqAt.shaped
  simp only [PyData.canLay0, h1, PyData.depth, h2, Bool.true_and]
  decide
theorem r_neNil {K : PySem.W.Frag} {H : Hp} {Q : VK} {p q : Addr} {ys : List Int} (h : H q = some (.lst (ys.map V.int))) (hp : H p = some (.lst [])) (r : Q (.bl (!ys.isEmpty)) H) : rCmp K .NotEq (.ref q) (.ref p) H Q := by
  refine .inr ⟨.list (ys.map PyData.int), .list [], .lst (SqL.at h) (dp_ints ys), .lst (SqL.at hp) .nil, shaped_ints ys, shaped_ints [], ?_⟩
  have e : PyData.eqv (.list (ys.map PyData.int)) (.list []) = ys.isEmpty := by
    cases ys <;> simp [PyData.eqv, PyData.eqvAll]
  rw [e]
  exact r
/-! ### heaps that grow -/
/-- all that is tracked stays, but at some addresses -/
def Kp (S : List Addr) (H H' : Hp) : Prop := ∀ a o, a ∉ S → H a = some o → H' a = some o
theorem Kp.refl (S : List Addr) (H : Hp) : Kp S H H := fun _ _ _ h => h
theorem Kp.trans {S : List Addr} {H H1 H2 : Hp} (h : Kp S H H1) (k : Kp S H1 H2) : Kp S H H2 := fun a o n e => k a o n (h a o n e)
theorem Kp.new {S : List Addr} {H : Hp} {p : Addr} {o : HO} (h : H p = none) : Kp S H (upd H p o) := fun a u _ e => by
  rw [upd_ne (fun z => by rw [z, h] at e; cases e)]
  exact e
theorem Kp.at {S : List Addr} {H : Hp} {p : Addr} {o : HO} (h : p ∈ S) : Kp S H (upd H p o) := fun a u n e => by
  rw [upd_ne (fun z => n (by rw [z]; exact h))]
  exact e
theorem Kp.mono {S T : List Addr} {H H' : Hp} (h : Kp S H H') (s : ∀ a ∈ S, a ∈ T) : Kp T H H' := fun a o n e => h a o (fun z => n (s a z)) e
theorem Kp.ne {H : Hp} {a b : Addr} {o : HO} (h : H a = some o) (n : H b = none) : a ≠ b := fun z => by rw [z, n] at h; cases h
end CK
end

section
set_option Elab.async false
set_option linter.all false
set_option maxRecDepth 100000
set_option maxHeartbeats 4000000
/-! The laws' common stream of draws. -/
namespace CK
open PySem PySem.Spec PyProof.Rows L2
structure Stm (H : Hp) (s q : Addr) (ys : List Int) (b c d : Int) : Prop where
  at_ : H s = some (.lst [.ref q, .int b, .int c, .int d])
  cells : H q = some (.lst (ys.map V.int))
  ne : s ≠ q
  b0 : 0 ≤ b
  c0 : 0 ≤ c
  d0 : 0 ≤ d
  d1 : d < 2147483648
  few : ys.length ≤ 100000
theorem Stm.kp {H H' : Hp} {s q : Addr} {ys : List Int} {b c d : Int} (h : Stm H s q ys b c d) (k : Kp [] H H') : Stm H' s q ys b c d := { h with at_ := k _ _ (by simp) h.at_, cells := k _ _ (by simp) h.cells }
def startIs : Is := (.ret (.lst (.cons (.bi .list (.cons (.var 0) .nil)) (.cons (.int 0) (.cons (.int 0) (.cons (.int 89) .nil))))))
def drawIs : Is := (.seq (.set (.ix (.var 0) (.int 2)) (.bin .Add (.ix (.var 0) (.int 2)) (.int 1)))
  (.seq (.whl (.and (.cmp .Eq (.ix (.var 0) (.int 1)) (.int 0)) (.cmp .NotEq (.ix (.var 0) (.int 0)) (.lst .nil))) (.seq (.set (.var 2) (.meth .pop (.ix (.var 0) (.int 0)) (.cons (.int 0) .nil)))
  (.seq (.set (.ix (.var 0) (.int 3)) (.bin .Mod (.bi .int (.cons (.bin .Add (.bin .Add (.bin .Mult (.ix (.var 0) (.int 3)) (.int 72103)) (.var 2)) (.int 43)) .nil)) (.int 2147483647)))
  (.set (.ix (.var 0) (.int 1)) (.ite (.cmp .GtE (.var 2) (.bin .Pow (.int 10) (.int 18))) (.var 2) (.int 0))))))
  (.seq (.ite (.cmp .Gt (.ix (.var 0) (.int 1)) (.int 0)) (.seq (.set (.var 3) (.bin .Mod (.bi .int (.cons (.ix (.var 0) (.int 1)) .nil)) (.var 1)))
  (.seq (.set (.ix (.var 0) (.int 1)) (.bin .FloorDiv (.ix (.var 0) (.int 1)) (.var 1)))
  (.ret (.var 3)))) .nop)
  (.seq (.set (.var 4) (.bin .Mod (.bi .int (.cons (.bin .Pow (.bin .Add (.bin .Add (.ix (.var 0) (.int 3)) (.bin .Mult (.int 9161) (.ix (.var 0) (.int 2)))) (.int 190027)) (.int 5)) .nil)) (.int 2147483629)))
  (.ret (.bin .Mod (.bin .Mod (.bi .int (.cons (.bin .Pow (.bin .Add (.bin .Add (.bin .Mult (.var 4) (.int 63029)) (.bin .Mult (.int 74017) (.ix (.var 0) (.int 2)))) (.int 61)) (.int 3)) .nil)) (.int 1000000007)) (.var 1)))))))
def spDraw : Sp := fun vs H Q _ => ∃ s n q ys b c d, vs = [.ref s, .int n] ∧ 0 < n ∧ n < 1073741824 ∧ Stm H s q ys b c d ∧ c < 1000000000000 ∧ ∀ r ys' b' d' H', 0 ≤ r → r < n → Stm H' s q ys' b' (c + 1) d' → Kp [s, q] H H' → Q (.int r) H'
section
variable {D : Dm} {W : WX}
theorem draw_ok {Q : VK} {H : Hp} {vs : List V} {E : XK} (h : spDraw vs H Q E) : rdS D W drawIs { nx := fun _ H' => Q .non H', rt := Q } (start ["stream", "many", "cell", "digit", "mixed"] vs) H := by
  obtain ⟨s, n, q, ys, b, c, d, rfl, n0, n1, S, hc, hq⟩ := h
  show rdS D W drawIs _ [some (.ref s), some (.int n), none, none, none] H
  simp only [drawIs, rdS, rd, mkE, mkB, tSeq, tAsg, gSub, gName, tOp, tVar, tC, tCons, tNil, tCB, tDrop, tRet, tIfS, tTest, tAnd, tOr, tNot, tNext, tIf, tLst, tTup, tUn, mE, tBM, tCallS, truE, Ie.any, Ie.len, List.getElem?_cons_zero, List.getElem?_cons_succ, Option.some.injEq, exists_eq_left', List.set_cons_zero, List.set_cons_succ]
  have hs := S.at_
  have hne := S.ne
  refine r_ix hs rfl (r_add (r_set hs rfl ?_))
  -- the loop
  refine ⟨fun m σ' H' => ∃ ys' b' d' x, m = ys'.length ∧ σ' = [some (V.ref s), some (.int n), x, none, none] ∧ Stm H' s q ys' b' (c + 1) d' ∧ Kp [s, q] H H', ⟨_, ys, b, d, none, rfl, rfl, { S with at_ := upd_same, cells := by rw [upd_ne (Ne.symm hne)]; exact S.cells, c0 := by have := S.c0; omega }, Kp.at (by simp)⟩, ?_⟩
  rintro m σ' H' ⟨ys', b', d', x, rfl, rfl, S', kp⟩
  have hs' := S'.at_
  have hq' := S'.cells
  have after : ∀ H', Stm H' s q ys' b' (c + 1) d' → Kp [s, q] H H' → rdS D W (.seq (.ite (.cmp .Gt (.ix (.var 0) (.int 1)) (.int 0)) (.seq (.set (.var 3) (.bin .Mod (.bi .int (.cons (.ix (.var 0) (.int 1)) .nil)) (.var 1)))
  (.seq (.set (.ix (.var 0) (.int 1)) (.bin .FloorDiv (.ix (.var 0) (.int 1)) (.var 1)))
  (.ret (.var 3)))) .nop)
  (.seq (.set (.var 4) (.bin .Mod (.bi .int (.cons (.bin .Pow (.bin .Add (.bin .Add (.ix (.var 0) (.int 3)) (.bin .Mult (.int 9161) (.ix (.var 0) (.int 2)))) (.int 190027)) (.int 5)) .nil)) (.int 2147483629)))
  (.ret (.bin .Mod (.bin .Mod (.bi .int (.cons (.bin .Pow (.bin .Add (.bin .Add (.bin .Mult (.var 4) (.int 63029)) (.bin .Mult (.int 74017) (.ix (.var 0) (.int 2)))) (.int 61)) (.int 3)) .nil)) (.int 1000000007)) (.var 1))))) { nx := fun _ H' => Q .non H', rt := Q } [some (V.ref s), some (.int n), x, none, none] H' := by
    intro H' S' kp
    have hs' := S'.at_
    have hq' := S'.cells
    simp only [rdS, rd, mkE, mkB, tSeq, tAsg, gSub, gName, tOp, tVar, tC, tCons, tNil, tCB, tDrop, tRet, tIfS, tTest, tAnd, tOr, tNot, tNext, tIf, tLst, tTup, tUn, mE, tBM, tCallS, truE, Ie.any, Ie.len, List.getElem?_cons_zero, List.getElem?_cons_succ, Option.some.injEq, exists_eq_left', List.set_cons_zero, List.set_cons_succ]
    refine r_ix hs' rfl (r_gt ?_)
    refine ⟨_, rfl, ?_⟩
    by_cases hb : 0 < b'
    · rw [if_pos (by simpa using hb)]
      refine r_ix hs' rfl (r_int (r_mod (by omega) ?_))
      refine r_ix hs' rfl (r_fdiv ⟨by omega, by omega⟩ (r_set hs' rfl ?_))
      refine hq _ ys' (b'.fdiv n) d' _ (Int.fmod_nonneg_of_pos _ n0) (Int.fmod_lt_of_pos _ n0) { S' with at_ := upd_same, cells := by rw [upd_ne (Ne.symm hne)]; exact hq', b0 := Int.fdiv_nonneg (Int.le_of_lt hb) (Int.le_of_lt n0) } (kp.trans (Kp.at (by simp)))
    · rw [if_neg (by simpa using hb)]
      have c0 := S'.c0
      have d0 := S'.d0
      have d1 := S'.d1
      refine r_ix hs' rfl (r_ix hs' rfl (r_mul (.inl ⟨by decide, by decide⟩) (r_add (r_add (r_pow ⟨by decide, by decide, by omega⟩ (r_int (r_mod (by decide) ?_)))))))
      have m0 := Int.fmod_nonneg_of_pos ((d' + 9161 * (c + 1) + 190027) ^ (5 : Int).toNat) (b := 2147483629) (by decide)
      have m1 := Int.fmod_lt_of_pos ((d' + 9161 * (c + 1) + 190027) ^ (5 : Int).toNat) (b := 2147483629) (by decide)
      generalize Int.fmod ((d' + 9161 * (c + 1) + 190027) ^ (5 : Int).toNat) 2147483629 = mm at m0 m1 ⊢
      refine r_mul (.inr ⟨by decide, by decide⟩) (r_ix hs' rfl (r_mul (.inl ⟨by decide, by decide⟩) (r_add (r_add (r_pow ⟨by decide, by decide, by omega⟩ (r_int (r_mod (by decide) (r_mod (by omega) ?_))))))))
      exact hq _ ys' b' d' _ (Int.fmod_nonneg_of_pos _ n0) (Int.fmod_lt_of_pos _ n0) S' kp
  simp only [rdS, rd, mkE, mkB, tSeq, tAsg, gSub, gName, tOp, tVar, tC, tCons, tNil, tCB, tDrop, tRet, tIfS, tTest, tAnd, tOr, tNot, tNext, tIf, tLst, tTup, tUn, mE, tBM, tCallS, truE, Ie.any, Ie.len, List.getElem?_cons_zero, List.getElem?_cons_succ, Option.some.injEq, exists_eq_left', List.set_cons_zero, List.set_cons_succ] at after
  simp only [rdS, rd, mkE, mkB, tSeq, tAsg, gSub, gName, tOp, tVar, tC, tCons, tNil, tCB, tDrop, tRet, tIfS, tTest, tAnd, tOr, tNot, tNext, tIf, tLst, tTup, tUn, mE, tBM, tCallS, truE, Ie.any, Ie.len, List.getElem?_cons_zero, List.getElem?_cons_succ, Option.some.injEq, exists_eq_left', List.set_cons_zero, List.set_cons_succ]
  refine r_ix hs' rfl (r_eqI ?_)
  refine ⟨_, rfl, ?_⟩
  by_cases hb : b' = 0
  · subst hb
    rw [if_pos (by simp)]
    refine r_ix hs' rfl ⟨Nat.zero_le _, fun p hp => ?_⟩
    have pq : q ≠ p := Kp.ne hq' hp
    have ps : s ≠ p := Kp.ne hs' hp
    have hs1 : upd H' p (.lst []) s = some (.lst [.ref q, .int 0, .int (c + 1), .int d']) := by rw [upd_ne ps]; exact hs'
    have hq1 : upd H' p (.lst []) q = some (.lst (ys'.map V.int)) := by rw [upd_ne pq]; exact hq'
    have kn : Kp [s, q] H' (upd H' p (.lst [])) := Kp.new hp
    refine r_neNil hq1 upd_same ⟨_, rfl, ?_⟩
    cases ys' with
    | nil =>
      rw [if_neg (by simp)]
      exact after _ { S' with at_ := hs1, cells := hq1 } (kp.trans kn)
    | cons cell ys' =>
      rw [if_pos (by simp)]
      have d0 := S'.d0
      have d1 := S'.d1
      refine ⟨fun σ' H'' => ∃ b'' d'' x', σ' = [some (V.ref s), some (.int n), x', none, none] ∧ Stm H'' s q ys' b'' (c + 1) d'' ∧ Kp [s, q] H H'', fun σ' H'' ⟨b'', d'', x', e, S2, k2⟩ => ⟨ys'.length, by simp, ys', b'', d'', x', rfl, e, S2, k2⟩, ?_⟩
      refine r_ix hs1 rfl ⟨ty_list hq1, r_popAt hq1 (by decide) (by decide) (k := 0) (by simp [seqIndex?]) rfl ?_⟩
      have hq2 : upd (upd H' p (.lst [])) q (.lst (((cell :: ys').map V.int).eraseIdx 0)) q = some (.lst (ys'.map V.int)) := upd_same
      have hs2 : upd (upd H' p (.lst [])) q (.lst (((cell :: ys').map V.int).eraseIdx 0)) s = some (.lst [.ref q, .int 0, .int (c + 1), .int d']) := by rw [upd_ne hne]; exact hs1
      have k2 : Kp [s, q] H (upd (upd H' p (.lst [])) q (.lst (((cell :: ys').map V.int).eraseIdx 0))) := (kp.trans kn).trans (Kp.at (by simp))
      generalize upd (upd H' p (.lst [])) q (.lst (((cell :: ys').map V.int).eraseIdx 0)) = H2 at hq2 hs2 k2 ⊢
      refine r_ix hs2 rfl (r_mul (.inr ⟨by decide, by decide⟩) (r_add (r_add (r_int (r_mod (by decide) (r_set hs2 rfl ?_))))))
      have hs3 : upd H2 s (.lst [.ref q, .int 0, .int (c + 1), .int ((d' * 72103 + cell + 43).fmod 2147483647)]) s = some (.lst [.ref q, .int 0, .int (c + 1), .int ((d' * 72103 + cell + 43).fmod 2147483647)]) := upd_same
      have hq3 : upd H2 s (.lst [.ref q, .int 0, .int (c + 1), .int ((d' * 72103 + cell + 43).fmod 2147483647)]) q = some (.lst (ys'.map V.int)) := by rw [upd_ne (Ne.symm hne)]; exact hq2
      have k3 : Kp [s, q] H (upd H2 s (.lst [.ref q, .int 0, .int (c + 1), .int ((d' * 72103 + cell + 43).fmod 2147483647)])) := k2.trans (Kp.at (by simp))
      have m0 := Int.fmod_nonneg_of_pos (d' * 72103 + cell + 43) (b := 2147483647) (by decide)
      have m1 := Int.fmod_lt_of_pos (d' * 72103 + cell + 43) (b := 2147483647) (by decide)
      refine r_pow ⟨by decide, by decide, by decide⟩ (r_ge ⟨_, rfl, ?_⟩)
      have few : ys'.length ≤ 100000 := by have := S'.few; simp at this; omega
      have c0 := S'.c0
      by_cases hc : 10 ^ (18 : Int).toNat ≤ cell
      · rw [if_pos (by simpa using hc)]
        have p0 : (0 : Int) ≤ 10 ^ (18 : Int).toNat := by decide
        refine r_set hs3 rfl ⟨cell, _, _, rfl, ⟨upd_same, by rw [upd_ne (Ne.symm hne)]; exact hq3, hne, by omega, c0, m0, by omega, few⟩, k3.trans (Kp.at (by simp))⟩
      · rw [if_neg (by simpa using hc)]
        refine r_set hs3 rfl ⟨0, _, _, rfl, ⟨upd_same, by rw [upd_ne (Ne.symm hne)]; exact hq3, hne, by omega, c0, m0, by omega, few⟩, k3.trans (Kp.at (by simp))⟩
  · rw [if_neg (by simpa using hb), if_neg (by simp)]
    exact after _ S' kp

/-! ### the start, a pick, a mixing -/
def spStart (K : PySem.W.Frag) : Sp := fun vs H Q _ => ∃ a ys, vs = [.ref a] ∧ SqL K H a (ys.map V.int) ∧ ys.length ≤ 100000 ∧ ∀ s q H', Stm H' s q ys 0 0 89 → Kp [] H H' → H s = none → H q = none → Q (.ref s) H'
theorem start_ok {Q : VK} {H : Hp} {vs : List V} {E : XK} (h : spStart D.K vs H Q E) : rdS D W startIs { nx := fun _ H' => Q .non H', rt := Q } (start ["script"] vs) H := by
  obtain ⟨a, ys, rfl, hs, few, hq⟩ := h
  show rdS D W startIs _ [some (.ref a)] H
  simp only [startIs, rdS, rd, mkE, mkB, tSeq, tAsg, gSub, gName, tOp, tVar, tC, tCons, tNil, tCB, tDrop, tRet, tIfS, tTest, tAnd, tOr, tNot, tNext, tIf, tLst, tTup, tUn, mE, tBM, tCallS, truE, Ie.any, Ie.len, List.getElem?_cons_zero, List.getElem?_cons_succ, Option.some.injEq, exists_eq_left', List.set_cons_zero, List.set_cons_succ]
  refine r_list hs fun q hq' => ⟨by simp only [List.length_cons, List.length_nil]; rw [sizeLine_eq]; decide, fun s hs' => ?_⟩
  have e1 : upd H q (.lst (ys.map V.int)) s = none := hs'
  have ne : s ≠ q := fun z => by
    rw [z, upd_same] at e1
    cases e1
  have e2 : H s = none := by rw [upd_ne ne] at e1; exact e1
  exact hq s q _ ⟨upd_same, by rw [upd_ne (Ne.symm ne)]; exact upd_same, ne, by decide, by decide, by decide, by decide, few⟩ ((Kp.new hq').trans (Kp.new hs')) e2 hq'
def pickIs : Is := (.ret (.ix (.var 1) (.call "_law_draw" (.cons (.var 0) (.cons (.bi .len (.cons (.var 1) .nil)) .nil)))))
def spPick (K : PySem.W.Frag) : Sp := fun vs H Q _ => ∃ s l xs q ys b c d, vs = [.ref s, .ref l] ∧ Stm H s q ys b c d ∧ c < 1000000000000 ∧ SqL K H l xs ∧ l ≠ s ∧ l ≠ q ∧ xs ≠ [] ∧ xs.length < 1073741824 ∧
  ∀ v ys' b' d' H', v ∈ xs → Stm H' s q ys' b' (c + 1) d' → Kp [s, q] H H' → Q v H'
theorem SqL.kp {K : PySem.W.Frag} {S : List Addr} {H H' : Hp} {l : Addr} {xs : List V} (h : SqL K H l xs) (k : Kp S H H') (n : l ∉ S) : SqL K H' l xs := by
  rcases h with (h | ⟨o, h⟩) | h
  · exact .inl (.inl (k _ _ n h))
  · exact .inl (.inr ⟨o, k _ _ n h⟩)
  · exact .inr h
theorem SqT.kp {K : PySem.W.Frag} {S : List Addr} {H H' : Hp} {l : Addr} {xs : List V} (h : SqT K H l xs) (k : Kp S H H') (n : l ∉ S) : SqT K H' l xs := by
  rcases h with (h | ⟨o, h⟩) | h
  · exact .inl (.inl (k _ _ n h))
  · exact .inl (.inr ⟨o, k _ _ n h⟩)
  · exact .inr h
theorem atI_lt {xs : List V} {r : Int} (h0 : 0 ≤ r) (h1 : r < xs.length) : ∃ v, atI xs r = some v ∧ v ∈ xs ∧ xs[r.toNat]? = some v := by
  have hl : r.toNat < xs.length := by omega
  refine ⟨xs[r.toNat], ?_, List.getElem_mem hl, List.getElem?_eq_getElem hl⟩
  unfold atI ixN
  rw [if_pos h0, if_pos h1]
  exact List.getElem?_eq_getElem hl
theorem pick_ok {Q : VK} {H : Hp} {vs : List V} {E : XK} (hd : ∀ vs H Q E, spDraw vs H Q E → D.Γ "_law_draw" vs H Q E) (h : spPick D.K vs H Q E) : rdS D W pickIs { nx := fun _ H' => Q .non H', rt := Q } (start ["stream", "some"] vs) H := by
  obtain ⟨s, l, xs, q, ys, b, c, d, rfl, S, hc, hl, n1, n2, ne, hz, hq⟩ := h
  show rdS D W pickIs _ [some (.ref s), some (.ref l)] H
  simp only [pickIs, rdS, rd, mkE, mkB, tSeq, tAsg, gSub, gName, tOp, tVar, tC, tCons, tNil, tCB, tDrop, tRet, tIfS, tTest, tAnd, tOr, tNot, tNext, tIf, tLst, tTup, tUn, mE, tBM, tCallS, truE, Ie.any, Ie.len, List.getElem?_cons_zero, List.getElem?_cons_succ, Option.some.injEq, exists_eq_left', List.set_cons_zero, List.set_cons_succ]
  refine r_lenL hl (hd _ _ _ _ ⟨s, xs.length, q, ys, b, c, d, rfl, ?_, by omega, S, hc, fun r ys' b' d' H' r0 r1 S' k => ?_⟩)
  · have := List.length_pos_iff.mpr ne
    omega
  · obtain ⟨v, e, m, _⟩ := atI_lt (xs := xs) r0 r1
    exact r_ixL (SqL.kp hl k (by simp [n1, n2])) e (hq v ys' b' d' H' m S' k)
def mixedIs : Is := (.seq (.set (.var 2) (.bi .list (.cons (.var 1) .nil)))
  (.ret (.lc (.meth .pop (.var 2) (.cons (.call "_law_draw" (.cons (.var 0) (.cons (.bi .len (.cons (.var 2) .nil)) .nil))) .nil)) (.var 4) (.bi .range (.cons (.bi .len (.cons (.var 2) .nil)) .nil)) .nil [3, 4])))
def spMixed (K : PySem.W.Frag) : Sp := fun vs H Q _ => ∃ s l xs q ys b c d, vs = [.ref s, .ref l] ∧ Stm H s q ys b c d ∧ c + xs.length < 1000000000000 ∧ (SqL K H l xs ∨ SqT K H l xs) ∧ xs.length < 1000000 ∧
  ∀ r zs ys' b' d' H', zs.Perm xs → H' r = some (.lst zs) → H r = none → Stm H' s q ys' b' (c + xs.length) d' → Kp [s, q] H H' → Q (.ref r) H'
theorem perm_cut {xs : List V} {k : Nat} {v : V} (h : xs[k]? = some v) : (v :: xs.eraseIdx k).Perm xs := by
  induction xs generalizing k with
  | nil => simp at h
  | cons x xs ih =>
    cases k with
    | zero =>
      have e : x = v := by simpa using h
      rw [e]
      exact List.Perm.refl _
    | succ k =>
      have h' : xs[k]? = some v := by simpa using h
      show (v :: x :: xs.eraseIdx k).Perm (x :: xs)
      exact (List.Perm.swap x v _).trans ((ih h').cons x)
theorem mixed_ok {Q : VK} {H : Hp} {vs : List V} {E : XK} (hd : ∀ vs H Q E, spDraw vs H Q E → D.Γ "_law_draw" vs H Q E) (h : spMixed D.K vs H Q E) : rdS D W mixedIs { nx := fun _ H' => Q .non H', rt := Q } (start ["stream", "some", "left", ".0", "k"] vs) H := by
  obtain ⟨s, l, xs, q, ys, b, c, d, rfl, S, hc, hl, hz, hq⟩ := h
  show rdS D W mixedIs _ [some (.ref s), some (.ref l), none, none, none] H
  have key : ∀ p, H p = none → rdS D W (.ret (.lc (.meth .pop (.var 2) (.cons (.call "_law_draw" (.cons (.var 0) (.cons (.bi .len (.cons (.var 2) .nil)) .nil))) .nil)) (.var 4) (.bi .range (.cons (.bi .len (.cons (.var 2) .nil)) .nil)) .nil [3, 4])) { nx := fun _ H' => Q .non H', rt := Q } [some (.ref s), some (.ref l), some (.ref p), none, none] (upd H p (.lst xs)) := by
    intro p hp
    have hP : upd H p (.lst xs) p = some (.lst xs) := upd_same
    have k0 : Kp [s, q] H (upd H p (.lst xs)) := Kp.new hp
    have S0 : Stm (upd H p (.lst xs)) s q ys b c d := S.kp (Kp.new hp)
    have ps : p ≠ s := fun z => by rw [z, S.at_] at hp; cases hp
    have pq : p ≠ q := fun z => by rw [z, S.cells] at hp; cases hp
    generalize upd H p (.lst xs) = H1 at hP k0 S0 ⊢
    simp only [rdS, rd, mkE, mkB, tSeq, tAsg, gSub, gName, tOp, tVar, tC, tCons, tNil, tCB, tDrop, tRet, tIfS, tTest, tAnd, tOr, tNot, tNext, tIf, tLst, tTup, tUn, mE, tBM, tCallS, truE, Ie.any, Ie.len, List.getElem?_cons_zero, List.getElem?_cons_succ, Option.some.injEq, exists_eq_left', List.set_cons_zero, List.set_cons_succ, tLc, wBi, if_true, iRng1]
    refine r_len hP ⟨_, rfl, by omega, by omega, fun Dd hD => ?_⟩
    have dp : Dd ≠ p := fun z => by rw [z, hP] at hD; cases hD
    have ds : Dd ≠ s := fun z => by rw [z, S0.at_] at hD; cases hD
    have dq : Dd ≠ q := fun z => by rw [z, S0.cells] at hD; cases hD
    refine ⟨fun i m H' => ∃ acc left ys' b' d', H' Dd = some (.lst acc) ∧ H' p = some (.lst left) ∧ acc.length = i ∧ i + left.length = xs.length ∧ (acc ++ left).Perm xs ∧ Stm H' s q ys' b' (c + i) d' ∧ Kp [s, q, p, Dd] H1 H' ∧ m = left.length, ⟨_, [], xs, ys, b, d, upd_same, by rw [upd_ne (Ne.symm dp)]; exact hP, rfl, by simp, List.Perm.refl _, by simpa using S0.kp (Kp.new hD), Kp.new hD, rfl⟩, ?_⟩
    rintro i m H' ⟨acc, left, ys', b', d', e1, e2, e3, e4, e5, S', k', rfl⟩
    by_cases hi : left = []
    · subst hi
      refine .inl ⟨?_, ?_⟩
      · show (xs.length : Int).toNat ≤ i
        simp at e4
        omega
      · have e6 : i = xs.length := by simpa using e4
        rw [List.append_nil] at e5
        refine hq Dd acc ys' b' d' H' e5 e1 ?_ (by rw [← e6]; exact S') fun a o n e => ?_
        · cases z : H Dd with
          | none => rfl
          | some o => rw [k0 Dd o (by simp [ds, dq]) z] at hD; cases hD
        · have m1 := k0 a o n e
          refine k' a o ?_ m1
          simp only [List.mem_cons, List.not_mem_nil, or_false] at n ⊢
          rintro (z | z | z | z)
          · exact n (.inl z)
          · exact n (.inr z)
          · rw [z, hp] at e; cases e
          · rw [z, hD] at m1; cases m1
    · have hpos := List.length_pos_iff.mpr hi
      refine .inr ⟨?_, fun H'' => ∃ acc left ys' b' d', H'' Dd = some (.lst acc) ∧ H'' p = some (.lst left) ∧ acc.length = i + 1 ∧ i + 1 + left.length = xs.length ∧ (acc ++ left).Perm xs ∧ Stm H'' s q ys' b' (c + (i + 1 : Nat)) d' ∧ Kp [s, q, p, Dd] H1 H'', ?_, ?_⟩
      · show i < (xs.length : Int).toNat
        omega
      · rintro H'' ⟨acc, left2, ys', b', d', f1, f2, f3, f4, f5, f6, f7⟩
        exact ⟨left2.length, by omega, acc, left2, ys', b', d', f1, f2, f3, f4, f5, f6, f7, rfl⟩
      · rintro x H'' ⟨rfl, rfl⟩
        refine ⟨rfl, ?_⟩
        simp only [tYes, if_true, wipe, List.set_cons_zero, List.set_cons_succ, rdS, rd, mkE, mkB, tSeq, tAsg, gSub, gName, tOp, tVar, tC, tCons, tNil, tCB, tDrop, tRet, tIfS, tTest, tAnd, tOr, tNot, tNext, tIf, tLst, tTup, tUn, mE, tBM, tCallS, truE, Ie.any, Ie.len, List.getElem?_cons_zero, List.getElem?_cons_succ, Option.some.injEq, exists_eq_left', List.set_cons_zero, List.set_cons_succ]
        refine ⟨ty_list e2, r_len e2 (hd _ _ _ _ ⟨s, left.length, q, ys', b', c + i, d', rfl, by omega, by omega, S', by omega, fun r ys2 b2 d2 H2 r0 r1 S2 k2 => ?_⟩)⟩
        obtain ⟨v, _, _, g⟩ := atI_lt (xs := left) r0 r1
        have a2 : H2 p = some (.lst left) := k2 _ _ (by simp [ps, pq]) e2
        have a1 : H2 Dd = some (.lst acc) := k2 _ _ (by simp [ds, dq]) e1
        refine r_popAt a2 (by omega) (by omega) (k := r.toNat) ?_ g ⟨acc, by rw [upd_ne dp]; exact a1, by rw [sizeLine_eq]; omega, acc ++ [v], left.eraseIdx r.toNat, ys2, b2, d2, upd_same, ?_, by simp [e3], ?_, ?_, ?_, ?_⟩
        · unfold seqIndex?
          simp
          omega
        · rw [upd_ne (Ne.symm dp)]
          exact upd_same
        · rw [List.length_eraseIdx]
          split <;> omega
        · rw [List.append_assoc]
          exact (List.Perm.append_left acc (perm_cut g)).trans e5
        · have e : c + (i + 1 : Nat) = c + i + 1 := by omega
          rw [e]
          exact { S2 with at_ := by rw [upd_ne (Ne.symm ds), upd_ne (Ne.symm ps)]; exact S2.at_, cells := by rw [upd_ne (Ne.symm dq), upd_ne (Ne.symm pq)]; exact S2.cells }
        · exact (k'.trans (k2.mono (by simp))).trans ((Kp.at (by simp)).trans (Kp.at (by simp)))
  simp only [mixedIs]
  show rdS D W (.seq _ _) _ _ _
  simp only [rdS, rd, mkE, tSeq, tAsg, tCB, tCons, tNil, tVar, gName, List.getElem?_cons_zero, List.getElem?_cons_succ, Option.some.injEq, exists_eq_left', List.set_cons_zero, List.set_cons_succ]
  simp only [rdS, rd, mkE] at key
  rcases hl with hl | hl
  · exact r_list hl key
  · exact r_listT hl key
end
end CK
end

section
set_option Elab.async false
set_option linter.all false
set_option maxRecDepth 100000
set_option maxHeartbeats 0
namespace K00
open PySem PySem.Spec PyProof.Rows L2 CK
abbrev Pg : Program := PySem.Challenge.pw_causeskept_k00_errors_made
def defOf1 : Stmt → Option He.DefD
  | .FunctionDef name args body [] none [] scope none _ _ => some ⟨(name, none), name, name, args, body, scope, [], []⟩
  | _ => none
def iniOf (c : Str) : Stmt → Option He.DefD
  | .FunctionDef name args body [] none [] scope none _ _ => if name = "__init__" then some ⟨(c, some name), name, c ++ "." ++ name, args, body, scope, [], []⟩ else none
  | _ => none
def clsOf1 : Stmt → List (Str × List Stmt)
  | .ClassDef (name := n) (body := b) .. => [(n, b)]
  | _ => []
def nm : Stmt → List Str
  | .FunctionDef name _ _ _ _ _ _ _ _ _ => [name]
  | .ClassDef (name := n) .. => [n]
  | _ => []
def allNames : List Str := Pg.main.body.flatMap nm
def tw : Tw where
  fn := Pg.main.body.filterMap defOf1
  fi := (Pg.main.body.flatMap clsOf1).flatMap fun q => q.2.filterMap (iniOf q.1)
  own := (Pg.main.body.flatMap clsOf1).map (·.1)
  bare := ["CauseError", "GoesRound", "NotCausal"]
  bcls := ["ValueError", "LookupError", "ArithmeticError", "TypeError", "str", "list", "tuple", "dict", "int", "bool"]
  tabs := ["_law_made_a", "_law_made_b", "_law_made_c", "_law_made_d"]
/-- how its classes lie -/
def clsK (K : PySem.W.Frag) (c : Str) : Bool := excB K (He.ga K c) && decide (((PySem.W.clsIn K (He.ga K c)).map (·.mro)) = some (.ref (He.ga K c) :: (if c = "CauseError" then [] else [.ref (He.ga K "CauseError")]) ++ PySem.HandSPX.veTail)) && decide (PySem.W.typeIn K (.ref (He.ga K c)) = some (.type "type"))
def ex (K : PySem.W.Frag) : Bool := tw.exK K && tw.own.all (clsK K) && (tw.P.inits.all fun q => q.2.all fun f => decide (PySem.W.findIn K (.ref (He.ga K q.1)) f = some none)) && decide (tw.own.map (He.ga K)).Nodup
def lawAt : Nat := Pg.main.body.findIdx fun s => nm s == [("law" : Str)]
abbrev R : PySem.W.OpenRow := PySem.W.OpenLaw.row PySem.Challenge.rw_causeskept_k00_errors_made
def tf : List He.Defn := tw.tabs.map fun x => (x, none)
abbrev hk : PySem.W.Hook := hookY tw.facts (tw.fn ++ tw.fi) tf ex
def ob (s : PySem.W.SharedT) : AlY := obsY tw.facts (tw.fn ++ tw.fi) tf ex (HandSHeadRun.getT s)
theorem ob_eq (s : PySem.W.SharedT) : ob s = hk.obs s.abs := obsY_eq (HandSHeadRun.getT_eq s)
abbrev fr (s : PySem.W.SharedT) : PySem.W.Frag := frY (HandSHeadRun.getT s)
def loose : List Str := allNames.filter fun x => !(x == ("law" : Str))
theorem text : tw.textB = true := by kernel_rfl
end K00
end

section
set_option Elab.async false
set_option linter.all false
set_option maxRecDepth 100000
set_option maxHeartbeats 0
namespace K00
open PySem PySem.Spec PyProof.Rows L2 CK
noncomputable abbrev endS (w : World) (os : OsState) : Option PySem.W.SharedT := HandSHeadRun.endF (HandSHeadRun.stepQ (HandSHeadRun.denQ HandSHeadRun.tabQ) R.prog w) 14700 R.prog w os
theorem run1 (w : World) (os : OsState) : ((endS w os).map fun s => HandSHeadRun.looksF R.prog (PySem.W.boot_heap w.params) s.abs) = some true := by
  kernel_rfl
theorem run2 (w : World) (os : OsState) : ((endS w os).map fun s => HandSHeadRun.seenQ (PySem.W.view R.prog [lawAt]) loose (importedModules R.prog.main.body) (fun s => PySem.W.xlAt (PySem.W.view R.prog [lawAt]) [] s && PySem.W.recOk R.records s) s.abs) = some (PySem.W.openGood (PySem.W.view R.prog [lawAt]) loose) := by
  kernel_rfl
theorem run3 (w : World) (os : OsState) : ((endS w os).map fun s => (tw.facts.all fun f => f.ok (fr s), (tw.fn ++ tw.fi).map fun d => He.fnW (fr s) d.at_)) = some (true, (tw.fn ++ tw.fi).map He.DefD.val) := by
  kernel_rfl
theorem run4 (w : World) (os : OsState) : ((endS w os).map fun s => (tw.fn ++ tw.fi).all fun d => d.ok (fr s)) = some true := by
  kernel_rfl
theorem run5a (w : World) (os : OsState) : ((endS w os).map fun s => tw.exK (fr s)) = some true := by
  kernel_rfl
theorem run5b (w : World) (os : OsState) : ((endS w os).map fun s => tw.own.all (clsK (fr s))) = some true := by
  kernel_rfl
theorem run5c (w : World) (os : OsState) : ((endS w os).map fun s => (((tw.P.inits.all fun q => q.2.all fun f => decide (PySem.W.findIn (fr s) (.ref (He.ga (fr s) q.1)) f = some none)), decide (tw.own.map (He.ga (fr s))).Nodup), He.tabsB (HandSHeadRun.getT s) tf (fr s))) = some ((true, true), true) := by
  kernel_rfl
theorem run (w : World) : HandSHeadRun.RunEq R (PySem.W.view R.prog [lawAt]) hk ob 14700 loose w := by
  intro os
  have h1 := run1 w os
  have h2 := run2 w os
  have h3 := run3 w os
  have h4 := run4 w os
  have h5a := run5a w os
  have h5b := run5b w os
  have h5c := run5c w os
  show Option.map _ (endS w os) = _
  generalize endS w os = o at h1 h2 h3 h4 h5a h5b h5c
  cases o with
  | none => cases h1
  | some s =>
    have e1 := Option.some.inj h1
    have e2 := Option.some.inj h2
    have e3 := Prod.mk.inj (Option.some.inj h3)
    have e4 := Option.some.inj h4
    have e5a : tw.exK (fr s) = true := Option.some.inj h5a
    have e5b : tw.own.all (clsK (fr s)) = true := Option.some.inj h5b
    have e5c := Prod.mk.inj (Option.some.inj h5c)
    have e5d := Prod.mk.inj e5c.1
    have e5 : ex (fr s) = true := by
      unfold ex
      rw [e5a, e5b, e5d.1, e5d.2]
      rfl
    have eo : ob s = valY (tw.fn ++ tw.fi) := obsY_parts e3.1 e4 e3.2 e5 e5c.2
    show some (_, _, ob s) = some (_, _, valY (tw.fn ++ tw.fi))
    rw [eo]
    exact congrArg some (Prod.ext e1 (Prod.ext e2 rfl))
end K00
end

section
set_option Elab.async false
set_option linter.all false
set_option maxRecDepth 100000
set_option maxHeartbeats 4000000
namespace K00
open PySem PySem.Spec PyProof.Rows L2 CK
structure RowD where
  c : Str
  fs : List Str
  pm : List Nat
def rowsA : List RowD := [⟨"BadBook", ["fault"], [0]⟩, ⟨"BadCarried", ["index"], [0]⟩, ⟨"BadCauses", ["thing"], [0]⟩, ⟨"BadClient", ["thing"], [0]⟩, ⟨"BadClientNames", ["thing"], [0]⟩, ⟨"BadClients", ["index"], [0]⟩, ⟨"BadDeed", ["thing"], [0]⟩, ⟨"BadDesks", ["thing"], [0]⟩, ⟨"BadFeedRule", ["thing"], [0]⟩, ⟨"BadForm", ["thing"], [0]⟩, ⟨"BadGrade", ["thing"], [0]⟩, ⟨"BadGrades", ["index"], [0]⟩, ⟨"BadHistory", ["fault"], [0]⟩, ⟨"BadHoldings", ["thing"], [0]⟩, ⟨"BadKey", ["thing"], [0]⟩, ⟨"BadKeyNames", ["thing"], [0]⟩, ⟨"BadKeys", ["index"], [0]⟩, ⟨"BadLook", ["thing"], [0]⟩]
def rowsB : List RowD := [⟨"BadLot", ["index"], [0]⟩, ⟨"BadNumber", ["thing"], [0]⟩, ⟨"BadOne", ["thing"], [0]⟩, ⟨"BadOtherCauses", ["thing"], [0]⟩, ⟨"BadOtherHistory", ["fault"], [0]⟩, ⟨"BadOtherPast", ["thing"], [0]⟩, ⟨"BadOtherPlace", ["thing"], [0]⟩, ⟨"BadOtherRules", ["fault"], [0]⟩, ⟨"BadPaper", ["thing"], [0]⟩, ⟨"BadPast", ["thing"], [0]⟩, ⟨"BadPicks", ["index"], [0]⟩, ⟨"BadPlace", ["thing"], [0]⟩, ⟨"BadPlaces", ["index"], [0]⟩, ⟨"BadProgram", ["fault"], [0]⟩, ⟨"BadQuestion", ["thing"], [0]⟩, ⟨"BadRounds", ["thing"], [0]⟩, ⟨"BadRow", ["thing"], [0]⟩, ⟨"BadRules", ["fault"], [0]⟩]
def rowsC : List RowD := [⟨"BadSchedule", ["fault"], [0]⟩, ⟨"BadSome", ["fault"], [0]⟩, ⟨"BadStorebook", ["thing"], [0]⟩, ⟨"BadStores", ["fault"], [0]⟩, ⟨"BadTable", ["thing"], [0]⟩, ⟨"BadText", ["line", "sign"], [1, 0]⟩, ⟨"BadTold", ["thing"], [0]⟩, ⟨"BadWords", ["thing"], [0]⟩, ⟨"GoesRound", [], []⟩, ⟨"InUse", ["question"], [0]⟩, ⟨"IsTold", ["place"], [0]⟩, ⟨"IsWatched", ["question"], [0]⟩, ⟨"NoCount", ["thing"], [0]⟩, ⟨"NotCausal", [], []⟩, ⟨"NotKept", ["grade"], [0]⟩, ⟨"NotNow", ["why"], [0]⟩, ⟨"NotWatched", ["question"], [0]⟩, ⟨"SharedClient", ["client"], [0]⟩]
def rowsD : List RowD := [⟨"SharedKey", ["key"], [0]⟩, ⟨"WouldChange", ["question", "why"], [1, 0]⟩, ⟨"WrittenTwice", ["place"], [0]⟩]
def kindsA : List (List Str) := [["BadBook", "BadCarried"], ["BadCauses", "BadClient"], ["BadClientNames", "BadClients"], ["BadDeed", "BadDesks"], ["BadFeedRule", "BadForm"], ["BadGrade", "BadGrades"], ["BadHistory", "BadHoldings"], ["BadKey", "BadKeyNames"], ["BadKeys", "BadLook"]]
def kindsB : List (List Str) := [["BadLot", "BadNumber"], ["BadOne", "BadOtherCauses"], ["BadOtherHistory", "BadOtherPast"], ["BadOtherPlace", "BadOtherRules"], ["BadPaper", "BadPast"], ["BadPicks", "BadPlace"], ["BadPlaces", "BadProgram"], ["BadQuestion", "BadRounds"], ["BadRow", "BadRules"]]
def kindsC : List (List Str) := [["BadSchedule", "BadSome"], ["BadStorebook", "BadStores"], ["BadTable", "BadText"], ["BadTold", "BadWords"], ["GoesRound", "InUse"], ["IsTold", "IsWatched"], ["NoCount", "NotCausal"], ["NotKept", "NotNow"], ["NotWatched", "SharedClient"]]
def kindsD : List (List Str) := [["SharedKey", "WouldChange"], ["WrittenTwice"]]
def vars : List Nat → Ie
  | [] => .nil
  | i :: l => .cons (.var i) (vars l)
def atts : List Str → Ie
  | [] => .nil
  | f :: l => .cons (.att (.var 0) f) (atts l)
def mk1 (r : RowD) : Ie := match r.fs with
  | [] => .mk0 r.c
  | _ => .mk r.c (vars (List.range r.fs.length)) [] .nil
def mk2 (r : RowD) : Ie := match r.fs with
  | [] => .mk0 r.c
  | _ => .mk r.c .nil (r.pm.map fun i => r.fs.getD i "") (vars r.pm)
def lamI (q : Str) (r : RowD) : LamI := ⟨["e"], ["e"], q, .lst (atts r.fs)⟩
def rowIe (q : Str) (r : RowD) : Ie := .tup (.cons (mk1 r) (.cons (mk2 r) (.cons (.lam ["e"] ["e"] q (.lst (atts r.fs))) (.cons (.lst (vars (List.range r.fs.length))) .nil))))
def rowsIs (q : Str) : List RowD → Is
  | [] => .ret (.var 3)
  | r :: l => .seq (.expr (.meth .append (.var 3) (.cons (rowIe q r) .nil))) (rowsIs q l)
def madeIs (q : Str) (l : List RowD) : Is := .seq (.set (.var 3) (.lst .nil)) (rowsIs q l)
def isis : List Str → Ie
  | [] => .nil
  | c :: l => .cons (.isi (.var 0) [c] true) (isis l)
def kindsIs1 : List (List Str) → Is
  | [] => .ret (.var 1)
  | cs :: l => .seq (.expr (.meth .extend (.var 1) (.cons (.lst (isis cs)) .nil))) (kindsIs1 l)
def kindsIs (l : List (List Str)) : Is := .seq (.set (.var 1) (.lst .nil)) (kindsIs1 l)
def sumIs : Is := (.ret (.bin .Add (.bin .Add (.bin .Add (.call "_law_kinds_a" (.cons (.var 0) .nil)) (.call "_law_kinds_b" (.cons (.var 0) .nil))) (.call "_law_kinds_c" (.cons (.var 0) .nil))) (.call "_law_kinds_d" (.cons (.var 0) .nil))))
def ownIs : Is := (.seq (.ite (.or (.not (.isi (.var 0) ["CauseError"] true)) (.not (.isi (.var 0) ["ValueError"] true))) (.ret (.bl false)) .nop)
  (.seq (.ite (.or (.isi (.var 0) ["LookupError"] true) (.or (.isi (.var 0) ["ArithmeticError"] true) (.isi (.var 0) ["TypeError"] true))) (.ret (.bl false)) .nop)
  (.ret (.cmp .Eq (.call "_law_kinds" (.cons (.var 0) .nil)) (.lc (.cmp .Eq (.var 3) (.var 1)) (.var 3) (.bi .range (.cons (.int 57) .nil)) .nil [2, 3])))))
def sameIs : Is := (.seq (.ite (.cmp .Is (.var 1) .non) (.ret (.cmp .Is (.var 0) .non)) .nop)
  (.seq (.ite (.isi (.var 1) ["str"] true) (.ret (.and (.isi (.var 0) ["str"] true) (.cmp .Eq (.var 0) (.var 1)))) .nop)
  (.seq (.ite (.isi (.var 1) ["list", "tuple"] false) (.seq (.ite (.or (.cmp .NotEq (.isi (.var 0) ["list"] true) (.isi (.var 1) ["list"] true)) (.cmp .NotEq (.isi (.var 0) ["tuple"] true) (.isi (.var 1) ["tuple"] true))) (.ret (.bl false)) .nop)
  (.ret (.and (.cmp .Eq (.bi .len (.cons (.var 0) .nil)) (.bi .len (.cons (.var 1) .nil))) (.bi .all (.cons (.lc (.call "_law_same" (.cons (.var 3) (.cons (.var 4) .nil))) (.tup (.cons (.var 3) (.cons (.var 4) .nil))) (.bi .zip (.cons (.var 0) (.cons (.var 1) .nil))) .nil [2, 3, 4]) .nil))))) .nop)
  (.seq (.ite (.isi (.var 1) ["dict"] true) (.ret (.and (.isi (.var 0) ["dict"] true) (.call "_law_same" (.cons (.litems (.var 0)) (.cons (.litems (.var 1)) .nil))))) .nop)
  (.ret (.and (.isi (.var 0) ["int"] true) (.and (.cmp .Eq (.isi (.var 0) ["bool"] true) (.isi (.var 1) ["bool"] true)) (.cmp .Eq (.var 0) (.var 1)))))))))
def theseIs : Is := (.ret (.call "_law_same" (.cons (.var 0) (.cons (.var 1) .nil))))
def someIe : Ie := (.lst (.cons .non (.cons (.int 5) (.cons (.neg (.int 1)) (.cons (.bl true) (.cons (.str "a") (.cons (.str "") (.cons (.lst (.cons (.int 1) (.cons (.str "b") .nil))) (.cons (.tup (.cons (.int 2) (.cons .non .nil))) (.cons (.dsp (.dcons (.str "a") (.int 1) .nil)) (.cons (.lst (.cons (.lst (.cons (.str "x") .nil)) .nil)) (.cons (.bin .Pow (.int 10) (.int 30)) (.cons (.tup (.cons (.str "s") (.cons (.int 3) .nil))) (.cons (.bl false) (.cons (.int 0) (.cons (.int 1) .nil))))))))))))))))
def sumRows (i j k : Nat) : Ie := (.bin .Add (.bin .Add (.call "_law_made_a" (.cons (.var i) (.cons (.var j) (.cons (.var k) .nil)))) (.call "_law_made_b" (.cons (.var i) (.cons (.var j) (.cons (.var k) .nil))))) (.call "_law_made_c" (.cons (.var i) (.cons (.var j) (.cons (.var k) .nil)))))
def rowD (i j k : Nat) : Ie := (.call "_law_made_d" (.cons (.var i) (.cons (.var j) (.cons (.var k) .nil))))
def keptIs : Is := (.ite (.or (.not (.call "_law_are_these" (.cons (.callv 11 (.cons (.var 9) .nil)) (.cons (.var 12) .nil)))) (.not (.call "_law_are_these" (.cons (.callv 11 (.cons (.var 10) .nil)) (.cons (.var 12) .nil))))) (.ret (.bl false)) .nop)
def loop1 : Is := (.seq (.ite (.or (.not (.call "_law_is_own" (.cons (.var 9) (.cons (.var 8) .nil)))) (.not (.call "_law_is_own" (.cons (.var 10) (.cons (.var 8) .nil))))) (.ret (.bl false)) .nop) keptIs)
def turnIs : Is := (.seq (.set (.tup (.cons (.var 4) (.cons (.var 5) (.cons (.var 6) .nil)))) (.sl (.call "_law_mixed" (.cons (.var 1) (.cons (.var 2) .nil))) .nil (.int 3)))
  (.seq (.set (.var 7) (sumRows 4 5 6)) (.seq (.expr (.meth .extend (.var 7) (.cons (rowD 4 5 6) .nil)))
  (.for (.tup (.cons (.var 8) (.cons (.tup (.cons (.var 9) (.cons (.var 10) (.cons (.var 11) (.cons (.var 12) .nil))))) .nil))) (.bi .enumerate (.cons (.var 7) .nil)) loop1))))
def endIs : Is := (.seq (.set (.var 14) (.mk0 "CauseError"))
  (.ret (.and (.isi (.var 14) ["ValueError"] true) (.cmp .NotIn (.bl true) (.call "_law_kinds" (.cons (.var 14) .nil))))))
def heldIs : Is := (.seq (.set (.var 13) (.lst (.cons (.str "v") .nil)))
  (.seq (.set (.var 7) (sumRows 13 13 13)) (.seq (.expr (.meth .extend (.var 7) (.cons (rowD 13 13 13) .nil)))
  (.seq (.expr (.meth .append (.var 13) (.cons (.str "w") .nil)))
  (.seq (.for (.tup (.cons (.var 9) (.cons (.var 10) (.cons (.var 11) (.cons (.var 12) .nil))))) (.var 7) keptIs) endIs)))))
def lawIs : Is := (.seq (.set (.var 1) (.call "_law_start" (.cons (.var 0) .nil)))
  (.seq (.set (.var 2) someIe)
  (.seq (.for (.var 3) (.bi .range (.cons (.int 2) .nil)) turnIs) heldIs)))
def bodies : List Is := [startIs, drawIs, mixedIs, madeIs "_law_made_a.<locals>.<lambda>" rowsA, madeIs "_law_made_b.<locals>.<lambda>" rowsB, madeIs "_law_made_c.<locals>.<lambda>" rowsC, madeIs "_law_made_d.<locals>.<lambda>" rowsD,
  kindsIs kindsA, kindsIs kindsB, kindsIs kindsC, kindsIs kindsD, sumIs, ownIs, sameIs, theseIs, lawIs]
theorem bodies_eq : tw.fn.map (bodyOf tw.P) = bodies := by kernel_rfl
def allRows : List RowD := rowsA ++ rowsB ++ rowsC ++ rowsD
def initIs : List Str → Nat → Is
  | [], _ => .nop
  | [f], i => .setf (.var 0) f (.var i)
  | f :: g :: l, i => .seq (.setf (.var 0) f (.var i)) (initIs (g :: l) (i + 1))
theorem inits_eq : tw.fi.map (fun d => (d.at_.1, CK.namesOf d, bodyOf P00 d)) = (allRows.filter fun r => !r.fs.isEmpty).map fun r => (r.c, ("self" : Str) :: r.fs, initIs r.fs 1) := by kernel_rfl
theorem names_eq : tw.fn.map (fun d => (d.name, CK.namesOf d)) = ([("_law_start", ["script"]), ("_law_draw", ["stream", "many", "cell", "digit", "mixed"]), ("_law_mixed", ["stream", "some", "left", ".0", "k"]), ("_law_made_a", ["x", "y", "z", "found"]), ("_law_made_b", ["x", "y", "z", "found"]), ("_law_made_c", ["x", "y", "z", "found"]), ("_law_made_d", ["x", "y", "z", "found"]),
  ("_law_kinds_a", ["e", "found"]), ("_law_kinds_b", ["e", "found"]), ("_law_kinds_c", ["e", "found"]), ("_law_kinds_d", ["e", "found"]), ("_law_kinds", ["e"]), ("_law_is_own", ["e", "at", ".0", "k"]), ("_law_same", ["found", "due", ".0", "x", "y"]), ("_law_are_these", ["found", "due"]),
  ("law", ["script", "stream", "some", "turn", "x", "y", "z", "rows_made", "at", "mine", "twin", "field", "due", "held", "base"])] : List (Str × List Str)) := by kernel_rfl
end K00
end

section
set_option Elab.async false
set_option linter.all false
set_option maxRecDepth 100000
set_option maxHeartbeats 4000000
namespace K00
open PySem PySem.Spec PyProof.Rows L2 CK
/-! ### the rows' shapes -/
def shapeB (r : RowD) : Bool := match r.fs with
  | [] => r.pm.isEmpty
  | [f] => decide (r.pm = [0]) && decide (tw.P.inits.lookup r.c = some [f])
  | [f, g] => decide (r.pm = [1, 0]) && !decide (f = g) && decide (tw.P.inits.lookup r.c = some [f, g])
  | _ => false
theorem shapes_all : allRows.all shapeB = true := by kernel_rfl
theorem shape {r : RowD} (h : r ∈ allRows) : (r.fs = [] ∧ r.pm = []) ∨ (∃ f, r.fs = [f] ∧ r.pm = [0] ∧ tw.P.inits.lookup r.c = some [f]) ∨ ∃ f g, f ≠ g ∧ r.fs = [f, g] ∧ r.pm = [1, 0] ∧ tw.P.inits.lookup r.c = some [f, g] := by
  have q := List.all_eq_true.mp shapes_all r h
  unfold shapeB at q
  split at q
  · rename_i e
    exact .inl ⟨e, by simpa using q⟩
  · rename_i f e
    simp only [Bool.and_eq_true, decide_eq_true_eq] at q
    exact .inr (.inl ⟨f, e, q.1, q.2⟩)
  · rename_i f g e
    simp only [Bool.and_eq_true, decide_eq_true_eq, Bool.not_eq_true', decide_eq_false_iff_not] at q
    exact .inr (.inr ⟨f, g, q.1.2, e, q.1.1, q.2⟩)
  · cases q
def fsOf (c : Str) : Option (List Str) := (allRows.find? fun r => decide (r.c = c)).map (·.fs)
theorem fsOf_all : (allRows.all fun r => decide (fsOf r.c = some r.fs)) = true := by kernel_rfl
theorem fsOf_eq {r : RowD} (h : r ∈ allRows) : fsOf r.c = some r.fs := of_decide_eq_true (List.all_eq_true.mp fsOf_all r h)
/-! ### what is known of the classes -/
structure KF (K : PySem.W.Frag) : Prop where
  oex : ∀ r ∈ allRows, r.fs ≠ [] → OexC K (He.ga K r.c)
  exc : ∀ c ∈ tw.own, ExcC K (He.ga K c)
  nof : ∀ r ∈ allRows, ∀ f ∈ r.fs, PySem.W.findIn K (.ref (He.ga K r.c)) f = some none
  kind : ∀ c ∈ tw.own, ∀ d ∈ tw.own, PySem.W.kitAny K (.ref (He.ga K c)) [.ref (He.ga K d)] = some (decide (d = c ∨ d = "CauseError"))
  kindT : ∀ c ∈ tw.own, PySem.W.kitAny K (.ref (He.ga K c)) [.type "ValueError"] = some true ∧ PySem.W.kitAny K (.ref (He.ga K c)) [.type "LookupError"] = some false ∧ PySem.W.kitAny K (.ref (He.ga K c)) [.type "ArithmeticError"] = some false ∧ PySem.W.kitAny K (.ref (He.ga K c)) [.type "TypeError"] = some false
/-! ### made exceptions -/
def ExAt (K : PySem.W.Frag) (H : Hp) (m : Addr) (r : RowD) (xs : List V) : Prop := (r.fs = [] ∧ H m = some (exo m (He.ga K r.c) none)) ∨ ∃ dx es, H m = some (exo m (He.ga K r.c) (some dx)) ∧ H dx = some (exd dx es) ∧ ∀ (i : Nat) f v, r.fs[i]? = some f → xs[i]? = some v → es.lookup f = some v
/-- all but the tables stay -/
def KpN (H H' : Hp) : Prop := LamX.ExtN H H'
theorem KpN.of {H H' : Hp} (k : Kp [] H H') : KpN H H' := fun a o e _ => k a o (by simp) e
theorem exo_ntbl {e C : Addr} {d : Option Addr} : ∀ ps, exo e C d ≠ .tbl ps := fun _ => exo_tbl
theorem exd_ntbl {e : Addr} {fs : List (Str × V)} : ∀ ps, exd e fs ≠ .tbl ps := fun ps z => by
  have z' : HO.ext _ = HO.tbl ps := z
  cases z'
theorem lmo_ntbl {P : Pn} {f c : Addr} {L : LamI} : ∀ ps, LmO P f c L ≠ .tbl ps := fun ps z => by
  have z' : HO.ext _ = HO.tbl ps := z
  cases z'
theorem ExAt.kp {K : PySem.W.Frag} {H H' : Hp} {m : Addr} {r : RowD} {xs : List V} (h : ExAt K H m r xs) (k : KpN H H') : ExAt K H' m r xs := by
  rcases h with ⟨e, h⟩ | ⟨dx, es, h1, h2, h3⟩
  · exact .inl ⟨e, k _ _ h exo_ntbl⟩
  · exact .inr ⟨dx, es, k _ _ h1 exo_ntbl, k _ _ h2 exd_ntbl, h3⟩
def RowAt (K : PySem.W.Frag) (q : Str) (H : Hp) (v : V) (l : Addr) (r : RowD) (xs : List V) : Prop := ∃ a m t f c : Addr, v = .ref a ∧ H a = some (.tup [.ref m, .ref t, .ref f, .ref l]) ∧ ExAt K H m r xs ∧ ExAt K H t r xs ∧ H f = some (LmO tw.P f c (lamI q r)) ∧ H c = some (LamX.CodeO c q) ∧ H l = some (.lst xs)
theorem RowAt.kp {K : PySem.W.Frag} {q : Str} {H H' : Hp} {v : V} {l : Addr} {r : RowD} {xs : List V} (h : RowAt K q H v l r xs) (k : KpN H H') : RowAt K q H' v l r xs := by
  obtain ⟨a, m, t, f, c, e, h1, h2, h3, h4, h5, h6⟩ := h
  exact ⟨a, m, t, f, c, e, k _ _ h1 (fun ps z => by cases z), h2.kp k, h3.kp k, k _ _ h4 lmo_ntbl, k _ _ h5 LamX.codeO_ne, k _ _ h6 (fun ps z => by cases z)⟩
/-- the promise of an __init__ -/
def spI (K : PySem.W.Frag) (c : Str) : Sp := fun vs H Q _ => ∃ r a xs, r ∈ allRows ∧ r.c = c ∧ r.fs ≠ [] ∧ vs = .ref a :: xs ∧ xs.length = r.fs.length ∧ H a = some (exo a (He.ga K c) none) ∧
  ∀ dx es H', (∀ (i : Nat) f v, r.fs[i]? = some f → xs[i]? = some v → es.lookup f = some v) → H' a = some (exo a (He.ga K c) (some dx)) → H' dx = some (exd dx es) → Kp [a] H H' → Q .non H'
section
variable {K : PySem.W.Frag} {D : Dm} {W : WX}
theorem init_ok (F : KF K) (hD : D.K = K) {r : RowD} (hr : r ∈ allRows) (hf : r.fs ≠ []) {Q : VK} {H : Hp} {vs : List V} {E : XK} (h : spI K r.c vs H Q E) : rdS D W (initIs r.fs 1) { nx := fun _ H' => Q .non H', rt := Q } (start ("self" :: r.fs) vs) H := by
  obtain ⟨r', a, xs, hr', hc, hf', rfl, hl, ha, hq⟩ := h
  have e0 : r'.fs = r.fs := by
    have e1 := fsOf_eq hr
    have e2 := fsOf_eq hr'
    rw [hc, e1] at e2
    exact (Option.some.inj e2).symm
  rw [e0] at hl hq
  have T := F.oex r hr hf
  rcases shape hr with ⟨e, _⟩ | ⟨f, e, _⟩ | ⟨f, g, ne, e, _⟩
  · exact absurd e hf
  · rw [e] at hl hq ⊢
    obtain ⟨x, rfl⟩ : ∃ x, xs = [x] := by
      match xs, hl with
      | [x], _ => exact ⟨x, rfl⟩
    show rdS D W (.setf (.var 0) f (.var 1)) _ [some (.ref a), some x] H
    simp only [rdS, rd, mkE, mkB, tSeq, tAsg, gSub, gName, tOp, tVar, tC, tCons, tNil, tCB, tDrop, tRet, tIfS, tTest, tAnd, tOr, tNot, tNext, tIf, tLst, tTup, tUn, mE, tBM, tCallS, truE, Ie.any, Ie.len, List.getElem?_cons_zero, List.getElem?_cons_succ, Option.some.injEq, exists_eq_left', List.set_cons_zero, List.set_cons_succ, tOst]
    refine ⟨a, _, rfl, by rw [hD]; exact T, by rw [hD]; exact F.nof r hr f (by rw [e]; simp), .inl ⟨ha, fun dx hdx hne => ?_⟩⟩
    refine hq dx [(f, x)] _ (fun i f' v h1 h2 => ?_) upd_same (by rw [upd_ne hne]; exact upd_same) ((Kp.new hdx).trans (Kp.at (by simp)))
    match i, h1, h2 with
    | 0, h1, h2 =>
      cases h1
      cases h2
      simp [List.lookup]
  · rw [e] at hl hq ⊢
    obtain ⟨x, y, rfl⟩ : ∃ x y, xs = [x, y] := by
      match xs, hl with
      | [x, y], _ => exact ⟨x, y, rfl⟩
    show rdS D W (.seq (.setf (.var 0) f (.var 1)) (.setf (.var 0) g (.var 2))) _ [some (.ref a), some x, some y] H
    simp only [rdS, rd, mkE, mkB, tSeq, tAsg, gSub, gName, tOp, tVar, tC, tCons, tNil, tCB, tDrop, tRet, tIfS, tTest, tAnd, tOr, tNot, tNext, tIf, tLst, tTup, tUn, mE, tBM, tCallS, truE, Ie.any, Ie.len, List.getElem?_cons_zero, List.getElem?_cons_succ, Option.some.injEq, exists_eq_left', List.set_cons_zero, List.set_cons_succ, tOst]
    refine ⟨a, _, rfl, by rw [hD]; exact T, by rw [hD]; exact F.nof r hr f (by rw [e]; simp), .inl ⟨ha, fun dx hdx hne => ?_⟩⟩
    refine ⟨a, _, rfl, by rw [hD]; exact T, by rw [hD]; exact F.nof r hr g (by rw [e]; simp), .inr ⟨dx, [(f, x)], upd_same, by rw [upd_ne hne]; exact upd_same, by simp, ?_⟩⟩
    refine hq dx [(g, y), (f, x)] _ (fun i f' v h1 h2 => ?_) (by rw [upd_ne (Ne.symm hne)]; exact upd_same) upd_same ?_
    · match i, h1, h2 with
      | 0, h1, h2 =>
        cases h1
        cases h2
        have z : (f == g) = false := by simpa using ne
        simp [List.lookup, z]
      | 1, h1, h2 =>
        cases h1
        cases h2
        simp [List.lookup]
    · intro b o n hb
      have nb : b ≠ dx := fun z => by rw [z, hdx] at hb; cases hb
      rw [upd_ne nb, upd_ne (by simpa using n), upd_ne nb]
      exact hb
theorem mkx_ok (hΓ : ∀ c vs H Q E, spI K c vs H Q E → D.Γi c vs H Q E) (hD : D.K = K) (hP : D.P = tw.P) {r : RowD} (hr : r ∈ allRows) (hf : r.fs ≠ []) (hi : tw.P.inits.lookup r.c = some r.fs) {as zs : Ie} {ks : List Str} {σ : L2.St} {H : Hp} {Q : VK} {vv zv xs : List V} (ha : ∀ Q, Q vv H → (rd D W as).a σ H Q) (hz : ∀ Q, Q zv H → (rd D W zs).a σ H Q)
    (l1 : vv.length = as.len) (l2 : zv.length = ks.length) (l3 : as.len ≤ 1000) (hk : ∀ a, kwArgs ("self" :: r.fs) ks (.ref a :: vv) zv = .ref a :: xs) (hl : xs.length = r.fs.length) (hq : ∀ a H', ExAt K H' a r xs → Kp [] H H' → H a = none → Q (.ref a) H') : (rd D W (.mk r.c as ks zs)).e σ H Q := by
  show tMkX _ _ _ _ _ _ _ _ σ H Q
  refine ha _ (hz _ ⟨l1, l2, l3, fun a hn => ?_⟩)
  rw [hP, hi]
  show D.Γi r.c (kwArgs ("self" :: r.fs) ks (.ref a :: vv) zv) _ _ _
  rw [hk a]
  refine hΓ _ _ _ _ _ ⟨r, a, xs, hr, rfl, hf, rfl, hl, by rw [hD]; exact upd_same, fun dx es H' h1 h2 h3 k => ⟨rfl, hq a H' (.inr ⟨dx, es, h2, h3, h1⟩) (fun b o _ hb => ?_) hn⟩⟩
  have nb : b ≠ a := fun z => by rw [z, hn] at hb; cases hb
  exact k b o (by simpa using nb) (by rw [upd_ne nb]; exact hb)
def xsOf (r : RowD) (x y : V) : List V := [x, y].take r.fs.length
theorem mk1_ok (hΓ : ∀ c vs H Q E, spI K c vs H Q E → D.Γi c vs H Q E) (hD : D.K = K) (hP : D.P = tw.P) {r : RowD} (hr : r ∈ allRows) {x y : V} {rest : L2.St} {H : Hp} {Q : VK} (hq : ∀ a H', ExAt K H' a r (xsOf r x y) → Kp [] H H' → H a = none → Q (.ref a) H') : (rd D W (mk1 r)).e (some x :: some y :: rest) H Q := by
  unfold mk1
  unfold xsOf at hq
  rcases shape hr with ⟨e, _⟩ | ⟨f, e, _, hi⟩ | ⟨f, g, ne, e, _, hi⟩
  · rw [e]
    intro a hn
    exact hq a _ (.inl ⟨e, by rw [hD]; exact upd_same⟩) (Kp.new hn) hn
  · rw [e]
    rw [e] at hq
    refine mkx_ok (vv := [x]) (zv := []) (xs := [x]) hΓ hD hP hr (by rw [e]; simp) (by rw [e]; exact hi) (fun Q q => ?_) (fun Q q => q) rfl rfl (by show (1 : Nat) ≤ 1000; decide) (fun a => by rw [e]; rfl) (by rw [e]; rfl) hq
    exact ⟨x, rfl, q⟩
  · rw [e]
    rw [e] at hq
    refine mkx_ok (vv := [x, y]) (zv := []) (xs := [x, y]) hΓ hD hP hr (by rw [e]; simp) (by rw [e]; exact hi) (fun Q q => ?_) (fun Q q => q) rfl rfl (by show (2 : Nat) ≤ 1000; decide) (fun a => by rw [e]; rfl) (by rw [e]; rfl) hq
    exact ⟨x, rfl, y, rfl, q⟩
theorem mk2_ok (hΓ : ∀ c vs H Q E, spI K c vs H Q E → D.Γi c vs H Q E) (hD : D.K = K) (hP : D.P = tw.P) {r : RowD} (hr : r ∈ allRows) {x y : V} {rest : L2.St} {H : Hp} {Q : VK} (hq : ∀ a H', ExAt K H' a r (xsOf r x y) → Kp [] H H' → H a = none → Q (.ref a) H') : (rd D W (mk2 r)).e (some x :: some y :: rest) H Q := by
  unfold mk2
  unfold xsOf at hq
  rcases shape hr with ⟨e, _⟩ | ⟨f, e, ep, hi⟩ | ⟨f, g, ne, e, ep, hi⟩
  · rw [e]
    intro a hn
    exact hq a _ (.inl ⟨e, by rw [hD]; exact upd_same⟩) (Kp.new hn) hn
  · rw [e, ep]
    rw [e] at hq
    refine mkx_ok (vv := []) (zv := [x]) (xs := [x]) hΓ hD hP hr (by rw [e]; simp) (by rw [e]; exact hi) (fun Q q => q) (fun Q q => ?_) rfl rfl (by decide) (fun a => ?_) (by rw [e]; rfl) hq
    · exact ⟨x, rfl, q⟩
    · rw [e]
      unfold kwArgs
      simp [List.lookup]
  · rw [e, ep]
    rw [e] at hq
    refine mkx_ok (vv := []) (zv := [y, x]) (xs := [x, y]) hΓ hD hP hr (by rw [e]; simp) (by rw [e]; exact hi) (fun Q q => q) (fun Q q => ?_) rfl rfl (by decide) (fun a => ?_) (by rw [e]; rfl) hq
    · exact ⟨y, rfl, x, rfl, q⟩
    · rw [e]
      unfold kwArgs
      have z : (f == g) = false := by simpa using ne
      simp [List.lookup, z]
end
/-- what a made list holds -/
def spMade (K : PySem.W.Frag) (T : List (Addr × Str)) (q : Str) (l : List RowD) : Sp := fun vs H Q _ => ∃ x y z, vs = [x, y, z] ∧ LamX.Tabs T H ∧
  ∀ p rs H', KpN H H' → LamX.Tabs T H' → H' p = some (.lst rs) → Paired (fun v r => ∃ li, li ≠ p ∧ RowAt K q H' v li r (xsOf r x y)) rs l → Q (.ref p) H'
theorem ext_ne_lst {φ : Heap → Prop} {zs : List V} : HO.ext φ ≠ .lst zs := fun z => by cases z
theorem RowAt.wr {K : PySem.W.Frag} {q : Str} {H : Hp} {v : V} {l p : Addr} {r : RowD} {xs zs zs' : List V} (h : RowAt K q H v l r xs) (hp : H p = some (.lst zs)) (n : l ≠ p) : RowAt K q (upd H p (.lst zs')) v l r xs := by
  obtain ⟨a, m, t, f, c, e, h1, h2, h3, h4, h5, h6⟩ := h
  have ne : ∀ {b : Addr} {o : HO}, H b = some o → o ≠ .lst zs → b ≠ p := fun {b o} e d z => by
    rw [z, hp] at e
    exact d (Option.some.inj e).symm
  have ex : ∀ {m : Addr}, ExAt K H m r xs → ExAt K (upd H p (.lst zs')) m r xs := fun {m} h => by
    rcases h with ⟨e, h⟩ | ⟨dx, es, h1, h2, h3⟩
    · exact .inl ⟨e, by rw [upd_ne (ne h ext_ne_lst)]; exact h⟩
    · exact .inr ⟨dx, es, by rw [upd_ne (ne h1 ext_ne_lst)]; exact h1, by rw [upd_ne (ne h2 ext_ne_lst)]; exact h2, h3⟩
  exact ⟨a, m, t, f, c, e, by rw [upd_ne (ne h1 fun z => by cases z)]; exact h1, ex h2, ex h3, by rw [upd_ne (ne h4 ext_ne_lst)]; exact h4, by rw [upd_ne (ne h5 ext_ne_lst)]; exact h5, by rw [upd_ne n]; exact h6⟩
theorem tabs_wr {T : List (Addr × Str)} {H : Hp} {p : Addr} {zs zs' : List V} (hp : H p = some (.lst zs)) (h : LamX.Tabs T H) : LamX.Tabs T (upd H p (.lst zs')) := by
  have ne : ∀ {b : Addr} {o : HO}, H b = some o → o ≠ .lst zs → b ≠ p := fun {b o} e d z => by
    rw [z, hp] at e
    exact d (Option.some.inj e).symm
  intro t ht
  obtain ⟨ps, h1, h2, h3⟩ := h t ht
  refine ⟨ps, by rw [upd_ne (ne h1 fun z => by cases z)]; exact h1, h2, fun pos cv hc => ?_⟩
  obtain ⟨c, e1, e2⟩ := h3 pos cv hc
  exact ⟨c, e1, by rw [upd_ne (ne e2 ext_ne_lst)]; exact e2⟩
theorem paired_imp {α β : Type} {F G : α → β → Prop} : ∀ {xs : List α} {ys : List β}, Paired F xs ys → (∀ x y, F x y → G x y) → Paired G xs ys
  | _, _, .nil, _ => .nil
  | _, _, .cons h t, k => .cons (k _ _ h) (paired_imp t k)
theorem paired_app {α β : Type} {F : α → β → Prop} : ∀ {xs : List α} {ys : List β} {xs' : List α} {ys' : List β}, Paired F xs ys → Paired F xs' ys' → Paired F (xs ++ xs') (ys ++ ys')
  | _, _, _, _, .nil, k => k
  | _, _, _, _, .cons h t, k => .cons h (paired_app t k)
theorem xsOf_len {r : RowD} {x y : V} (h : r ∈ allRows) : (xsOf r x y).length = r.fs.length ∧ (xsOf r x y).length ≤ 2 := by
  unfold xsOf
  rcases shape h with ⟨e, _⟩ | ⟨f, e, _⟩ | ⟨f, g, _, e, _⟩ <;> rw [e] <;> simp
section
variable {K : PySem.W.Frag} {D : Dm} {W : WX}
theorem vars_ok {r : RowD} (hr : r ∈ allRows) {x y : V} {rest : L2.St} {H : Hp} {Q : List V → Hp → Prop} (q : Q (xsOf r x y) H) : (rd D W (vars (List.range r.fs.length))).a (some x :: some y :: rest) H Q := by
  unfold xsOf at q
  rcases shape hr with ⟨e, _⟩ | ⟨f, e, _⟩ | ⟨f, g, _, e, _⟩
  · rw [e] at q ⊢
    exact q
  · rw [e] at q ⊢
    exact ⟨x, rfl, q⟩
  · rw [e] at q ⊢
    exact ⟨x, rfl, y, rfl, q⟩
theorem row_ok (hΓ : ∀ c vs H Q E, spI K c vs H Q E → D.Γi c vs H Q E) (hD : D.K = K) (hP : D.P = tw.P) {r : RowD} (hr : r ∈ allRows) {q : Str} {x y : V} {rest : L2.St} {H : Hp} {Q : VK} (hT : LamX.Tabs D.T H) (pp : Addr) (op : HO) (hp : H pp = some op) (nop : ∀ ps, op ≠ .tbl ps)
    (hq : ∀ v li H', li ≠ pp → RowAt K q H' v li r (xsOf r x y) → KpN H H' → LamX.Tabs D.T H' → Q v H') : (rd D W (rowIe q r)).e (some x :: some y :: rest) H Q := by
  show (rd D W (mk1 r)).e _ H _
  refine mk1_ok hΓ hD hP hr fun m H1 e1 k1 _ => ?_
  refine mk2_ok hΓ hD hP hr fun t H2 e2 k2 _ => ?_
  refine ⟨(hT.ext fun a o e => k1 a o (by simp) e).ext fun a o e => k2 a o (by simp) e, fun f c H3 eN T3 _ ef ec => ?_⟩
  refine vars_ok hr ⟨?_, fun l hl => ⟨by simp only [List.length_cons, List.length_nil]; rw [sizeLine_eq]; decide, fun a ha => ?_⟩⟩
  · have := (xsOf_len (x := x) (y := y) hr).2
    rw [sizeLine_eq]
    omega
  · have kl : Kp [] H3 (upd H3 l (.lst (xsOf r x y))) := Kp.new hl
    have ka : Kp [] (upd H3 l (.lst (xsOf r x y))) (upd (upd H3 l (.lst (xsOf r x y))) a (.tup [.ref m, .ref t, .ref f, .ref l])) := Kp.new ha
    have kk := kl.trans ka
    have kH : KpN H (upd (upd H3 l (.lst (xsOf r x y))) a (.tup [.ref m, .ref t, .ref f, .ref l])) := ((KpN.of (k1.trans k2)).trans eN).trans (KpN.of kk)
    have lp : l ≠ pp := fun z => by
      have h2 := ((KpN.of (k1.trans k2)).trans eN) pp op hp nop
      rw [z, h2] at hl
      cases hl
    have nl : l ≠ a := fun z => by
      rw [← z, upd_same] at ha
      cases ha
    refine hq (.ref a) l _ lp ⟨a, m, t, f, c, rfl, upd_same, ((e1.kp (KpN.of k2)).kp eN).kp (KpN.of kk), (e2.kp eN).kp (KpN.of kk), ?_, kk _ _ (by simp) ec, by rw [upd_ne nl]; exact upd_same⟩ kH (T3.ext fun b o e => kk b o (by simp) e)
    rw [hP] at ef
    exact kk _ _ (by simp) ef
theorem rows_ok (hΓ : ∀ c vs H Q E, spI K c vs H Q E → D.Γi c vs H Q E) (hD : D.K = K) (hP : D.P = tw.P) {q : Str} {x y z : V} {p : Addr} {Q : VK} {H0 : Hp} (hn : H0 p = none) {all : List RowD} (hall : all.length ≤ 1000)
    (hq : ∀ p rs H', KpN H0 H' → LamX.Tabs D.T H' → H' p = some (.lst rs) → Paired (fun v r => ∃ li, li ≠ p ∧ RowAt K q H' v li r (xsOf r x y)) rs all → Q (.ref p) H') :
    ∀ (l done : List RowD) (rs : List V) (H : Hp), done ++ l = all → (∀ r ∈ l, r ∈ allRows) → (∀ r ∈ done, r ∈ allRows) → (∀ a o, H0 a = some o → (∀ ps, o ≠ .tbl ps) → H a = some o) → LamX.Tabs D.T H → H p = some (.lst rs) → Paired (fun v r => ∃ li, li ≠ p ∧ RowAt K q H v li r (xsOf r x y)) rs done →
    rdS D W (rowsIs q l) { nx := fun _ H' => Q .non H', rt := Q } [some x, some y, some z, some (.ref p)] H
  | [], done, rs, H, e, _, _, k, T, hp, hr => by
    rw [List.append_nil] at e
    subst e
    exact ⟨_, rfl, hq p rs H k T hp hr⟩
  | r :: l, done, rs, H, e, hl, hd, k, T, hp, hr => by
    have len : rs.length = done.length := Paired.length hr
    have tot : done.length + (l.length + 1) = all.length := by rw [← e]; simp
    show (rd D W (.meth .append (.var 3) (.cons (rowIe q r) .nil))).e _ H _
    refine ⟨_, rfl, ty_list hp, ?_⟩
    simp only [rd, tCons, tNil]
    refine row_ok hΓ hD hP (hl r List.mem_cons_self) T p _ hp (fun ps z => by cases z) fun v li H' nl hrow k' T' => ?_
    have hp' : H' p = some (.lst rs) := k' p _ hp (fun ps z => by cases z)
    refine r_append hp' (by rw [sizeLine_eq]; omega) ?_
    refine rows_ok hΓ hD hP hn hall hq l (done ++ [r]) (rs ++ [v]) _ (by simpa using e) (fun r hr => hl r (List.mem_cons_of_mem _ hr)) (fun r' hr' => ?_) (fun a o ea no => ?_) (?_) upd_same ?_
    · rcases List.mem_append.mp hr' with h | h
      · exact hd r' h
      · have : r' = r := by simpa using h
        rw [this]
        exact hl r List.mem_cons_self
    · have na : a ≠ p := fun z => by rw [z, hn] at ea; cases ea
      rw [upd_ne na]
      exact k' a o (k a o ea no) no
    · exact tabs_wr hp' T'
    · exact paired_app (paired_imp hr fun v r ⟨li, n, h⟩ => ⟨li, n, (h.kp k').wr hp' n⟩) (.cons ⟨li, nl, hrow.wr hp' nl⟩ .nil)
theorem made_ok (hΓ : ∀ c vs H Q E, spI K c vs H Q E → D.Γi c vs H Q E) (hD : D.K = K) (hP : D.P = tw.P) {q : Str} {l : List RowD} (hl : ∀ r ∈ l, r ∈ allRows) (hz : l.length ≤ 1000) {Q : VK} {H : Hp} {vs : List V} {E : XK} (h : spMade K D.T q l vs H Q E) :
    rdS D W (madeIs q l) { nx := fun _ H' => Q .non H', rt := Q } (start ["x", "y", "z", "found"] vs) H := by
  obtain ⟨x, y, z, rfl, T, hq⟩ := h
  show rdS D W (madeIs q l) _ [some x, some y, some z, none] H
  unfold madeIs
  show tSeq _ _ _ _ _
  refine ⟨Nat.zero_le _, fun p hp => ?_⟩
  refine rows_ok hΓ hD hP hp hz hq l [] [] _ rfl hl (fun r hr => by cases hr) (fun a o e _ => Kp.new (S := []) hp a o (by simp) e) (T.ext fun a o e => Kp.new (S := []) hp a o (by simp) e) upd_same .nil
end
end K00
end

section
set_option Elab.async false
set_option linter.all false
set_option maxRecDepth 100000
set_option maxHeartbeats 4000000
namespace K00
open PySem PySem.Spec PyProof.Rows L2 CK
def DictAt (H : Hp) (d : Option Addr) : Prop := ∀ dx, d = some dx → ∃ es, H dx = some (exd dx es)
def tyK (K : PySem.W.Frag) : Hp → V → Value → Prop := fun H x t => TyX K H x t ∨ ∃ a C d, x = .ref a ∧ t = .ref C ∧ ExcC K C ∧ H a = some (exo a C d) ∧ DictAt H d
/-- an exception value of the class c -/
def ExcV (K : PySem.W.Frag) (H : Hp) (v : V) (c : Str) : Prop := ∃ a d, v = .ref a ∧ c ∈ tw.own ∧ H a = some (exo a (He.ga K c) d) ∧ DictAt H d
theorem ExcV.kp {K : PySem.W.Frag} {H H' : Hp} {v : V} {c : Str} (h : ExcV K H v c) (k : KpN H H') : ExcV K H' v c := by
  obtain ⟨a, d, e, hc, h, hd⟩ := h
  exact ⟨a, d, e, hc, k _ _ h exo_ntbl, fun dx ed => let ⟨es, z⟩ := hd dx ed; ⟨es, k _ _ z exd_ntbl⟩⟩
/-- what a law's domain has to be -/
structure Dok (D : Dm) (K : PySem.W.Frag) : Prop where
  F : KF K
  ty : D.ty = tyK K
  own : D.own = tw.own
  K : D.K = K
def spKinds (K : PySem.W.Frag) (ns : List Str) : Sp := fun vs H Q _ => ∃ v c, vs = [v] ∧ ExcV K H v c ∧ ∀ p H', Kp [] H H' → H' p = some (.lst (ns.map fun d => V.bl (decide (d = c)))) → Q (.ref p) H'
section
variable {K : PySem.W.Frag} {D : Dm} {W : WX}
theorem is_exc (o : Dok D K) {H : Hp} {v : V} {c d : Str} {Q : VK} (h : ExcV K H v c) (hd : d ∈ tw.own) (q : Q (.bl (decide (d = c ∨ d = "CauseError"))) H) : rIs D [d] v H Q := by
  obtain ⟨a, dx, rfl, hc, ha, hda⟩ := h
  refine ⟨.ref (He.ga K c), [.ref (He.ga K d)], _, ?_, ?_, ?_, q⟩
  · rw [o.K, o.own]
    simp only [List.map_cons, List.map_nil]
    unfold clsOf
    rw [if_pos hd]
    rfl
  · rw [o.ty]
    exact .inr ⟨a, _, dx, rfl, rfl, o.F.exc c hc, ha, hda⟩
  · rw [o.K]
    exact o.F.kind c hc d hd
theorem is_excT (o : Dok D K) {H : Hp} {v : V} {c T : Str} {n : String} {b : Bool} {Q : VK} (h : ExcV K H v c) (hd : T ∉ tw.own) (hb : bootBuiltins T = some (.type n)) (hk : PySem.W.kitAny K (.ref (He.ga K c)) [.type n] = some b) (q : Q (.bl b) H) : rIs D [T] v H Q := by
  obtain ⟨a, dx, rfl, hc, ha, hda⟩ := h
  refine ⟨.ref (He.ga K c), [.type n], b, ?_, ?_, ?_, q⟩
  · rw [o.K, o.own]
    simp only [List.map_cons, List.map_nil]
    unfold clsOf
    rw [if_neg hd, hb]
    rfl
  · rw [o.ty]
    exact .inr ⟨a, _, dx, rfl, rfl, o.F.exc c hc, ha, hda⟩
  · rw [o.K]
    exact hk
theorem isis_ok (o : Dok D K) {v : V} {c : Str} {rest : L2.St} {H : Hp} (h : ExcV K H v c) : ∀ {cs : List Str} {Q : List V → Hp → Prop}, (∀ d ∈ cs, d ∈ tw.own ∧ d ≠ "CauseError") → Q (cs.map fun d => V.bl (decide (d = c))) H → (rd D W (isis cs)).a (some v :: rest) H Q
  | [], Q, _, q => q
  | d :: cs, Q, hc, q => by
    simp only [isis, rd, mkE, tCons, tIs, tVar, if_true]
    refine ⟨v, rfl, is_exc o h (hc d List.mem_cons_self).1 ?_⟩
    refine isis_ok o h (fun d hd => hc d (List.mem_cons_of_mem _ hd)) ?_
    have e : decide (d = c ∨ d = "CauseError") = decide (d = c) := by
      have := (hc d List.mem_cons_self).2
      simp [this]
    rw [e]
    exact q
theorem kinds1_ok (o : Dok D K) {v : V} {c : Str} {p : Addr} {Q : VK} {H0 : Hp} (hn : H0 p = none) (h0 : ExcV K H0 v c) {all : List Str} (hz : all.length ≤ 1000) (hq : ∀ p H', Kp [] H0 H' → H' p = some (.lst (all.map fun d => V.bl (decide (d = c)))) → Q (.ref p) H') :
    ∀ (l : List (List Str)) (done : List Str) (H : Hp), done ++ l.flatten = all → (∀ cs ∈ l, ∀ d ∈ cs, d ∈ tw.own ∧ d ≠ "CauseError") → Kp [] H0 H → H p = some (.lst (done.map fun d => V.bl (decide (d = c)))) →
    rdS D W (kindsIs1 l) { nx := fun _ H' => Q .non H', rt := Q } [some v, some (.ref p)] H
  | [], done, H, e, _, k, hp => by
    simp at e
    subst e
    exact ⟨_, rfl, hq p H k hp⟩
  | cs :: l, done, H, e, hc, k, hp => by
    have e' : done ++ (cs ++ l.flatten) = all := by simpa using e
    have tot : done.length + (cs.length + l.flatten.length) = all.length := by rw [← e']; simp
    show (rd D W (.meth .extend (.var 1) (.cons (.lst (isis cs)) .nil))).e _ H _
    refine ⟨_, rfl, ty_list hp, ?_⟩
    simp only [rd, mkE, tCons, tNil, tLst]
    refine isis_ok o (h0.kp (KpN.of k)) (hc cs List.mem_cons_self) ⟨by simp only [List.length_map]; rw [sizeLine_eq]; omega, fun a ha => ?_⟩
    have hp1 : upd H a (.lst (cs.map fun d => V.bl (decide (d = c)))) p = some (.lst (done.map fun d => V.bl (decide (d = c)))) := Kp.new (S := []) ha p _ (by simp) hp
    refine r_extend hp1 upd_same (by simp only [List.length_map]; rw [sizeLine_eq]; omega) ?_
    refine kinds1_ok o hn h0 hz hq l (done ++ cs) _ (by simpa using e) (fun cs hcs => hc cs (List.mem_cons_of_mem _ hcs)) (fun b u _ eb => ?_) (by rw [List.map_append]; exact upd_same)
    have nb : b ≠ p := fun z => by rw [z, hn] at eb; cases eb
    rw [upd_ne nb]
    exact Kp.new (S := []) ha b u (by simp) (k b u (by simp) eb)
theorem kinds_ok (o : Dok D K) {l : List (List Str)} (hz : l.flatten.length ≤ 1000) (hc : ∀ cs ∈ l, ∀ d ∈ cs, d ∈ tw.own ∧ d ≠ "CauseError") {Q : VK} {H : Hp} {vs : List V} {E : XK} (h : spKinds K l.flatten vs H Q E) : rdS D W (kindsIs l) { nx := fun _ H' => Q .non H', rt := Q } (start ["e", "found"] vs) H := by
  obtain ⟨v, c, rfl, h, hq⟩ := h
  show rdS D W (kindsIs l) _ [some v, none] H
  unfold kindsIs
  show tSeq _ _ _ _ _
  refine ⟨Nat.zero_le _, fun p hp => ?_⟩
  exact kinds1_ok o hp h hz hq l [] _ (by simp) hc (Kp.new hp) upd_same
def names57 : List Str := kindsA.flatten ++ kindsB.flatten ++ kindsC.flatten ++ kindsD.flatten
theorem sum_ok (o : Dok D K) (ha : ∀ vs H Q E, spKinds K kindsA.flatten vs H Q E → D.Γ "_law_kinds_a" vs H Q E) (hb : ∀ vs H Q E, spKinds K kindsB.flatten vs H Q E → D.Γ "_law_kinds_b" vs H Q E) (hc : ∀ vs H Q E, spKinds K kindsC.flatten vs H Q E → D.Γ "_law_kinds_c" vs H Q E) (hd : ∀ vs H Q E, spKinds K kindsD.flatten vs H Q E → D.Γ "_law_kinds_d" vs H Q E)
    {Q : VK} {H : Hp} {vs : List V} {E : XK} (h : spKinds K names57 vs H Q E) : rdS D W sumIs { nx := fun _ H' => Q .non H', rt := Q } (start ["e"] vs) H := by
  obtain ⟨v, c, rfl, h, hq⟩ := h
  show rdS D W sumIs _ [some v] H
  simp only [sumIs, rdS, rd, mkE, mkB, tSeq, tAsg, gSub, gName, tOp, tVar, tC, tCons, tNil, tCB, tDrop, tRet, tIfS, tTest, tAnd, tOr, tNot, tNext, tIf, tLst, tTup, tUn, mE, tBM, tCallS, truE, Ie.any, Ie.len, List.getElem?_cons_zero, List.getElem?_cons_succ, Option.some.injEq, exists_eq_left', List.set_cons_zero, List.set_cons_succ]
  refine ha _ _ _ _ ⟨v, c, rfl, h, fun p1 H1 k1 e1 => hb _ _ _ _ ⟨v, c, rfl, h.kp (KpN.of k1), fun p2 H2 k2 e2 => ?_⟩⟩
  refine r_cat (k2 _ _ (by simp) e1) e2 (by rw [sizeLine_eq]; simp only [List.length_map]; decide) fun p3 n3 => ?_
  have k3 := (k1.trans k2).trans (Kp.new (S := []) (o := .lst ((kindsA.flatten.map fun d => V.bl (decide (d = c))) ++ (kindsB.flatten.map fun d => V.bl (decide (d = c))))) n3)
  refine hc _ _ _ _ ⟨v, c, rfl, h.kp (KpN.of k3), fun p4 H4 k4 e4 => ?_⟩
  have e3 := k4 _ _ (by simp) (upd_same (H := H2) (a := p3) (o := .lst ((kindsA.flatten.map fun d => V.bl (decide (d = c))) ++ (kindsB.flatten.map fun d => V.bl (decide (d = c))))))
  refine r_cat e3 e4 (by rw [sizeLine_eq]; simp only [List.length_map, List.length_append]; decide) fun p5 n5 => ?_
  have k5 := (k3.trans k4).trans (Kp.new (S := []) (o := .lst (((kindsA.flatten.map fun d => V.bl (decide (d = c))) ++ (kindsB.flatten.map fun d => V.bl (decide (d = c)))) ++ (kindsC.flatten.map fun d => V.bl (decide (d = c))))) n5)
  refine hd _ _ _ _ ⟨v, c, rfl, h.kp (KpN.of k5), fun p6 H6 k6 e6 => ?_⟩
  have e5 := k6 _ _ (by simp) (upd_same (H := H4) (a := p5) (o := .lst (((kindsA.flatten.map fun d => V.bl (decide (d = c))) ++ (kindsB.flatten.map fun d => V.bl (decide (d = c)))) ++ (kindsC.flatten.map fun d => V.bl (decide (d = c))))))
  refine r_cat e5 e6 (by rw [sizeLine_eq]; simp only [List.length_map, List.length_append]; decide) fun p7 n7 => ?_
  refine hq p7 _ ((k5.trans k6).trans (Kp.new n7)) ?_
  rw [upd_same]
  simp only [names57, List.map_append]
end
end K00
end

section
set_option Elab.async false
set_option linter.all false
set_option maxRecDepth 100000
set_option maxHeartbeats 4000000
namespace K00
open PySem PySem.Spec PyProof.Rows L2 CK
theorem eqvAll_bools : ∀ (bs cs : List Bool), PyData.eqvAll (bs.map PyData.bool) (cs.map PyData.bool) = decide (bs = cs)
  | [], [] => rfl
  | [], _ :: _ => by simp [PyData.eqvAll]
  | _ :: _, [] => by simp [PyData.eqvAll]
  | b :: bs, c :: cs => by
    simp only [List.map_cons, PyData.eqvAll, PyData.eqv, eqvAll_bools bs cs]
    by_cases h1 : b = c <;> by_cases h2 : bs = cs <;> simp [h1, h2]
theorem dp_bools {K : PySem.W.Frag} {H : Hp} : ∀ ys : List Bool, DpAll K H (ys.map V.bl) (ys.map PyData.bool)
  | [] => .nil
  | y :: ys => .cons (.bl y) (dp_bools ys)
theorem shaped_bools (ys : List Bool) : SeqAt.shaped (.list (ys.map PyData.bool)) = true := by
  have h : ∀ ys : List Bool, PyData.canLayAll0 (ys.map PyData.bool) = true ∧ PyData.depthAll (ys.map PyData.bool) = 0 := by
    intro ys
    induction ys with
    | nil => exact ⟨rfl, rfl⟩
    | cons y ys ih =>
      constructor
      · simp only [List.map_cons, PyData.canLayAll0, PyData.canLay0, ih.1, Bool.and_self]
      · simp only [List.map_cons, PyData.depthAll, PyData.depth, ih.2, Nat.max_self]
  obtain ⟨h1, h2⟩ := h ys
  unfold SeqAt.shaped
  simp only [PyData.canLay0, h1, PyData.depth, h2, Bool.true_and]
  decide
theorem r_eqBools {K : PySem.W.Frag} {H : Hp} {Q : VK} {p q : Addr} {bs cs : List Bool} (h : H p = some (.lst (bs.map V.bl))) (h2 : H q = some (.lst (cs.map V.bl))) (r : Q (.bl (decide (bs = cs))) H) : rCmp K .Eq (.ref p) (.ref q) H Q := by
  refine .inr ⟨.list (bs.map PyData.bool), .list (cs.map PyData.bool), .lst (CK.SqL.at h) (dp_bools bs), .lst (CK.SqL.at h2) (dp_bools cs), shaped_bools bs, shaped_bools cs, ?_⟩
  have e : PyData.eqv (.list (bs.map PyData.bool)) (.list (cs.map PyData.bool)) = decide (bs = cs) := by
    rw [← eqvAll_bools]
    simp [PyData.eqv]
  rw [e]
  exact r
theorem map_range {c : Str} {k : Nat} : ∀ {ns : List Str} {i : Nat}, ns.Nodup → i ≤ k → ns[k - i]? = some c → ns.map (fun d => decide (d = c)) = (List.range' i ns.length).map fun j => decide (j = k)
  | [], i, _, _, h => by simp at h
  | n :: ns, i, nd, hi, h => by
    have nd' := List.nodup_cons.mp nd
    rw [List.map_cons, List.length_cons, List.range'_succ, List.map_cons]
    by_cases e : i = k
    · subst e
      rw [Nat.sub_self] at h
      have e1 : n = c := by simpa using h
      subst e1
      congr 1
      · simp
      · apply List.ext_getElem
        · simp
        · intro j h1 h2
          simp only [List.getElem_map, List.getElem_range']
          have hm : ns[j]'(by simpa using h1) ∈ ns := List.getElem_mem _
          have n1 : ns[j]'(by simpa using h1) ≠ n := fun z => nd'.1 (by rw [← z]; exact hm)
          have n2 : ¬ (i + 1 + 1 * j = i) := by omega
          rw [decide_eq_false n1, decide_eq_false n2]
    · have hi' : i + 1 ≤ k := by omega
      have h' : ns[k - (i + 1)]? = some c := by
        have e2 : k - i = (k - (i + 1)) + 1 := by omega
        rw [e2] at h
        simpa using h
      have ih := map_range nd'.2 hi' h'
      rw [ih]
      congr 1
      have hm : c ∈ ns := List.mem_of_getElem? h'
      have n1 : n ≠ c := fun z => nd'.1 (by rw [z]; exact hm)
      simp [n1, e]
def spOwn (K : PySem.W.Frag) : Sp := fun vs H Q _ => ∃ v c k, vs = [v, .int (k : Nat)] ∧ ExcV K H v c ∧ names57[k]? = some c ∧ ∀ H', Kp [] H H' → Q (.bl true) H'
theorem names57_nodup : decide names57.Nodup = true := by kernel_rfl
theorem names57_len : names57.length = 57 := by kernel_rfl
theorem not_own : decide (("ValueError" : Str) ∉ tw.own) = true ∧ decide (("LookupError" : Str) ∉ tw.own) = true ∧ decide (("ArithmeticError" : Str) ∉ tw.own) = true ∧ decide (("TypeError" : Str) ∉ tw.own) = true ∧ decide (("CauseError" : Str) ∈ tw.own) = true := by
  refine ⟨?_, ?_, ?_, ?_, ?_⟩ <;> kernel_rfl
section
variable {K : PySem.W.Frag} {D : Dm} {W : WX}
theorem own_ok (o : Dok D K) (ha : ∀ vs H Q E, spKinds K names57 vs H Q E → D.Γ "_law_kinds" vs H Q E) {Q : VK} {H : Hp} {vs : List V} {E : XK} (h : spOwn K vs H Q E) : rdS D W ownIs { nx := fun _ H' => Q .non H', rt := Q } (start ["e", "at", ".0", "k"] vs) H := by
  obtain ⟨v, c, k, rfl, h, hk, hq⟩ := h
  obtain ⟨n1, n2, n3, n4, n5⟩ := not_own
  have hc : c ∈ tw.own := by
    obtain ⟨_, _, _, hc, _, _⟩ := h
    exact hc
  obtain ⟨t1, t2, t3, t4⟩ := o.F.kindT c hc
  show rdS D W ownIs _ [some v, some (.int k), none, none] H
  simp only [ownIs, rdS, rd, mkE, mkB, tSeq, tAsg, gSub, gName, tOp, tVar, tC, tCons, tNil, tCB, tDrop, tRet, tIfS, tTest, tAnd, tOr, tNot, tNext, tIf, tLst, tTup, tUn, mE, tBM, tCallS, truE, Ie.any, Ie.len, List.getElem?_cons_zero, List.getElem?_cons_succ, Option.some.injEq, exists_eq_left', List.set_cons_zero, List.set_cons_succ, tIs, if_true]
  refine is_exc o h (of_decide_eq_true n5) ⟨true, by simp [TruV], ?_⟩
  simp only [Bool.not_true, Bool.false_eq_true, if_false]
  refine is_excT o h (of_decide_eq_true n1) (by decide +kernel) t1 ⟨true, rfl, ?_⟩
  simp only [Bool.not_true, Bool.false_eq_true, if_false]
  refine is_excT o h (of_decide_eq_true n2) (by decide +kernel) t2 ⟨false, rfl, ?_⟩
  simp only [Bool.false_eq_true, if_false]
  refine is_excT o h (of_decide_eq_true n3) (by decide +kernel) t3 ⟨false, rfl, ?_⟩
  simp only [Bool.false_eq_true, if_false]
  refine is_excT o h (of_decide_eq_true n4) (by decide +kernel) t4 ⟨false, rfl, ?_⟩
  simp only [Bool.false_eq_true, if_false]
  refine ha _ _ _ _ ⟨v, c, rfl, h, fun p H1 k1 e1 => ?_⟩
  simp only [tLc, wBi, if_true, iRng1, rdS, rd, mkE, mkB, tSeq, tAsg, gSub, gName, tOp, tVar, tC, tCons, tNil, tCB, tDrop, tRet, tIfS, tTest, tAnd, tOr, tNot, tNext, tIf, tLst, tTup, tUn, mE, tBM, tCallS, truE, Ie.any, Ie.len, List.getElem?_cons_zero, List.getElem?_cons_succ, Option.some.injEq, exists_eq_left', List.set_cons_zero, List.set_cons_succ]
  refine ⟨_, rfl, by decide, by decide, fun Dd hD => ?_⟩
  refine ⟨fun i m H' => i ≤ 57 ∧ H' Dd = some (.lst ((List.range i).map fun j => V.bl (decide (j = k)))) ∧ Kp [] H1 H' ∧ m = 57 - i, ⟨_, by decide, by rw [upd_same]; rfl, Kp.new hD, rfl⟩, ?_⟩
  rintro i m H' ⟨hi, e2, k2, rfl⟩
  by_cases he : i = 57
  · subst he
    refine .inl ⟨Nat.le_refl _, ?_⟩
    have ep := k2 _ _ (by simp) e1
    have eq1 : (names57.map fun d => V.bl (decide (d = c))) = (names57.map fun d => decide (d = c)).map V.bl := by rw [List.map_map]; rfl
    have eq2 : ((List.range 57).map fun j => V.bl (decide (j = k))) = ((List.range 57).map fun j => decide (j = k)).map V.bl := by rw [List.map_map]; rfl
    rw [eq1] at ep
    rw [eq2] at e2
    refine r_eqBools ep e2 ?_
    have e : names57.map (fun d => decide (d = c)) = (List.range 57).map fun j => decide (j = k) := by
      have z := map_range (k := k) (i := 0) (of_decide_eq_true names57_nodup) (Nat.zero_le _) (by simpa using hk)
      rw [names57_len] at z
      rw [z, List.range_eq_range']
    rw [e]
    simp only [decide_true]
    exact hq H' (k1.trans k2)
  · refine .inr ⟨by show i < 57; omega, fun H'' => H'' Dd = some (.lst ((List.range (i + 1)).map fun j => V.bl (decide (j = k)))) ∧ Kp [] H1 H'', fun H'' ⟨f1, f2⟩ => ⟨57 - (i + 1), by omega, by omega, f1, f2, rfl⟩, ?_⟩
    rintro x H'' ⟨rfl, rfl⟩
    refine ⟨rfl, ?_⟩
    simp only [tYes, if_true, wipe, List.set_cons_zero, List.set_cons_succ, rdS, rd, mkE, mkB, tSeq, tAsg, gSub, gName, tOp, tVar, tC, tCons, tNil, tCB, tDrop, tRet, tIfS, tTest, tAnd, tOr, tNot, tNext, tIf, tLst, tTup, tUn, mE, tBM, tCallS, truE, Ie.any, Ie.len, List.getElem?_cons_zero, List.getElem?_cons_succ, Option.some.injEq, exists_eq_left', List.set_cons_zero, List.set_cons_succ]
    refine r_eqI ⟨_, e2, by simp only [List.length_map, List.length_range]; rw [sizeLine_eq]; omega, ?_, ?_⟩
    · rw [upd_same, List.range_succ, List.map_append]
      have e : decide ((0 : Int) + (i : Int) = (k : Int)) = decide (i = k) := by
        by_cases z : i = k
        · subst z; simp
        · have : ¬ ((0 : Int) + (i : Int) = (k : Int)) := by omega
          rw [decide_eq_false this, decide_eq_false z]
      rw [e]
      rfl
    · intro b u nb eb
      have z : b ≠ Dd := fun z => by rw [z, hD] at eb; cases eb
      rw [upd_ne z]
      exact k2 b u nb eb
end
end K00
end

section
set_option Elab.async false
set_option linter.all false
set_option maxRecDepth 100000
set_option maxHeartbeats 8000000
namespace K00
open PySem PySem.Spec PyProof.Rows L2 CK
def scB : V → Bool
  | .non => true
  | .bl _ => true
  | .int _ => true
  | .str _ => true
  | _ => false
/-- the same things, so deep -/
def Sm (K : PySem.W.Frag) (H : Hp) : Nat → V → V → Prop
  | 0, _, _ => False
  | n + 1, v, w => (scB v = true ∧ w = v) ∨
    (∃ a b xs ys, v = .ref a ∧ w = .ref b ∧ ((H a = some (.lst xs) ∧ H b = some (.lst ys)) ∨ (H a = some (.tup xs) ∧ H b = some (.tup ys))) ∧ Paired (Sm K H n) xs ys ∧ xs.length ≤ 1000) ∨
    ∃ d ks, v = .ref d ∧ w = .ref d ∧ H d = some (.dK ks) ∧ (∀ p ∈ ks, scB p.2 = true) ∧ ks.length ≤ 1000 ∧ 3 ≤ n
theorem Sm.kp {K : PySem.W.Frag} {H H' : Hp} (k : KpN H H') : ∀ {n : Nat} {v w : V}, Sm K H n v w → Sm K H' n v w
  | 0, _, _, h => h.elim
  | n + 1, v, w, h => by
    rcases h with h | ⟨a, b, xs, ys, e1, e2, h, hp, hl⟩ | ⟨d, ks, e1, e2, h, hs, hl⟩
    · exact .inl h
    · refine .inr (.inl ⟨a, b, xs, ys, e1, e2, ?_, paired_imp hp fun v w h => Sm.kp k h, hl⟩)
      rcases h with ⟨h1, h2⟩ | ⟨h1, h2⟩
      · exact .inl ⟨k _ _ h1 (fun ps z => by cases z), k _ _ h2 (fun ps z => by cases z)⟩
      · exact .inr ⟨k _ _ h1 (fun ps z => by cases z), k _ _ h2 (fun ps z => by cases z)⟩
    · exact .inr (.inr ⟨d, ks, e1, e2, k _ _ h (fun ps z => by cases z), hs, hl⟩)
def spSame (K : PySem.W.Frag) (n : Nat) : Sp := fun vs H Q _ => ∃ v w, vs = [v, w] ∧ Sm K H n v w ∧ ∀ H', Kp [] H H' → Q (.bl true) H'
theorem not_own2 : decide (("str" : Str) ∉ tw.own) = true ∧ decide (("list" : Str) ∉ tw.own) = true ∧ decide (("tuple" : Str) ∉ tw.own) = true ∧ decide (("dict" : Str) ∉ tw.own) = true ∧ decide (("int" : Str) ∉ tw.own) = true ∧ decide (("bool" : Str) ∉ tw.own) = true := by
  refine ⟨?_, ?_, ?_, ?_, ?_, ?_⟩ <;> kernel_rfl
theorem boots : bootBuiltins ("str" : Str) = some (.type "str") ∧ bootBuiltins ("list" : Str) = some (.type "list") ∧ bootBuiltins ("tuple" : Str) = some (.type "tuple") ∧ bootBuiltins ("dict" : Str) = some (.type "dict") ∧ bootBuiltins ("int" : Str) = some (.type "int") ∧ bootBuiltins ("bool" : Str) = some (.type "bool") := by
  refine ⟨?_, ?_, ?_, ?_, ?_, ?_⟩ <;> decide +kernel
section
variable {K : PySem.W.Frag} {D : Dm} {W : WX}
theorem is_b (o : Dok D K) {H : Hp} {x : V} {T n : String} {C : Str} {b : Bool} {Q : VK} (ty : TyOf K H x (.type T)) (hd : C ∉ tw.own) (hb : bootBuiltins C = some (.type n)) (hk : PySem.W.kitAny K (.type T) [.type n] = some b) (q : Q (.bl b) H) : rIs D [C] x H Q := by
  refine ⟨.type T, [.type n], b, ?_, ?_, ?_, q⟩
  · rw [o.K, o.own]
    simp only [List.map_cons, List.map_nil]
    unfold clsOf
    rw [if_neg hd, hb]
    rfl
  · rw [o.ty]
    exact .inl (.base ty)
  · rw [o.K]
    exact hk
theorem is_b2 (o : Dok D K) {H : Hp} {x : V} {T n n' : String} {C C' : Str} {b : Bool} {Q : VK} (ty : TyOf K H x (.type T)) (hd : C ∉ tw.own) (hb : bootBuiltins C = some (.type n)) (hd' : C' ∉ tw.own) (hb' : bootBuiltins C' = some (.type n')) (hk : PySem.W.kitAny K (.type T) [.type n, .type n'] = some b) (q : Q (.bl b) H) : rIs D [C, C'] x H Q := by
  refine ⟨.type T, [.type n, .type n'], b, ?_, ?_, ?_, q⟩
  · rw [o.K, o.own]
    simp only [List.map_cons, List.map_nil]
    unfold clsOf
    rw [if_neg hd, if_neg hd', hb, hb']
    rfl
  · rw [o.ty]
    exact .inl (.base ty)
  · rw [o.K]
    exact hk
theorem same_ok (o : Dok D K) {n : Nat} (hs : ∀ vs H Q E, spSame K n vs H Q E → D.Γ "_law_same" vs H Q E) {Q : VK} {H : Hp} {vs : List V} {E : XK} (h : spSame K (n + 1) vs H Q E) : rdS D W sameIs { nx := fun _ H' => Q .non H', rt := Q } (start ["found", "due", ".0", "x", "y"] vs) H := by
  obtain ⟨v, w, rfl, h, hq⟩ := h
  obtain ⟨n1, n2, n3, n4, n5, n6⟩ := not_own2
  obtain ⟨b1, b2, b3, b4, b5, b6⟩ := boots
  have n1 := of_decide_eq_true n1
  have n2 := of_decide_eq_true n2
  have n3 := of_decide_eq_true n3
  have n4 := of_decide_eq_true n4
  have n5 := of_decide_eq_true n5
  have n6 := of_decide_eq_true n6
  show rdS D W sameIs _ [some v, some w, none, none, none] H
  rcases h with ⟨sc, rfl⟩ | ⟨a, b, xs, ys, rfl, rfl, hab, hp, hl⟩ | ⟨d, ks, rfl, rfl, hd, hks, hl, h3⟩
  · cases w with
    | non =>
      simp only [sameIs, rdS, rd, mkE, mkB, tSeq, tAsg, gSub, gName, tOp, tVar, tC, tCons, tNil, tCB, tDrop, tRet, tIfS, tTest, tAnd, tOr, tNot, tNext, tIf, tLst, tTup, tUn, mE, tBM, tCallS, truE, Ie.any, Ie.len, List.getElem?_cons_zero, List.getElem?_cons_succ, Option.some.injEq, exists_eq_left', List.set_cons_zero, List.set_cons_succ, tIs, if_true]
      refine r_is ⟨_, rfl, ?_⟩
      rw [if_pos (by simp)]
      exact r_is (by simpa using hq H (Kp.refl _ _))
    | str x =>
      simp only [sameIs, rdS, rd, mkE, mkB, tSeq, tAsg, gSub, gName, tOp, tVar, tC, tCons, tNil, tCB, tDrop, tRet, tIfS, tTest, tAnd, tOr, tNot, tNext, tIf, tLst, tTup, tUn, mE, tBM, tCallS, truE, Ie.any, Ie.len, List.getElem?_cons_zero, List.getElem?_cons_succ, Option.some.injEq, exists_eq_left', List.set_cons_zero, List.set_cons_succ, tIs, if_true]
      refine r_is ⟨_, rfl, ?_⟩
      rw [if_neg (by simp)]
      refine is_b o (.str x) n1 b1 (by kernel_rfl) ⟨true, rfl, ?_⟩
      simp only [if_true, tAndT, rdS, rd, mkE, mkB, tSeq, tAsg, gSub, gName, tOp, tVar, tC, tCons, tNil, tCB, tDrop, tRet, tIfS, tTest, tAnd, tOr, tNot, tNext, tIf, tLst, tTup, tUn, mE, tBM, tCallS, truE, Ie.any, Ie.len, List.getElem?_cons_zero, List.getElem?_cons_succ, Option.some.injEq, exists_eq_left', List.set_cons_zero, List.set_cons_succ, tIs]
      refine is_b o (.str x) n1 b1 (by kernel_rfl) ⟨true, rfl, ?_⟩
      simp only [if_true]
      exact r_eqS (by simpa using hq H (Kp.refl _ _))
    | int i =>
      simp only [sameIs, rdS, rd, mkE, mkB, tSeq, tAsg, gSub, gName, tOp, tVar, tC, tCons, tNil, tCB, tDrop, tRet, tIfS, tTest, tAnd, tOr, tNot, tNext, tIf, tLst, tTup, tUn, mE, tBM, tCallS, truE, Ie.any, Ie.len, List.getElem?_cons_zero, List.getElem?_cons_succ, Option.some.injEq, exists_eq_left', List.set_cons_zero, List.set_cons_succ, tIs, if_true]
      refine r_is ⟨_, rfl, ?_⟩
      rw [if_neg (by simp)]
      refine is_b o (.int i) n1 b1 (by kernel_rfl) ⟨false, rfl, ?_⟩
      simp only [Bool.false_eq_true, if_false]
      intro p hp
      refine is_b2 o (.int i) n2 b2 n3 b3 (by kernel_rfl) ⟨false, rfl, ?_⟩
      simp only [Bool.false_eq_true, if_false]
      refine is_b o (.int i) n4 b4 (by kernel_rfl) ⟨false, rfl, ?_⟩
      simp only [Bool.false_eq_true, if_false, tAndT, rdS, rd, mkE, mkB, tSeq, tAsg, gSub, gName, tOp, tVar, tC, tCons, tNil, tCB, tDrop, tRet, tIfS, tTest, tAnd, tOr, tNot, tNext, tIf, tLst, tTup, tUn, mE, tBM, tCallS, truE, Ie.any, Ie.len, List.getElem?_cons_zero, List.getElem?_cons_succ, Option.some.injEq, exists_eq_left', List.set_cons_zero, List.set_cons_succ, tIs, if_true]
      refine is_b o (.int i) n5 b5 (by kernel_rfl) ⟨true, rfl, ?_⟩
      simp only [if_true]
      refine is_b (b := false) o (.int i) n6 b6 (by kernel_rfl) (is_b (b := false) o (.int i) n6 b6 (by kernel_rfl) (r_eqB ⟨_, rfl, ?_⟩))
      rw [if_pos (by simp)]
      exact r_eqI (by simpa using hq _ (Kp.new hp))
    | bl i =>
      simp only [sameIs, rdS, rd, mkE, mkB, tSeq, tAsg, gSub, gName, tOp, tVar, tC, tCons, tNil, tCB, tDrop, tRet, tIfS, tTest, tAnd, tOr, tNot, tNext, tIf, tLst, tTup, tUn, mE, tBM, tCallS, truE, Ie.any, Ie.len, List.getElem?_cons_zero, List.getElem?_cons_succ, Option.some.injEq, exists_eq_left', List.set_cons_zero, List.set_cons_succ, tIs, if_true]
      refine r_is ⟨_, rfl, ?_⟩
      rw [if_neg (by simp)]
      refine is_b o (.bl i) n1 b1 (by kernel_rfl) ⟨false, rfl, ?_⟩
      simp only [Bool.false_eq_true, if_false]
      intro p hp
      refine is_b2 o (.bl i) n2 b2 n3 b3 (by kernel_rfl) ⟨false, rfl, ?_⟩
      simp only [Bool.false_eq_true, if_false]
      refine is_b o (.bl i) n4 b4 (by kernel_rfl) ⟨false, rfl, ?_⟩
      simp only [Bool.false_eq_true, if_false, tAndT, rdS, rd, mkE, mkB, tSeq, tAsg, gSub, gName, tOp, tVar, tC, tCons, tNil, tCB, tDrop, tRet, tIfS, tTest, tAnd, tOr, tNot, tNext, tIf, tLst, tTup, tUn, mE, tBM, tCallS, truE, Ie.any, Ie.len, List.getElem?_cons_zero, List.getElem?_cons_succ, Option.some.injEq, exists_eq_left', List.set_cons_zero, List.set_cons_succ, tIs, if_true]
      refine is_b o (.bl i) n5 b5 (by kernel_rfl) ⟨true, rfl, ?_⟩
      simp only [if_true]
      refine is_b (b := true) o (.bl i) n6 b6 (by kernel_rfl) (is_b (b := true) o (.bl i) n6 b6 (by kernel_rfl) (r_eqB ⟨_, rfl, ?_⟩))
      rw [if_pos (by simp)]
      exact r_eqB (by simpa using hq _ (Kp.new hp))
    | byt _ => cases sc
    | flt _ => cases sc
    | ref _ => cases sc
    | ty _ => cases sc
  · have len : xs.length = ys.length := Paired.length hp
    -- the comprehension over both, from a heap that has grown
    have body : ∀ (J : It) (H1 : Hp), Kp [] H H1 → (∀ i H', i < xs.length → Kp [] H H' → J.go i H') → (∀ i H' T H'', J.yld i H' T H'' → Kp [] H H' → i < xs.length → ∃ x y t, T = .ref t ∧ H' t = none ∧ H'' = upd H' t (.tup [x, y]) ∧ xs[i]? = some x ∧ ys[i]? = some y) → (∀ H', Kp [] H H' → J.stop xs.length H') →
        ∀ Dd, H1 Dd = none → ∃ Wv : Nat → Nat → Hp → Prop, (∃ m, Wv 0 m (upd H1 Dd (.lst []))) ∧ ∀ i m H', Wv i m H' → (J.stop i H' ∧ (H' Dd = some (.lst ((List.replicate xs.length true).map V.bl)) ∧ Kp [] H H')) ∨ (J.go i H' ∧ ∃ Nx : Hp → Prop, (∀ H', Nx H' → ∃ m', m' < m ∧ Wv (i + 1) m' H') ∧ ∀ x H'', J.yld i H' x H'' →
          (rd D (fun _ _ _ _ => False) (.tup (.cons (.var 3) (.cons (.var 4) .nil)))).g x (wipe [some (.ref a), some (.ref b), none, none, none] [2, 3, 4]) H'' fun σ2 H2 => wipe σ2 [2, 3, 4] = wipe [some (.ref a), some (.ref b), none, none, none] [2, 3, 4] ∧ tYes σ2 H2 fun b H3 =>
            if b = true then (rd D (fun _ _ _ _ => False) (.call "_law_same" (.cons (.var 3) (.cons (.var 4) .nil)))).e σ2 H3 fun y H4 => ∃ acc, H4 Dd = some (.lst acc) ∧ acc.length < sizeLine ∧ Nx (upd H4 Dd (.lst (acc ++ [y]))) else Nx H3) := by
      intro J H1 k1 hgo hyld hstop Dd hD
      refine ⟨fun i m H' => i ≤ xs.length ∧ H' Dd = some (.lst ((List.replicate i true).map V.bl)) ∧ Kp [] H1 H' ∧ m = xs.length - i, ⟨_, Nat.zero_le _, by rw [upd_same]; rfl, Kp.new hD, rfl⟩, ?_⟩
      rintro i m H' ⟨hi, e1, k2, rfl⟩
      by_cases he : i = xs.length
      · subst he
        exact .inl ⟨hstop H' (k1.trans k2), e1, k1.trans k2⟩
      · have hi' : i < xs.length := by omega
        refine .inr ⟨hgo i H' hi' (k1.trans k2), fun H'' => H'' Dd = some (.lst ((List.replicate (i + 1) true).map V.bl)) ∧ Kp [] H1 H'', fun H'' ⟨f1, f2⟩ => ⟨xs.length - (i + 1), by omega, by omega, f1, f2, rfl⟩, ?_⟩
        intro T H'' hy
        obtain ⟨x, y, t, rfl, ht, rfl, ex, ey⟩ := hyld i H' T H'' hy (k1.trans k2) hi'
        have kt : Kp [] H' (upd H' t (.tup [x, y])) := Kp.new ht
        refine .inl ⟨t, [x, y], rfl, CK.SqT.at upd_same, rfl, x, [y], rfl, y, [], rfl, rfl, rfl, ?_⟩
        simp only [tYes, if_true, wipe, List.set_cons_zero, List.set_cons_succ, rdS, rd, mkE, mkB, tSeq, tAsg, gSub, gName, tOp, tVar, tC, tCons, tNil, tCB, tDrop, tRet, tIfS, tTest, tAnd, tOr, tNot, tNext, tIf, tLst, tTup, tUn, mE, tBM, tCallS, truE, Ie.any, Ie.len, List.getElem?_cons_zero, List.getElem?_cons_succ, Option.some.injEq, exists_eq_left', List.set_cons_zero, List.set_cons_succ]
        obtain ⟨y', ey', sm⟩ := LiI.paired_get hp ex
        rw [ey] at ey'
        cases ey'
        refine hs _ _ _ _ ⟨x, y, rfl, sm.kp (KpN.of ((k1.trans k2).trans kt)), fun H3 k3 => ⟨_, k3 _ _ (by simp) (kt _ _ (by simp) e1), by simp only [List.length_map, List.length_replicate]; rw [sizeLine_eq]; omega, ?_, fun c u nc ec => ?_⟩⟩
        · rw [upd_same, List.replicate_succ', List.map_append]
          rfl
        · have z : c ≠ Dd := fun z => by rw [z, hD] at ec; cases ec
          rw [upd_ne z]
          exact k3 _ _ (by simp) (kt _ _ (by simp) (k2 c u nc ec))
    have fin : ∀ Dd H', H' Dd = some (.lst ((List.replicate xs.length true).map V.bl)) → Kp [] H H' → rBi D.K .all [.ref Dd] H' Q := fun Dd H' e k => ⟨Dd, _, rfl, CK.SqL.at e, by
      have z : (List.replicate xs.length true).all id = true := by simp
      rw [z]
      exact hq H' k⟩
    rcases hab with ⟨ha, hb⟩ | ⟨ha, hb⟩
    · simp only [sameIs, rdS, rd, mkE, mkB, tSeq, tAsg, gSub, gName, tOp, tVar, tC, tCons, tNil, tCB, tDrop, tRet, tIfS, tTest, tAnd, tOr, tNot, tNext, tIf, tLst, tTup, tUn, mE, tBM, tCallS, truE, Ie.any, Ie.len, List.getElem?_cons_zero, List.getElem?_cons_succ, Option.some.injEq, exists_eq_left', List.set_cons_zero, List.set_cons_succ, tIs, if_true]
      refine r_is ⟨_, rfl, ?_⟩
      rw [if_neg (by simp)]
      refine is_b o (.lst hb) n1 b1 (by kernel_rfl) ⟨false, rfl, ?_⟩
      simp only [Bool.false_eq_true, if_false]
      intro p hp'
      have kp' : Kp [] H (upd H p (.tup (List.filterMap (fun c => Option.map (fun x => x.fst) (clsOf D.K D.own c)) ["list", "tuple"]))) := Kp.new hp'
      have ha' := kp' _ _ (by simp) ha
      have hb' := kp' _ _ (by simp) hb
      generalize upd H p (.tup (List.filterMap (fun c => Option.map (fun x => x.fst) (clsOf D.K D.own c)) ["list", "tuple"])) = Hc at kp' ha' hb' ⊢
      refine is_b2 o (.lst hb') n2 b2 n3 b3 (by kernel_rfl) ⟨true, rfl, ?_⟩
      simp only [if_true]
      refine is_b (b := true) o (.lst ha') n2 b2 (by kernel_rfl) (is_b (b := true) o (.lst hb') n2 b2 (by kernel_rfl) (r_neB ⟨_, rfl, ?_⟩))
      rw [if_neg (by simp)]
      refine is_b (b := false) o (.lst ha') n3 b3 (by kernel_rfl) (is_b (b := false) o (.lst hb') n3 b3 (by kernel_rfl) (r_neB ⟨_, rfl, ?_⟩))
      rw [if_neg (by simp)]
      simp only [tAndT, rdS, rd, mkE, mkB, tSeq, tAsg, gSub, gName, tOp, tVar, tC, tCons, tNil, tCB, tDrop, tRet, tIfS, tTest, tAnd, tOr, tNot, tNext, tIf, tLst, tTup, tUn, mE, tBM, tCallS, truE, Ie.any, Ie.len, List.getElem?_cons_zero, List.getElem?_cons_succ, Option.some.injEq, exists_eq_left', List.set_cons_zero, List.set_cons_succ]
      refine r_len ha' (r_len hb' (r_eqI ⟨_, rfl, ?_⟩))
      rw [if_pos (by simp [len])]
      simp only [tLc, wBi, if_true, RZ.iZipA, rdS, rd, mkE, mkB, tSeq, tAsg, gSub, gName, tOp, tVar, tC, tCons, tNil, tCB, tDrop, tRet, tIfS, tTest, tAnd, tOr, tNot, tNext, tIf, tLst, tTup, tUn, mE, tBM, tCallS, truE, Ie.any, Ie.len, List.getElem?_cons_zero, List.getElem?_cons_succ, Option.some.injEq, exists_eq_left', List.set_cons_zero, List.set_cons_succ]
      refine ⟨a, b, xs, ys, rfl, .inl ⟨CK.SqL.at ha', CK.SqL.at hb', fun Dd hD => ?_⟩⟩
      obtain ⟨Wv, w0, wt⟩ := body (Itz D.K a b) Hc kp' (fun i H' hi k => ⟨xs, ys, xs[i], ys[i]'(by omega), CK.SqL.at (k _ _ (by simp) ha), CK.SqL.at (k _ _ (by simp) hb), List.getElem?_eq_getElem hi, List.getElem?_eq_getElem (by omega)⟩)
        (fun i H' T H'' ⟨t, x, y, e1, e2, e3, e4, e5⟩ k hi => ⟨x, y, t, e1, e2, e3, e4 xs (CK.SqL.at (k _ _ (by simp) ha)), e5 ys (CK.SqL.at (k _ _ (by simp) hb))⟩) (fun H' k => ⟨xs, ys, CK.SqL.at (k _ _ (by simp) ha), CK.SqL.at (k _ _ (by simp) hb), .inl (Nat.le_refl _)⟩) Dd hD
      refine ⟨Wv, w0, fun i m H' hw => ?_⟩
      rcases wt i m H' hw with ⟨h1, h2, h3⟩ | h
      · exact .inl ⟨h1, fin Dd H' h2 h3⟩
      · exact .inr h
    · simp only [sameIs, rdS, rd, mkE, mkB, tSeq, tAsg, gSub, gName, tOp, tVar, tC, tCons, tNil, tCB, tDrop, tRet, tIfS, tTest, tAnd, tOr, tNot, tNext, tIf, tLst, tTup, tUn, mE, tBM, tCallS, truE, Ie.any, Ie.len, List.getElem?_cons_zero, List.getElem?_cons_succ, Option.some.injEq, exists_eq_left', List.set_cons_zero, List.set_cons_succ, tIs, if_true]
      refine r_is ⟨_, rfl, ?_⟩
      rw [if_neg (by simp)]
      refine is_b o (.tup hb) n1 b1 (by kernel_rfl) ⟨false, rfl, ?_⟩
      simp only [Bool.false_eq_true, if_false]
      intro p hp'
      have kp' : Kp [] H (upd H p (.tup (List.filterMap (fun c => Option.map (fun x => x.fst) (clsOf D.K D.own c)) ["list", "tuple"]))) := Kp.new hp'
      have ha' := kp' _ _ (by simp) ha
      have hb' := kp' _ _ (by simp) hb
      generalize upd H p (.tup (List.filterMap (fun c => Option.map (fun x => x.fst) (clsOf D.K D.own c)) ["list", "tuple"])) = Hc at kp' ha' hb' ⊢
      refine is_b2 o (.tup hb') n2 b2 n3 b3 (by kernel_rfl) ⟨true, rfl, ?_⟩
      simp only [if_true]
      refine is_b (b := false) o (.tup ha') n2 b2 (by kernel_rfl) (is_b (b := false) o (.tup hb') n2 b2 (by kernel_rfl) (r_neB ⟨_, rfl, ?_⟩))
      rw [if_neg (by simp)]
      refine is_b (b := true) o (.tup ha') n3 b3 (by kernel_rfl) (is_b (b := true) o (.tup hb') n3 b3 (by kernel_rfl) (r_neB ⟨_, rfl, ?_⟩))
      rw [if_neg (by simp)]
      simp only [tAndT, rdS, rd, mkE, mkB, tSeq, tAsg, gSub, gName, tOp, tVar, tC, tCons, tNil, tCB, tDrop, tRet, tIfS, tTest, tAnd, tOr, tNot, tNext, tIf, tLst, tTup, tUn, mE, tBM, tCallS, truE, Ie.any, Ie.len, List.getElem?_cons_zero, List.getElem?_cons_succ, Option.some.injEq, exists_eq_left', List.set_cons_zero, List.set_cons_succ]
      refine r_lenT (CK.SqT.at ha') (r_lenT (CK.SqT.at hb') (r_eqI ⟨_, rfl, ?_⟩))
      rw [if_pos (by simp [len])]
      simp only [tLc, wBi, if_true, RZ.iZipA, rdS, rd, mkE, mkB, tSeq, tAsg, gSub, gName, tOp, tVar, tC, tCons, tNil, tCB, tDrop, tRet, tIfS, tTest, tAnd, tOr, tNot, tNext, tIf, tLst, tTup, tUn, mE, tBM, tCallS, truE, Ie.any, Ie.len, List.getElem?_cons_zero, List.getElem?_cons_succ, Option.some.injEq, exists_eq_left', List.set_cons_zero, List.set_cons_succ]
      refine ⟨a, b, xs, ys, rfl, .inr ⟨CK.SqT.at ha', CK.SqT.at hb', fun Dd hD => ?_⟩⟩
      obtain ⟨Wv, w0, wt⟩ := body (RZ.ItzT D.K a b) Hc kp' (fun i H' hi k => ⟨xs, ys, xs[i], ys[i]'(by omega), CK.SqT.at (k _ _ (by simp) ha), CK.SqT.at (k _ _ (by simp) hb), List.getElem?_eq_getElem hi, List.getElem?_eq_getElem (by omega)⟩)
        (fun i H' T H'' ⟨t, x, y, e1, e2, e3, e4, e5⟩ k hi => ⟨x, y, t, e1, e2, e3, e4 xs (CK.SqT.at (k _ _ (by simp) ha)), e5 ys (CK.SqT.at (k _ _ (by simp) hb))⟩) (fun H' k => ⟨xs, ys, CK.SqT.at (k _ _ (by simp) ha), CK.SqT.at (k _ _ (by simp) hb), .inl (Nat.le_refl _)⟩) Dd hD
      refine ⟨Wv, w0, fun i m H' hw => ?_⟩
      rcases wt i m H' hw with ⟨h1, h2, h3⟩ | h
      · exact .inl ⟨h1, fin Dd H' h2 h3⟩
      · exact .inr h
  · simp only [sameIs, rdS, rd, mkE, mkB, tSeq, tAsg, gSub, gName, tOp, tVar, tC, tCons, tNil, tCB, tDrop, tRet, tIfS, tTest, tAnd, tOr, tNot, tNext, tIf, tLst, tTup, tUn, mE, tBM, tCallS, truE, Ie.any, Ie.len, List.getElem?_cons_zero, List.getElem?_cons_succ, Option.some.injEq, exists_eq_left', List.set_cons_zero, List.set_cons_succ, tIs, if_true]
    refine r_is ⟨_, rfl, ?_⟩
    rw [if_neg (by simp)]
    refine is_b o (.dK hd) n1 b1 (by kernel_rfl) ⟨false, rfl, ?_⟩
    simp only [Bool.false_eq_true, if_false]
    intro p hp'
    have kp' : Kp [] H (upd H p (.tup (List.filterMap (fun c => Option.map (fun x => x.fst) (clsOf D.K D.own c)) ["list", "tuple"]))) := Kp.new hp'
    have hd' := kp' _ _ (by simp) hd
    generalize upd H p (.tup (List.filterMap (fun c => Option.map (fun x => x.fst) (clsOf D.K D.own c)) ["list", "tuple"])) = Hc at kp' hd' ⊢
    refine is_b2 o (.dK hd') n2 b2 n3 b3 (by kernel_rfl) ⟨false, rfl, ?_⟩
    simp only [Bool.false_eq_true, if_false]
    refine is_b o (.dK hd') n4 b4 (by kernel_rfl) ⟨true, rfl, ?_⟩
    simp only [if_true, tAndT, rdS, rd, mkE, mkB, tSeq, tAsg, gSub, gName, tOp, tVar, tC, tCons, tNil, tCB, tDrop, tRet, tIfS, tTest, tAnd, tOr, tNot, tNext, tIf, tLst, tTup, tUn, mE, tBM, tCallS, truE, Ie.any, Ie.len, List.getElem?_cons_zero, List.getElem?_cons_succ, Option.some.injEq, exists_eq_left', List.set_cons_zero, List.set_cons_succ, tIs]
    refine is_b o (.dK hd') n4 b4 (by kernel_rfl) ⟨true, rfl, ?_⟩
    simp only [if_true, LiI.tListItems, rdS, rd, mkE, mkB, tSeq, tAsg, gSub, gName, tOp, tVar, tC, tCons, tNil, tCB, tDrop, tRet, tIfS, tTest, tAnd, tOr, tNot, tNext, tIf, tLst, tTup, tUn, mE, tBM, tCallS, truE, Ie.any, Ie.len, List.getElem?_cons_zero, List.getElem?_cons_succ, Option.some.injEq, exists_eq_left', List.set_cons_zero, List.set_cons_succ, LiI.rItemsL]
    refine ⟨d, ks, rfl, hd', fun H1 p1 ts1 k1 f1 g1 q1 e1 pr1 => ?_⟩
    refine ⟨d, ks, rfl, k1 _ _ hd', fun H2 p2 ts2 k2 f2 g2 q2 e2 pr2 => ?_⟩
    obtain ⟨m, rfl⟩ : ∃ m, n = m + 3 := ⟨n - 3, by omega⟩
    have kk : Kp [] H H2 := fun a o _ e => k2 _ _ (k1 _ _ (kp' a o (by simp) e))
    refine hs _ _ _ _ ⟨.ref p1, .ref p2, rfl, .inr (.inl ⟨p1, p2, ts1.map V.ref, ts2.map V.ref, rfl, rfl, .inl ⟨k2 _ _ e1, e2⟩, ?_, ?_⟩), fun H3 k3 => hq H3 (kk.trans k3)⟩
    · have go : ∀ {ts1 ts2 : List Addr} {ks : List (Key × V)}, (∀ p ∈ ks, scB p.2 = true) → Paired (fun (t : Addr) (q : Key × V) => H1 t = some (.tup [kV q.1, q.2])) ts1 ks → Paired (fun (t : Addr) (q : Key × V) => H2 t = some (.tup [kV q.1, q.2])) ts2 ks → Paired (Sm K H2 (m + 2)) (ts1.map V.ref) (ts2.map V.ref) := by
        intro ts1 ts2 ks hks r1
        induction r1 generalizing ts2 with
        | nil =>
          intro r2
          cases r2
          exact .nil
        | cons h1 t1 ih =>
          intro r2
          cases r2 with
          | cons h2 t2 =>
            rename_i a q _ _ a2 _
            have sk : scB (kV q.1) = true := by cases q.1 <;> rfl
            exact .cons (.inr (.inl ⟨a, a2, [kV q.1, q.2], [kV q.1, q.2], rfl, rfl, .inr ⟨k2 _ _ h1, h2⟩, .cons (.inl ⟨sk, rfl⟩) (.cons (.inl ⟨hks q List.mem_cons_self, rfl⟩) .nil), by show (2 : Nat) ≤ 1000; decide⟩)) (ih (fun p hp => hks p (List.mem_cons_of_mem _ hp)) t2)
      exact go hks pr1 pr2
    · rw [List.length_map, Paired.length pr1]
      exact hl
theorem these_ok {n : Nat} (hs : ∀ vs H Q E, spSame K n vs H Q E → D.Γ "_law_same" vs H Q E) {Q : VK} {H : Hp} {vs : List V} {E : XK} (h : spSame K n vs H Q E) : rdS D W theseIs { nx := fun _ H' => Q .non H', rt := Q } (start ["found", "due"] vs) H := by
  obtain ⟨v, w, rfl, h, hq⟩ := h
  show rdS D W theseIs _ [some v, some w] H
  simp only [theseIs, rdS, rd, mkE, mkB, tSeq, tAsg, gSub, gName, tOp, tVar, tC, tCons, tNil, tCB, tDrop, tRet, tIfS, tTest, tAnd, tOr, tNot, tNext, tIf, tLst, tTup, tUn, mE, tBM, tCallS, truE, Ie.any, Ie.len, List.getElem?_cons_zero, List.getElem?_cons_succ, Option.some.injEq, exists_eq_left', List.set_cons_zero, List.set_cons_succ]
  exact hs _ _ _ _ ⟨v, w, rfl, h, hq⟩
end
end K00
end

section
set_option Elab.async false
set_option linter.all false
set_option maxRecDepth 100000
set_option maxHeartbeats 8000000
namespace K00
open PySem PySem.Spec PyProof.Rows L2 CK
/-- a field's list by the lambda -/
def spLam (K : PySem.W.Frag) (q : Str) (r : RowD) : Sp := fun vs H Q _ => ∃ m xs, vs = [.ref m] ∧ ExAt K H m r xs ∧ xs.length = r.fs.length ∧ ∀ l H', H' l = some (.lst xs) → Kp [] H H' → Q (.ref l) H'
theorem rows_own : (allRows.all fun r => decide (r.c ∈ tw.own)) = true := by kernel_rfl
theorem names_rows : names57 = allRows.map (·.c) := by kernel_rfl
theorem row_own {r : RowD} (h : r ∈ allRows) : r.c ∈ tw.own := of_decide_eq_true (List.all_eq_true.mp rows_own r h)
section
variable {K : PySem.W.Frag} {D : Dm} {W : WX}
theorem lam_res (hD : D.K = K) (F : KF K) {q : Str} {r : RowD} (hr : r ∈ allRows) {vs : List V} {H : Hp} {Q : VK} {E : XK} (h : spLam K q r vs H Q E) : ΛR D (lamI q r) vs H Q E := by
  obtain ⟨m, xs, rfl, hm, hl, hq⟩ := h
  refine ⟨rfl, ?_⟩
  show (rd D _ (.lst (atts r.fs))).e [some (.ref m)] H Q
  have X := F.exc r.c (row_own hr)
  rcases shape hr with ⟨e, _⟩ | ⟨f, e, _⟩ | ⟨f, g, ne, e, _⟩
  · rw [e] at hl ⊢
    have ex : xs = [] := List.length_eq_zero_iff.mp hl
    subst ex
    simp only [atts, rdS, rd, mkE, mkB, tSeq, tAsg, gSub, gName, tOp, tVar, tC, tCons, tNil, tCB, tDrop, tRet, tIfS, tTest, tAnd, tOr, tNot, tNext, tIf, tLst, tTup, tUn, mE, tBM, tCallS, truE, Ie.any, Ie.len, List.getElem?_cons_zero, List.getElem?_cons_succ, Option.some.injEq, exists_eq_left', List.set_cons_zero, List.set_cons_succ]
    exact ⟨Nat.zero_le _, fun l hn => hq l _ upd_same (Kp.new hn)⟩
  · have nf := F.nof r hr
    rw [e] at hl nf ⊢
    obtain ⟨x, rfl⟩ : ∃ x, xs = [x] := by
      match xs, hl with
      | [x], _ => exact ⟨x, rfl⟩
    rcases hm with ⟨e', _⟩ | ⟨dx, es, h1, h2, h3⟩
    · rw [e] at e'
      cases e'
    · rw [e] at h3
      simp only [atts, rdS, rd, mkE, mkB, tSeq, tAsg, gSub, gName, tOp, tVar, tC, tCons, tNil, tCB, tDrop, tRet, tIfS, tTest, tAnd, tOr, tNot, tNext, tIf, tLst, tTup, tUn, mE, tBM, tCallS, truE, Ie.any, Ie.len, List.getElem?_cons_zero, List.getElem?_cons_succ, Option.some.injEq, exists_eq_left', List.set_cons_zero, List.set_cons_succ, tAtt]
      refine ⟨m, _, dx, es, x, rfl, by rw [hD]; exact X, by rw [hD]; exact nf f (by simp), h1, h2, h3 0 f x rfl rfl, ?_⟩
      exact ⟨by rw [sizeLine_eq]; show (1 : Nat) ≤ _; decide, fun l hn => hq l _ upd_same (Kp.new hn)⟩
  · have nf := F.nof r hr
    rw [e] at hl nf ⊢
    obtain ⟨x, y, rfl⟩ : ∃ x y, xs = [x, y] := by
      match xs, hl with
      | [x, y], _ => exact ⟨x, y, rfl⟩
    rcases hm with ⟨e', _⟩ | ⟨dx, es, h1, h2, h3⟩
    · rw [e] at e'
      cases e'
    · rw [e] at h3
      simp only [atts, rdS, rd, mkE, mkB, tSeq, tAsg, gSub, gName, tOp, tVar, tC, tCons, tNil, tCB, tDrop, tRet, tIfS, tTest, tAnd, tOr, tNot, tNext, tIf, tLst, tTup, tUn, mE, tBM, tCallS, truE, Ie.any, Ie.len, List.getElem?_cons_zero, List.getElem?_cons_succ, Option.some.injEq, exists_eq_left', List.set_cons_zero, List.set_cons_succ, tAtt]
      refine ⟨m, _, dx, es, x, rfl, by rw [hD]; exact X, by rw [hD]; exact nf f (by simp), h1, h2, h3 0 f x rfl rfl, ?_⟩
      refine ⟨m, _, dx, es, y, rfl, by rw [hD]; exact X, by rw [hD]; exact nf g (by simp), h1, h2, h3 1 g y rfl rfl, ?_⟩
      exact ⟨by rw [sizeLine_eq]; show (2 : Nat) ≤ _; decide, fun l hn => hq l _ upd_same (Kp.new hn)⟩
/-- what the law asks of the promises below it -/
structure Lo (D : Dm) (K : PySem.W.Frag) : Prop where
  o : Dok D K
  P : D.P = tw.P
  start : ∀ vs H Q E, spStart K vs H Q E → D.Γ "_law_start" vs H Q E
  mixed : ∀ vs H Q E, spMixed K vs H Q E → D.Γ "_law_mixed" vs H Q E
  ma : ∀ vs H Q E, spMade K D.T "_law_made_a.<locals>.<lambda>" rowsA vs H Q E → D.Γ "_law_made_a" vs H Q E
  mb : ∀ vs H Q E, spMade K D.T "_law_made_b.<locals>.<lambda>" rowsB vs H Q E → D.Γ "_law_made_b" vs H Q E
  mc : ∀ vs H Q E, spMade K D.T "_law_made_c.<locals>.<lambda>" rowsC vs H Q E → D.Γ "_law_made_c" vs H Q E
  md : ∀ vs H Q E, spMade K D.T "_law_made_d.<locals>.<lambda>" rowsD vs H Q E → D.Γ "_law_made_d" vs H Q E
  kinds : ∀ vs H Q E, spKinds K names57 vs H Q E → D.Γ "_law_kinds" vs H Q E
  own : ∀ vs H Q E, spOwn K vs H Q E → D.Γ "_law_is_own" vs H Q E
  these : ∀ vs H Q E, spSame K 5 vs H Q E → D.Γ "_law_are_these" vs H Q E
  lam : ∀ q, ∀ r ∈ allRows, ∀ vs H Q E, spLam K q r vs H Q E → D.Λ (lamI q r) vs H Q E
/-- a row, wherever its lambda's table lies -/
def RowE (K : PySem.W.Frag) (x y : V) (p : Addr) (H : Hp) (v : V) (r : RowD) : Prop := ∃ q li, li ≠ p ∧ RowAt K q H v li r (xsOf r x y)
theorem RowE.kp {x y : V} {p : Addr} {H H' : Hp} {v : V} {r : RowD} (h : RowE K x y p H v r) (k : KpN H H') : RowE K x y p H' v r := by
  obtain ⟨q, li, n, h⟩ := h
  exact ⟨q, li, n, h.kp k⟩
theorem rows_in : ∀ r, (r ∈ rowsA → r ∈ allRows) ∧ (r ∈ rowsB → r ∈ allRows) ∧ (r ∈ rowsC → r ∈ allRows) ∧ (r ∈ rowsD → r ∈ allRows) := fun r => by
  unfold allRows
  refine ⟨fun h => ?_, fun h => ?_, fun h => ?_, fun h => ?_⟩ <;> simp [h]
theorem rows_lens : rowsA.length = 18 ∧ rowsB.length = 18 ∧ rowsC.length = 18 ∧ rowsD.length = 3 := by
  refine ⟨?_, ?_, ?_, ?_⟩ <;> kernel_rfl
/-- a list of few against one of many -/
theorem ne_few {H : Hp} {l p : Addr} {xs rs : List V} (h1 : H l = some (.lst xs)) (h2 : H p = some (.lst rs)) (n : xs.length ≠ rs.length) : l ≠ p := fun z => by
  rw [z, h2] at h1
  exact n (by rw [HO.lst.inj (Option.some.inj h1)])
theorem rowE_any {x y : V} {p p' : Addr} {H : Hp} {v : V} {r : RowD} {rs : List V} (hr : r ∈ allRows) (h : RowE K x y p H v r) (hp : H p' = some (.lst rs)) (n : 2 < rs.length) : RowE K x y p' H v r := by
  obtain ⟨q, li, _, h⟩ := h
  have h' := h
  obtain ⟨a, m, t, f, c, e, h1, h2, h3, h4, h5, h6⟩ := h'
  refine ⟨q, li, ne_few h6 hp ?_, h⟩
  have := (xsOf_len (x := x) (y := y) hr).2
  omega
theorem paired_mem {α β : Type} {F G : α → β → Prop} : ∀ {xs : List α} {ys : List β}, Paired F xs ys → (∀ x y, y ∈ ys → F x y → G x y) → Paired G xs ys
  | _, _, .nil, _ => .nil
  | _, _, .cons h t, k => .cons (k _ _ List.mem_cons_self h) (paired_mem t fun x y hy => k x y (List.mem_cons_of_mem _ hy))
theorem both_ok (L : Lo D K) {i j k : Nat} {x y z : V} {σ : L2.St} (hi : σ[i]? = some (some x)) (hj : σ[j]? = some (some y)) (hk : σ[k]? = some (some z)) (h7 : 7 < σ.length) (i7 : i ≠ 7) (j7 : j ≠ 7) (k7 : k ≠ 7) {H : Hp} (T : LamX.Tabs D.T H) {rest : Is} {Dx : Ends}
    (hq : ∀ p rs H', KpN H H' → LamX.Tabs D.T H' → H' p = some (.lst rs) → rs.length = 57 → Paired (RowE K x y p H') rs allRows → rdS D W rest Dx (σ.set 7 (some (.ref p))) H') :
    rdS D W (.seq (.set (.var 7) (sumRows i j k)) (.seq (.expr (.meth .extend (.var 7) (.cons (rowD i j k) .nil))) rest)) Dx σ H := by
  have oK := L.o.K
  obtain ⟨la, lb, lc, ld⟩ := rows_lens
  simp only [sumRows, rowD, rdS, rd, mkE, mkB, tSeq, tAsg, gSub, gName, tOp, tVar, tC, tCons, tNil, tCB, tDrop, tRet, tIfS, tTest, tAnd, tOr, tNot, tNext, tIf, tLst, tTup, tUn, mE, tBM, tCallS, truE, Ie.any, Ie.len, List.getElem?_cons_zero, List.getElem?_cons_succ, Option.some.injEq, exists_eq_left', List.set_cons_zero, List.set_cons_succ]
  refine ⟨x, hi, y, hj, z, hk, L.ma _ _ _ _ ⟨x, y, z, rfl, T, fun p1 r1 H1 k1 T1 e1 pr1 => ⟨x, hi, y, hj, z, hk, L.mb _ _ _ _ ⟨x, y, z, rfl, T1, fun p2 r2 H2 k2 T2 e2 pr2 => ?_⟩⟩⟩⟩
  have n1 : r1.length = 18 := (Paired.length pr1).trans la
  have n2 : r2.length = 18 := (Paired.length pr2).trans lb
  refine r_cat (k2 _ _ e1 (fun ps z => by cases z)) e2 (by rw [n1, n2, sizeLine_eq]; decide) fun p3 f3 => ?_
  have k3 : Kp [] H2 (upd H2 p3 (.lst (r1 ++ r2))) := Kp.new f3
  refine ⟨x, hi, y, hj, z, hk, L.mc _ _ _ _ ⟨x, y, z, rfl, T2.ext fun a o e => k3 a o (by simp) e, fun p4 r4 H4 k4 T4 e4 pr4 => ?_⟩⟩
  have n4 : r4.length = 18 := (Paired.length pr4).trans lc
  have e3 : H4 p3 = some (.lst (r1 ++ r2)) := k4 _ _ upd_same (fun ps z => by cases z)
  refine r_cat e3 e4 (by rw [List.length_append, n1, n2, n4, sizeLine_eq]; decide) fun p5 f5 => ?_
  have k5 : Kp [] H4 (upd H4 p5 (.lst (r1 ++ r2 ++ r4))) := Kp.new f5
  have e5 : upd H4 p5 (.lst (r1 ++ r2 ++ r4)) p5 = some (.lst (r1 ++ r2 ++ r4)) := upd_same
  generalize upd H4 p5 (.lst (r1 ++ r2 ++ r4)) = H5 at k5 e5 ⊢
  have T5 : LamX.Tabs D.T H5 := T4.ext fun a o e => k5 a o (by simp) e
  have s7 : (σ.set 7 (some (.ref p5)))[7]? = some (some (.ref p5)) := by rw [List.getElem?_set_self h7]
  have si : (σ.set 7 (some (.ref p5)))[i]? = some (some x) := by rw [List.getElem?_set_ne (Ne.symm i7)]; exact hi
  have sj : (σ.set 7 (some (.ref p5)))[j]? = some (some y) := by rw [List.getElem?_set_ne (Ne.symm j7)]; exact hj
  have sk : (σ.set 7 (some (.ref p5)))[k]? = some (some z) := by rw [List.getElem?_set_ne (Ne.symm k7)]; exact hk
  refine ⟨_, s7, ty_list e5, x, si, y, sj, z, sk, L.md _ _ _ _ ⟨x, y, z, rfl, T5, fun p6 r6 H6 k6 T6 e6 pr6 => ?_⟩⟩
  have n6 : r6.length = 3 := (Paired.length pr6).trans ld
  have e5' : H6 p5 = some (.lst (r1 ++ r2 ++ r4)) := k6 _ _ e5 (fun ps z => by cases z)
  have l5 : (r1 ++ r2 ++ r4).length = 54 := by rw [List.length_append, List.length_append, n1, n2, n4]
  refine r_extend e5' e6 (by rw [l5, n6, sizeLine_eq]; decide) ?_
  have toE : ∀ {q : Str} {Hx : Hp} {px : Addr} {rs : List V} {l : List RowD}, (∀ r ∈ l, r ∈ allRows) → KpN Hx H6 → Paired (fun v r => ∃ li, li ≠ px ∧ RowAt K q Hx v li r (xsOf r x y)) rs l → Paired (RowE K x y p5 (upd H6 p5 (.lst (r1 ++ r2 ++ r4 ++ r6)))) rs l := by
    intro q Hx px rs l hl kx pr
    refine paired_mem pr fun v r hr ⟨li, n, h⟩ => ?_
    obtain ⟨q', li', n', h'⟩ := rowE_any (p' := p5) (hl r hr) (RowE.kp (p := px) ⟨q, li, n, h⟩ kx) e5' (by rw [l5]; decide)
    exact ⟨q', li', n', h'.wr e5' n'⟩
  refine hq p5 (r1 ++ r2 ++ r4 ++ r6) _ (fun a o e no => ?_) (tabs_wr e5' T6) upd_same (by rw [List.length_append, l5, n6]) ?_
  · have ka := k6 _ _ (k5 _ _ (by simp) (k4 _ _ (k3 _ _ (by simp) (k2 _ _ (k1 _ _ e no) no)) no)) no
    have na : a ≠ p5 := fun z => by
      have kz := k4 _ _ (k3 _ _ (by simp) (k2 _ _ (k1 _ _ e no) no)) no
      rw [z, f5] at kz
      cases kz
    rw [upd_ne na]
    exact ka
  · unfold allRows
    have kA : KpN H2 H6 := fun a o e no => k6 _ _ (k5 _ _ (by simp) (k4 _ _ (k3 _ _ (by simp) e) no)) no
    refine paired_app (paired_app (paired_app (toE (fun r h => (rows_in r).1 h) (fun a o e no => kA a o (k2 _ _ e no) no) pr1) (toE (fun r h => (rows_in r).2.1 h) kA pr2)) (toE (fun r h => (rows_in r).2.2.1 h) (fun a o e no => k6 _ _ (k5 _ _ (by simp) e) no) pr4)) (toE (fun r h => (rows_in r).2.2.2 h) (fun a o e no => e) pr6)

/-! ### the loops -/
theorem exV {r : RowD} (hr : r ∈ allRows) {H : Hp} {m : Addr} {xs : List V} (h : ExAt K H m r xs) : ExcV K H (.ref m) r.c := by
  rcases h with ⟨_, h⟩ | ⟨dx, es, h, h2, _⟩
  · exact ⟨m, none, rfl, row_own hr, h, fun dx e => by cases e⟩
  · exact ⟨m, some dx, rfl, row_own hr, h, fun dy e => by cases e; exact ⟨es, h2⟩⟩
theorem paired_self {F : V → V → Prop} : ∀ {xs : List V}, (∀ x ∈ xs, F x x) → Paired F xs xs
  | [], _ => .nil
  | x :: xs, h => .cons (h x List.mem_cons_self) (paired_self fun y hy => h y (List.mem_cons_of_mem _ hy))
/-- a row's fields are kept -/
theorem kept_ok (L : Lo D K) {r : RowD} (hr : r ∈ allRows) {q : Str} {σ : L2.St} {H : Hp} {m t f c l : Addr} {xs : List V} (h9 : σ[9]? = some (some (.ref m))) (h10 : σ[10]? = some (some (.ref t))) (h11 : σ[11]? = some (some (.ref f))) (h12 : σ[12]? = some (some (.ref l)))
    (em : ExAt K H m r xs) (et : ExAt K H t r xs) (ef : H f = some (LmO tw.P f c (lamI q r))) (ec : H c = some (LamX.CodeO c q)) (el : H l = some (.lst xs)) (hl : xs.length = r.fs.length) (hs : ∀ x ∈ xs, Sm K H 4 x x) {Dx : Ends} (hq : ∀ H', Kp [] H H' → Dx.nx σ H') : rdS D W keptIs Dx σ H := by
  have two : xs.length ≤ 2 := by
    rw [hl]
    rcases shape hr with ⟨e, _⟩ | ⟨f, e, _⟩ | ⟨f, g, _, e, _⟩ <;> rw [e] <;> simp
  have one : ∀ {i : Nat} {m : Addr} {Hc : Hp} {Q : VK}, σ[i]? = some (some (.ref m)) → ExAt K H m r xs → Kp [] H Hc → (∀ H', Kp [] Hc H' → Q (.bl true) H') → (rd D W (.call "_law_are_these" (.cons (.callv 11 (.cons (.var i) .nil)) (.cons (.var 12) .nil)))).e σ Hc Q := by
    intro i m Hc Q hi em k hQ
    simp only [rdS, rd, mkE, mkB, tSeq, tAsg, gSub, gName, tOp, tVar, tC, tCons, tNil, tCB, tDrop, tRet, tIfS, tTest, tAnd, tOr, tNot, tNext, tIf, tLst, tTup, tUn, mE, tBM, tCallS, truE, Ie.any, Ie.len, List.getElem?_cons_zero, List.getElem?_cons_succ, Option.some.injEq, exists_eq_left', List.set_cons_zero, List.set_cons_succ, tCallV]
    refine ⟨f, c, lamI q r, h11, by rw [L.P]; exact k _ _ (by simp) ef, .ref m, hi, by rw [L.P]; exact k _ _ (by simp) ef, k _ _ (by simp) ec, L.lam q r hr _ _ _ _ ⟨m, xs, rfl, em.kp (KpN.of k), hl, fun l' H1 e1 k1 => ⟨.ref l, h12, L.these _ _ _ _ ⟨.ref l', .ref l, rfl, .inr (.inl ⟨l', l, xs, xs, rfl, rfl, .inl ⟨e1, k1 _ _ (by simp) (k _ _ (by simp) el)⟩, paired_self fun x hx => (hs x hx).kp (KpN.of (k.trans k1)), by omega⟩), fun H' k' => hQ H' (k1.trans k')⟩⟩⟩⟩
  have go := one h9 em (Kp.refl _ H) (Q := fun x H1 => ∃ kk, TruV D.K x H1 kk ∧ if (if (!kk) = true then true else false) = true then Dx.rt (.bl false) H1 else Dx.nx σ H1)
  simp only [keptIs]
  show (rd D W (.or (.not (.call "_law_are_these" (.cons (.callv 11 (.cons (.var 9) .nil)) (.cons (.var 12) .nil)))) (.not (.call "_law_are_these" (.cons (.callv 11 (.cons (.var 10) .nil)) (.cons (.var 12) .nil)))))).t σ H _
  show (rd D W (.call "_law_are_these" (.cons (.callv 11 (.cons (.var 9) .nil)) (.cons (.var 12) .nil)))).e σ H _
  refine one h9 em (Kp.refl _ H) fun H1 k1 => ⟨true, rfl, ?_⟩
  simp only [Bool.not_true, Bool.false_eq_true, if_false]
  show (rd D W (.call "_law_are_these" (.cons (.callv 11 (.cons (.var 10) .nil)) (.cons (.var 12) .nil)))).e σ H1 _
  refine one h10 et k1 fun H2 k2 => ⟨true, rfl, ?_⟩
  simp only [Bool.not_true, Bool.false_eq_true, if_false]
  exact hq H2 (k1.trans k2)
theorem names_at {i : Nat} {r : RowD} (h : allRows[i]? = some r) : names57[i]? = some r.c := by
  rw [names_rows, List.getElem?_map, h]
  rfl
theorem loop1_ok (L : Lo D K) {i : Nat} {r : RowD} (hi : allRows[i]? = some r) {q : Str} {σ : L2.St} {H : Hp} {m t f c l : Addr} {xs : List V} (h8 : σ[8]? = some (some (.int i))) (h9 : σ[9]? = some (some (.ref m))) (h10 : σ[10]? = some (some (.ref t))) (h11 : σ[11]? = some (some (.ref f))) (h12 : σ[12]? = some (some (.ref l)))
    (em : ExAt K H m r xs) (et : ExAt K H t r xs) (ef : H f = some (LmO tw.P f c (lamI q r))) (ec : H c = some (LamX.CodeO c q)) (el : H l = some (.lst xs)) (hl : xs.length = r.fs.length) (hs : ∀ x ∈ xs, Sm K H 4 x x) {Dx : Ends} (hq : ∀ H', Kp [] H H' → Dx.nx σ H') : rdS D W loop1 Dx σ H := by
  have hr : r ∈ allRows := List.mem_of_getElem? hi
  simp only [loop1]
  show (rd D W (.call "_law_is_own" (.cons (.var 9) (.cons (.var 8) .nil)))).e σ H _
  simp only [rd, mkE, tCallS, tCons, tNil, tVar]
  refine ⟨_, h9, _, h8, L.own _ _ _ _ ⟨.ref m, r.c, i, rfl, exV hr em, names_at hi, fun H1 k1 => ⟨true, rfl, ?_⟩⟩⟩
  simp only [Bool.not_true, Bool.false_eq_true, if_false]
  show (rd D W (.call "_law_is_own" (.cons (.var 10) (.cons (.var 8) .nil)))).e σ H1 _
  simp only [rd, mkE, tCallS, tCons, tNil, tVar]
  refine ⟨_, h10, _, h8, L.own _ _ _ _ ⟨.ref t, r.c, i, rfl, exV hr (et.kp (KpN.of k1)), names_at hi, fun H2 k2 => ⟨true, rfl, ?_⟩⟩⟩
  simp only [Bool.not_true, Bool.false_eq_true, if_false]
  have k := k1.trans k2
  show rdS D W keptIs _ σ H2
  exact kept_ok L hr h9 h10 h11 h12 (em.kp (KpN.of k)) (et.kp (KpN.of k)) (k _ _ (by simp) ef) (k _ _ (by simp) ec) (k _ _ (by simp) el) hl (fun x hx => (hs x hx).kp (KpN.of k)) fun H' k' => hq H' (k.trans k')
end
end K00
end

section
set_option Elab.async false
set_option linter.all false
set_option maxRecDepth 100000
set_option maxHeartbeats 8000000
namespace K00
open PySem PySem.Spec PyProof.Rows L2 CK
section
variable {K : PySem.W.Frag} {D : Dm} {W : WX}
/-- what is new in H2 against H1 stands in H -/
def Nw (H1 H2 H : Hp) : Prop := ∀ a o, H1 a = none → (∀ ps, o ≠ .tbl ps) → H2 a = some o → H a = some o
theorem kp_none {H H' : Hp} {a : Addr} (k : Kp [] H H') (n : H' a = none) : H a = none := by
  cases z : H a with
  | none => rfl
  | some o => rw [k a o (by simp) z] at n; cases n
theorem some_ok {σ : L2.St} {H : Hp} {Q : VK} (hq : ∀ l xs H', xs.length = 15 → (∀ x ∈ xs, ∀ Hx, Nw H H' Hx → Sm K Hx 4 x x) → H' l = some (.lst xs) → H l = none → Kp [] H H' → Q (.ref l) H') : (rd D W someIe).e σ H Q := by
  simp only [someIe, rdS, rd, mkE, mkB, tSeq, tAsg, gSub, gName, tOp, tVar, tC, tCons, tNil, tCB, tDrop, tRet, tIfS, tTest, tAnd, tOr, tNot, tNext, tIf, tLst, tTup, tUn, mE, tBM, tCallS, truE, Ie.any, Ie.len, List.getElem?_cons_zero, List.getElem?_cons_succ, Option.some.injEq, exists_eq_left', List.set_cons_zero, List.set_cons_succ, rU]
  refine ⟨_, rfl, ?_⟩
  refine ⟨by rw [sizeLine_eq]; show (2 : Nat) ≤ _; decide, fun p1 f1 => ?_⟩
  refine ⟨by rw [sizeLine_eq]; show (2 : Nat) ≤ _; decide, fun p2 f2 => ?_⟩
  intro p3 f3
  have f3' := f3
  refine ⟨upd_same, [(.inr "a", .int 1)], rfl, by show (1 : Nat) ≤ 15; decide, ?_⟩
  have k1 : Kp [] H (upd H p1 (.lst [V.int 1, V.str "b"])) := Kp.new f1
  have e1 : upd H p1 (.lst [V.int 1, V.str "b"]) p1 = some (.lst [V.int 1, V.str "b"]) := upd_same
  generalize upd H p1 (.lst [V.int 1, V.str "b"]) = H1 at k1 e1 f2 f3 f3' ⊢
  have k2 : Kp [] H1 (upd H1 p2 (.tup [V.int 2, V.non])) := Kp.new f2
  have e2 : upd H1 p2 (.tup [V.int 2, V.non]) p2 = some (.tup [V.int 2, V.non]) := upd_same
  generalize upd H1 p2 (.tup [V.int 2, V.non]) = H2 at k2 e2 f3 f3' ⊢
  have k3 : Kp [] H2 (upd (upd H2 p3 (.dK [])) p3 (.dK (mergeK [] [(.inr "a", .int 1)]))) := fun a o n e => by
    have na : a ≠ p3 := Kp.ne e f3
    rw [upd_ne na, upd_ne na]
    exact e
  have e3 : upd (upd H2 p3 (.dK [])) p3 (.dK (mergeK [] [(.inr "a", .int 1)])) p3 = some (.dK [(.inr "a", .int 1)]) := upd_same
  generalize upd (upd H2 p3 (.dK [])) p3 (.dK (mergeK [] [(.inr "a", .int 1)])) = H3 at k3 e3 ⊢
  refine ⟨by rw [sizeLine_eq]; show (1 : Nat) ≤ _; decide, fun p4 f4 => ⟨by rw [sizeLine_eq]; show (1 : Nat) ≤ _; decide, fun p5 f5 => ?_⟩⟩
  have f5' := f5
  have k4 : Kp [] H3 (upd H3 p4 (.lst [V.str "x"])) := Kp.new f4
  have e4 : upd H3 p4 (.lst [V.str "x"]) p4 = some (.lst [V.str "x"]) := upd_same
  generalize upd H3 p4 (.lst [V.str "x"]) = H4 at k4 e4 f5 f5' ⊢
  have k5 : Kp [] H4 (upd H4 p5 (.lst [V.ref p4])) := Kp.new f5
  have e5 : upd H4 p5 (.lst [V.ref p4]) p5 = some (.lst [V.ref p4]) := upd_same
  generalize upd H4 p5 (.lst [V.ref p4]) = H5 at k5 e5 ⊢
  refine r_pow ⟨by decide, by decide, by decide⟩ ⟨by rw [sizeLine_eq]; show (2 : Nat) ≤ _; decide, fun p6 f6 => ?_⟩
  have k6 : Kp [] H5 (upd H5 p6 (.tup [V.str "s", V.int 3])) := Kp.new f6
  have e6 : upd H5 p6 (.tup [V.str "s", V.int 3]) p6 = some (.tup [V.str "s", V.int 3]) := upd_same
  generalize upd H5 p6 (.tup [V.str "s", V.int 3]) = H6 at k6 e6 ⊢
  refine ⟨by rw [sizeLine_eq]; show (15 : Nat) ≤ _; decide, fun p7 f7 => ?_⟩
  have kk := k1.trans (k2.trans (k3.trans (k4.trans (k5.trans k6))))
  have n7 : H p7 = none := by
    cases z : H p7 with
    | none => rfl
    | some o => rw [kk p7 o (by simp) z] at f7; cases f7
  have k7 : ∀ xs, Kp [] H6 (upd H6 p7 (.lst xs)) := fun xs => Kp.new f7
  refine hq p7 _ _ rfl ?_ upd_same n7 (kk.trans (k7 _))
  have sc : ∀ {n : Nat} {H : Hp} {v : V}, scB v = true → Sm K H (n + 1) v v := fun h => .inl ⟨h, rfl⟩
  have g1 := k7 [V.non, V.int 5, V.int (-1), V.bl true, V.str "a", V.str "", V.ref p1, V.ref p2, V.ref p3, V.ref p5, V.int (10 ^ Int.toNat 30), V.ref p6, V.bl false, V.int 0, V.int 1]
  generalize upd H6 p7 (.lst [V.non, V.int 5, V.int (-1), V.bl true, V.str "a", V.str "", V.ref p1, V.ref p2, V.ref p3, V.ref p5, V.int (10 ^ Int.toNat 30), V.ref p6, V.bl false, V.int 0, V.int 1]) = H7 at g1
  have a1 := g1 _ _ (by simp) (k6 _ _ (by simp) (k5 _ _ (by simp) (k4 _ _ (by simp) (k3 _ _ (by simp) (k2 _ _ (by simp) e1)))))
  have a2 := g1 _ _ (by simp) (k6 _ _ (by simp) (k5 _ _ (by simp) (k4 _ _ (by simp) (k3 _ _ (by simp) e2))))
  have a3 := g1 _ _ (by simp) (k6 _ _ (by simp) (k5 _ _ (by simp) (k4 _ _ (by simp) e3)))
  have a4 := g1 _ _ (by simp) (k6 _ _ (by simp) (k5 _ _ (by simp) e4))
  have a5 := g1 _ _ (by simp) (k6 _ _ (by simp) e5)
  have a6 := g1 _ _ (by simp) e6
  have o1 : H p1 = none := f1
  have o2 : H p2 = none := kp_none k1 f2
  have o3 : H p3 = none := kp_none (k1.trans k2) f3'
  have o4 : H p4 = none := kp_none (k1.trans (k2.trans k3)) f4
  have o5 : H p5 = none := kp_none (k1.trans (k2.trans (k3.trans k4))) f5'
  have o6 : H p6 = none := kp_none (k1.trans (k2.trans (k3.trans (k4.trans k5)))) f6
  have two : ∀ {n : Nat} {Hx : Hp} {x y : V}, scB x = true → scB y = true → Paired (Sm K Hx (n + 1)) [x, y] [x, y] := fun hx hy => .cons (sc hx) (.cons (sc hy) .nil)
  have all : ∀ Hx, Nw H H7 Hx → ∀ x ∈ [V.non, V.int 5, V.int (-1), V.bl true, V.str "a", V.str "", V.ref p1, V.ref p2, V.ref p3, V.ref p5, V.int (10 ^ Int.toNat 30), V.ref p6, V.bl false, V.int 0, V.int 1], Sm K Hx 4 x x := by
    intro Hx nw x hx
    have a1 := nw _ _ o1 (fun ps z => by cases z) a1
    have a2 := nw _ _ o2 (fun ps z => by cases z) a2
    have a3 := nw _ _ o3 (fun ps z => by cases z) a3
    have a4 := nw _ _ o4 (fun ps z => by cases z) a4
    have a5 := nw _ _ o5 (fun ps z => by cases z) a5
    have a6 := nw _ _ o6 (fun ps z => by cases z) a6
    simp only [List.mem_cons, List.not_mem_nil, or_false] at hx
    rcases hx with rfl | rfl | rfl | rfl | rfl | rfl | rfl | rfl | rfl | rfl | rfl | rfl | rfl | rfl | rfl
    · exact sc rfl
    · exact sc rfl
    · exact sc rfl
    · exact sc rfl
    · exact sc rfl
    · exact sc rfl
    · exact .inr (.inl ⟨p1, p1, _, _, rfl, rfl, .inl ⟨a1, a1⟩, two rfl rfl, by show (2 : Nat) ≤ _; decide⟩)
    · exact .inr (.inl ⟨p2, p2, _, _, rfl, rfl, .inr ⟨a2, a2⟩, two rfl rfl, by show (2 : Nat) ≤ _; decide⟩)
    · exact .inr (.inr ⟨p3, _, rfl, rfl, a3, fun p hp => by
        have e : p = (.inr "a", .int 1) := by simpa using hp
        rw [e]; rfl, by show (1 : Nat) ≤ _; decide, by decide⟩)
    · exact .inr (.inl ⟨p5, p5, _, _, rfl, rfl, .inl ⟨a5, a5⟩, .cons (.inr (.inl ⟨p4, p4, _, _, rfl, rfl, .inl ⟨a4, a4⟩, .cons (sc rfl) .nil, by show (1 : Nat) ≤ _; decide⟩)) .nil, by show (1 : Nat) ≤ _; decide⟩)
    · exact sc rfl
    · exact .inr (.inl ⟨p6, p6, _, _, rfl, rfl, .inr ⟨a6, a6⟩, two rfl rfl, by show (2 : Nat) ≤ _; decide⟩)
    · exact sc rfl
    · exact sc rfl
    · exact sc rfl
  exact fun x hx Hx nw => all Hx nw x hx

theorem paired_at {α β : Type} {F : α → β → Prop} : ∀ {xs : List α} {ys : List β}, Paired F xs ys → ∀ {i : Nat} {x : α}, xs[i]? = some x → ∃ y, ys[i]? = some y ∧ F x y := fun h _ _ e => LiI.paired_get h e
theorem xsOf_mem {r : RowD} {x y v : V} (h : v ∈ xsOf r x y) : v = x ∨ v = y := by
  unfold xsOf at h
  have := List.mem_of_mem_take h
  simpa using this
/-- the rows of a turn -/
theorem for1_ok (L : Lo D K) {x y : V} {p : Addr} {H : Hp} {rs : List V} {a0 s0 l0 t3 v4 v5 v6 v8 v9 v10 v11 v12 v13 v14 : Option V} (ep : H p = some (.lst rs)) (hn : rs.length = 57) (pr : Paired (RowE K x y p H) rs allRows) (sx : Sm K H 4 x x) (sy : Sm K H 4 y y) {Dx : Ends}
    (hq : ∀ H' v8 v9 v10 v11 v12, Kp [] H H' → Dx.nx [a0, s0, l0, t3, v4, v5, v6, some (.ref p), v8, v9, v10, v11, v12, v13, v14] H') :
    rdS D W (.for (.tup (.cons (.var 8) (.cons (.tup (.cons (.var 9) (.cons (.var 10) (.cons (.var 11) (.cons (.var 12) .nil))))) .nil))) (.bi .enumerate (.cons (.var 7) .nil)) loop1) Dx [a0, s0, l0, t3, v4, v5, v6, some (.ref p), v8, v9, v10, v11, v12, v13, v14] H := by
  show tFor _ _ _ _ _ _
  refine ⟨.ref p, rfl, p, rs, rfl, CK.SqL.at ep, ?_⟩
  refine ⟨fun i m σ H' => i ≤ 57 ∧ m = 57 - i ∧ Kp [] H H' ∧ ∃ v8 v9 v10 v11 v12, σ = [a0, s0, l0, t3, v4, v5, v6, some (.ref p), v8, v9, v10, v11, v12, v13, v14], ⟨_, Nat.zero_le _, rfl, Kp.refl _ _, v8, v9, v10, v11, v12, rfl⟩, ?_⟩
  rintro i m σ H' ⟨hi, rfl, k, w8, w9, w10, w11, w12, rfl⟩
  have ep' := k _ _ (by simp) ep
  by_cases he : i = 57
  · exact .inl ⟨⟨rs, CK.SqL.at ep', by omega⟩, hq H' _ _ _ _ _ k⟩
  · have hi' : i < rs.length := by omega
    refine .inr ⟨⟨rs, rs[i], CK.SqL.at ep', List.getElem?_eq_getElem hi'⟩, fun σ' H'' => Kp [] H H'' ∧ ∃ v8 v9 v10 v11 v12, σ' = [a0, s0, l0, t3, v4, v5, v6, some (.ref p), v8, v9, v10, v11, v12, v13, v14], fun σ' H'' ⟨f1, f2⟩ => ⟨57 - (i + 1), by omega, by omega, rfl, f1, f2⟩, ?_⟩
    rintro T H'' ⟨t, v, rfl, ht, rfl, hv⟩
    have ev := hv rs (CK.SqL.at ep')
    obtain ⟨r, er, q, li, _, a, m, tw', f, c, rfl, h1, h2, h3, h4, h5, h6⟩ := paired_at pr ev
    have hr : r ∈ allRows := List.mem_of_getElem? er
    have kt : Kp [] H' (upd H' t (.tup [.int (i : Nat), .ref a])) := Kp.new ht
    have kk := k.trans kt
    refine .inl ⟨t, [.int (i : Nat), .ref a], rfl, CK.SqT.at upd_same, rfl, .int i, [.ref a], rfl, ?_⟩
    refine ⟨.ref a, [], rfl, .inl ⟨a, [.ref m, .ref tw', .ref f, .ref li], rfl, CK.SqT.at (kk _ _ (by simp) h1), rfl, ?_⟩⟩
    refine ⟨_, _, rfl, _, _, rfl, _, _, rfl, _, _, rfl, rfl, rfl, ?_⟩
    refine loop1_ok L (q := q) (m := m) (t := tw') (f := f) (c := c) (l := li) (xs := xsOf r x y) er rfl rfl rfl rfl rfl (h2.kp (KpN.of kk)) (h3.kp (KpN.of kk)) (kk _ _ (by simp) h4) (kk _ _ (by simp) h5) (kk _ _ (by simp) h6) (xsOf_len hr).1 (fun z hz => ?_) fun H3 k3 => ⟨kk.trans k3, _, _, _, _, _, rfl⟩
    rcases xsOf_mem hz with rfl | rfl
    · exact sx.kp (KpN.of kk)
    · exact sy.kp (KpN.of kk)
/-- the rows of the held list -/
theorem for2_ok (L : Lo D K) {x : V} {p : Addr} {H : Hp} {rs : List V} {a0 s0 l0 t3 v4 v5 v6 v8 v9 v10 v11 v12 v13 v14 : Option V} (ep : H p = some (.lst rs)) (hn : rs.length = 57) (pr : Paired (RowE K x x p H) rs allRows) (sx : Sm K H 4 x x) {Dx : Ends}
    (hq : ∀ H' v9 v10 v11 v12, Kp [] H H' → Dx.nx [a0, s0, l0, t3, v4, v5, v6, some (.ref p), v8, v9, v10, v11, v12, v13, v14] H') :
    rdS D W (.for (.tup (.cons (.var 9) (.cons (.var 10) (.cons (.var 11) (.cons (.var 12) .nil))))) (.var 7) keptIs) Dx [a0, s0, l0, t3, v4, v5, v6, some (.ref p), v8, v9, v10, v11, v12, v13, v14] H := by
  show tFor _ _ _ _ _ _
  refine ⟨.ref p, rfl, .inl ⟨p, rfl, ⟨rs, CK.SqL.at ep⟩, ?_⟩⟩
  refine ⟨fun i m σ H' => i ≤ 57 ∧ m = 57 - i ∧ Kp [] H H' ∧ ∃ v9 v10 v11 v12, σ = [a0, s0, l0, t3, v4, v5, v6, some (.ref p), v8, v9, v10, v11, v12, v13, v14], ⟨_, Nat.zero_le _, rfl, Kp.refl _ _, v9, v10, v11, v12, rfl⟩, ?_⟩
  rintro i m σ H' ⟨hi, rfl, k, w9, w10, w11, w12, rfl⟩
  have ep' := k _ _ (by simp) ep
  by_cases he : i = 57
  · exact .inl ⟨⟨rs, CK.SqL.at ep', by omega⟩, hq H' _ _ _ _ k⟩
  · have hi' : i < rs.length := by omega
    refine .inr ⟨⟨rs, rs[i], CK.SqL.at ep', List.getElem?_eq_getElem hi'⟩, fun σ' H'' => Kp [] H H'' ∧ ∃ v9 v10 v11 v12, σ' = [a0, s0, l0, t3, v4, v5, v6, some (.ref p), v8, v9, v10, v11, v12, v13, v14], fun σ' H'' ⟨f1, f2⟩ => ⟨57 - (i + 1), by omega, by omega, rfl, f1, f2⟩, ?_⟩
    rintro T H'' ⟨rfl, hv⟩
    have ev := hv rs (CK.SqL.at ep')
    obtain ⟨r, er, q, li, _, a, m, tw', f, c, rfl, h1, h2, h3, h4, h5, h6⟩ := paired_at pr ev
    have hr : r ∈ allRows := List.mem_of_getElem? er
    refine .inl ⟨a, [.ref m, .ref tw', .ref f, .ref li], rfl, CK.SqT.at (k _ _ (by simp) h1), rfl, ?_⟩
    refine ⟨_, _, rfl, _, _, rfl, _, _, rfl, _, _, rfl, rfl, ?_⟩
    refine kept_ok L hr (q := q) (m := m) (t := tw') (f := f) (c := c) (l := li) (xs := xsOf r x x) rfl rfl rfl rfl (h2.kp (KpN.of k)) (h3.kp (KpN.of k)) (k _ _ (by simp) h4) (k _ _ (by simp) h5) (k _ _ (by simp) h6) (xsOf_len hr).1 (fun z hz => ?_) fun H3 k3 => ⟨k.trans k3, _, _, _, _, rfl⟩
    rcases xsOf_mem hz with rfl | rfl <;> exact sx.kp (KpN.of k)
def spLaw (K : PySem.W.Frag) (T : List (Addr × Str)) : Sp := fun vs H Q _ => ∃ (a : Addr) (ys : List Int), vs = [.ref a] ∧ SqL K H a (ys.map V.int) ∧ ys.length ≤ 100000 ∧ LamX.Tabs T H ∧ ∀ H', Q (.bl true) H'
theorem end_ok (L : Lo D K) {σ : L2.St} {H : Hp} {Q : VK} (h14 : 14 < σ.length) (hq : ∀ H', Q (.bl true) H') : rdS D W endIs { nx := fun _ H' => Q .non H', rt := Q } σ H := by
  have o := L.o
  have n1 := of_decide_eq_true not_own.1
  obtain ⟨t1, _⟩ := o.F.kindT "CauseError" (of_decide_eq_true not_own.2.2.2.2)
  simp only [endIs, rdS, rd, mkE, mkB, tSeq, tAsg, gSub, gName, tOp, tVar, tC, tCons, tNil, tCB, tDrop, tRet, tIfS, tTest, tAnd, tOr, tNot, tNext, tIf, tLst, tTup, tUn, mE, tBM, tCallS, truE, Ie.any, Ie.len, List.getElem?_cons_zero, List.getElem?_cons_succ, Option.some.injEq, exists_eq_left', List.set_cons_zero, List.set_cons_succ, tMk0, tIs, if_true, tAndT]
  intro a hn
  have s14 : (σ.set 14 (some (.ref a)))[14]? = some (some (.ref a)) := by rw [List.getElem?_set_self h14]
  have ex : ExcV K (upd H a (exo a (He.ga D.K "CauseError") none)) (.ref a) "CauseError" := ⟨a, none, rfl, of_decide_eq_true not_own.2.2.2.2, by rw [o.K]; exact upd_same, fun dx e => by cases e⟩
  refine ⟨_, s14, is_excT o ex n1 (by decide +kernel) t1 ⟨true, rfl, ?_⟩⟩
  simp only [if_true]
  refine ⟨_, s14, L.kinds _ _ _ _ ⟨_, _, rfl, ex, fun p H' k e => ?_⟩⟩
  refine .inl ⟨p, _, rfl, .inl (CK.SqL.at e), rfl, ?_, ?_⟩
  · rw [List.all_eq_true]
    intro v hv
    obtain ⟨d, _, rfl⟩ := List.mem_map.mp hv
    rfl
  · have z : inV (.bl true) (names57.map fun (d : Str) => V.bl (decide (d = "CauseError"))) = false := by
      unfold inV
      rw [List.any_eq_false]
      intro v hv
      obtain ⟨d, hd, rfl⟩ := List.mem_map.mp hv
      have nd : d ≠ "CauseError" := fun z => by
        have w : decide (("CauseError" : Str) ∈ names57) = false := by kernel_rfl
        rw [z] at hd
        exact absurd hd (of_decide_eq_false w)
      rw [decide_eq_false nd]
      decide
    rw [z]
    exact hq H'
end
end K00
end

section
set_option Elab.async false
set_option linter.all false
set_option maxRecDepth 100000
set_option maxHeartbeats 400000
namespace K00
open PySem PySem.Spec PyProof.Rows L2 CK
section
variable {K : PySem.W.Frag} {D : Dm} {W : WX}
theorem s_seq {a b : Is} {E : Ends} {σ : L2.St} {H : Hp} (h : rdS D W a { E with nx := fun σ' H' => rdS D W b E σ' H' } σ H) : rdS D W (.seq a b) E σ H := h
theorem s_set {i : Nat} {e : Ie} {E : Ends} {σ : L2.St} {H : Hp} (h : (rd D W e).e σ H fun x H' => E.nx (σ.set i (some x)) H') : rdS D W (.set (.var i) e) E σ H := h
theorem s_call {f : Str} {as : Ie} {σ : L2.St} {H : Hp} {Q : VK} (h : (rd D W as).a σ H fun vs H' => D.Γ f vs H' Q (WE W σ)) : (rd D W (.call f as)).e σ H Q := h
theorem a_nil {σ : L2.St} {H : Hp} {Q : List V → Hp → Prop} (h : Q [] H) : (rd D W .nil).a σ H Q := h
theorem a_var {i : Nat} {as : Ie} {v : V} {σ : L2.St} {H : Hp} {Q : List V → Hp → Prop} (e : σ[i]? = some (some v)) (h : (rd D W as).a σ H fun vs H' => Q (v :: vs) H') : (rd D W (.cons (.var i) as)).a σ H Q := ⟨v, e, h⟩
theorem held_ok (L : Lo D K) {Q : VK} (hq : ∀ H', Q (.bl true) H') {v0 v1 v2 v3 v4 v5 v6 v7 v8 v9 v10 v11 v12 v13 v14 : Option V} {H3 : Hp} (T3 : LamX.Tabs D.T H3) : rdS D W heldIs { nx := fun _ H' => Q .non H', rt := Q } [v0, v1, v2, v3, v4, v5, v6, v7, v8, v9, v10, v11, v12, v13, v14] H3 := by
  unfold heldIs
  refine s_seq (s_set ?_)
  simp only [rd, mkE, tLst, tCons, tNil, tC]
  refine ⟨by rw [sizeLine_eq]; show (1 : Nat) ≤ _; decide, fun h fh => ?_⟩
  have k3 : Kp [] H3 (upd H3 h (.lst [V.str "v"])) := Kp.new fh
  have e3 : upd H3 h (.lst [V.str "v"]) h = some (.lst [V.str "v"]) := upd_same
  generalize upd H3 h (.lst [V.str "v"]) = Hh at k3 e3 ⊢
  refine both_ok L (i := 13) (j := 13) (k := 13) (x := .ref h) (y := .ref h) (z := .ref h) rfl rfl rfl (by show 7 < 15; decide) (by decide) (by decide) (by decide) (T3.ext fun a o e => k3 a o (by simp) e) fun p rs H4 k4 T4 e4 n4 pr4 => ?_
  have eh : H4 h = some (.lst [V.str "v"]) := k4 _ _ e3 (fun ps z => by cases z)
  have hp : h ≠ p := ne_few eh e4 (by rw [n4]; decide)
  refine s_seq ?_
  simp only [rdS, rd, mkE, mE, tDrop, tBM, Ie.any, tVar, tCons, tNil, tC]
  refine ⟨_, rfl, ty_list eh, r_append eh (by rw [sizeLine_eq]; show (1 : Nat) < _; decide) ?_⟩
  have pr5 : Paired (RowE K (.ref h) (.ref h) p (upd H4 h (.lst ([V.str "v"] ++ [V.str "w"])))) rs allRows := paired_mem pr4 fun v r hr ⟨q', li, n, hrow⟩ => by
    have hrow' := hrow
    obtain ⟨a, m, t, f, c, e, g1, g2, g3, g4, g5, g6⟩ := hrow'
    refine ⟨q', li, n, hrow.wr eh fun z => ?_⟩
    rw [z, eh] at g6
    have z2 := HO.lst.inj (Option.some.inj g6)
    rcases shape hr with ⟨e, _⟩ | ⟨f, e, _⟩ | ⟨f, g, _, e, _⟩ <;> (unfold xsOf at z2; rw [e] at z2; simp at z2)
  have e5 : upd H4 h (.lst ([V.str "v"] ++ [V.str "w"])) p = some (.lst rs) := by rw [upd_ne (Ne.symm hp)]; exact e4
  have e6 : upd H4 h (.lst ([V.str "v"] ++ [V.str "w"])) h = some (.lst [V.str "v", V.str "w"]) := upd_same
  generalize upd H4 h (.lst ([V.str "v"] ++ [V.str "w"])) = H5 at pr5 e5 e6 ⊢
  refine s_seq (for2_ok L (x := .ref h) e5 n4 pr5 (.inr (.inl ⟨h, h, _, _, rfl, rfl, .inl ⟨e6, e6⟩, .cons (.inl ⟨rfl, rfl⟩) (.cons (.inl ⟨rfl, rfl⟩) .nil), by show (2 : Nat) ≤ _; decide⟩)) fun H' v9 v10 v11 v12 k' => ?_)
  exact end_ok L (by show 14 < 15; decide) hq
end
end K00
end

section
set_option Elab.async false
set_option linter.all false
set_option maxRecDepth 100000
set_option maxHeartbeats 400000
namespace K00
open PySem PySem.Spec PyProof.Rows L2 CK
section
variable {K : PySem.W.Frag} {D : Dm} {W : WX}
theorem turn_ok (L : Lo D K) {a s l q : Addr} {xs : List V} {v3 v4 v5 v6 v7 v8 v9 v10 v11 v12 v13 v14 : Option V} {ys : List Int} {b c d : Int} {H : Hp} (S : Stm H s q ys b c d) (hc : c + 15 < 1000000) (lx : xs.length = 15) {H1 H2 : Hp} (sm : ∀ x ∈ xs, ∀ Hx, Nw H1 H2 Hx → Sm K Hx 4 x x) (nw : Nw H1 H2 H) (s1 : ∃ o, H1 s = some o) (q1 : ∃ o, H1 q = some o) (el : H l = some (.lst xs)) (ls : l ≠ s) (lq : l ≠ q) (T : LamX.Tabs D.T H) {E : Ends}
    (hq : ∀ H' ys' b' d' v4 v5 v6 v7 v8 v9 v10 v11 v12, LamX.Tabs D.T H' → Nw H1 H2 H' → H' l = some (.lst xs) → Stm H' s q ys' b' (c + 15) d' → E.nx [some (.ref a), some (.ref s), some (.ref l), v3, v4, v5, v6, v7, v8, v9, v10, v11, v12, v13, v14] H') :
    rdS D W turnIs E [some (.ref a), some (.ref s), some (.ref l), v3, v4, v5, v6, v7, v8, v9, v10, v11, v12, v13, v14] H := by
  unfold turnIs
  refine s_seq ?_
  generalize hE2 : ({ E with nx := fun σ' H' => rdS D W (.seq (.set (.var 7) (sumRows 4 5 6)) (.seq (.expr (.meth .extend (.var 7) (.cons (rowD 4 5 6) .nil))) (.for (.tup (.cons (.var 8) (.cons (.tup (.cons (.var 9) (.cons (.var 10) (.cons (.var 11) (.cons (.var 12) .nil))))) .nil))) (.bi .enumerate (.cons (.var 7) .nil)) loop1))) E σ' H' } : Ends) = E2
  simp only [rdS, rd, mkE, tAsg, L2.tSl, tNoPart, tPart, tC, tCallS, tCons, tNil, tVar]
  refine ⟨_, rfl, _, rfl, L.mixed _ _ _ _ ⟨s, l, xs, q, ys, b, c, d, rfl, S, by rw [lx]; omega, .inl (CK.SqL.at el), by rw [lx]; decide, fun r zs ys4 b4 d4 H4 pm er nr S4 k4 => ?_⟩⟩
  have lz : zs.length = 15 := pm.length_eq.trans lx
  obtain ⟨z0, z1, z2, zr, rfl⟩ : ∃ z0 z1 z2 zr, zs = z0 :: z1 :: z2 :: zr := by
    match zs, lz with
    | z0 :: z1 :: z2 :: zr, _ => exact ⟨z0, z1, z2, zr, rfl⟩
  refine ⟨3, rfl, .inl ⟨r, _, rfl, CK.SqL.at er, fun p hp => ?_⟩⟩
  have ecut : cutV (z0 :: z1 :: z2 :: zr) none (some 3) = [z0, z1, z2] := by
    unfold cutV HT.sIx
    simp
  rw [ecut]
  have k5 : Kp [] H4 (upd H4 p (.lst [z0, z1, z2])) := Kp.new hp
  have e5 : upd H4 p (.lst [z0, z1, z2]) p = some (.lst [z0, z1, z2]) := upd_same
  generalize upd H4 p (.lst [z0, z1, z2]) = H5 at k5 e5 ⊢
  have el4 : H4 l = some (.lst xs) := k4 _ _ (by simp [ls, lq]) el
  have T4 : LamX.Tabs D.T H4 := by
    intro t ht
    obtain ⟨ps, h1, h2, h3⟩ := T t ht
    have ne : ∀ {b : Addr} {o : HO}, H b = some o → (∀ zs, o ≠ .lst zs) → b ∉ [s, q] := fun {b o} e d z => by
      simp only [List.mem_cons, List.not_mem_nil, or_false] at z
      rcases z with z | z
      · rw [z, S.at_] at e; exact d _ (Option.some.inj e).symm
      · rw [z, S.cells] at e; exact d _ (Option.some.inj e).symm
    refine ⟨ps, k4 _ _ (ne h1 fun zs z => by cases z) h1, h2, fun pos cv hc => ?_⟩
    obtain ⟨c, e1, e2⟩ := h3 pos cv hc
    exact ⟨c, e1, k4 _ _ (ne e2 fun zs => ext_ne_lst) e2⟩
  have nw5 : Nw H1 H2 H5 := fun a o n t e => by
    refine k5 a o (by simp) (k4 a o ?_ (nw a o n t e))
    simp only [List.mem_cons, List.not_mem_nil, or_false]
    rintro (z | z)
    · obtain ⟨u, hu⟩ := s1
      rw [z, hu] at n
      cases n
    · obtain ⟨u, hu⟩ := q1
      rw [z, hu] at n
      cases n
  refine .inr ⟨p, _, rfl, CK.SqL.at e5, rfl, z0, _, rfl, z1, _, rfl, z2, _, rfl, rfl, ?_⟩
  rw [← hE2]
  show rdS D W _ E [some (.ref a), some (.ref s), some (.ref l), v3, some z0, some z1, some z2, v7, v8, v9, v10, v11, v12, v13, v14] H5
  refine both_ok L (σ := [some (.ref a), some (.ref s), some (.ref l), v3, some z0, some z1, some z2, v7, v8, v9, v10, v11, v12, v13, v14]) (i := 4) (j := 5) (k := 6) (x := z0) (y := z1) (z := z2) rfl rfl rfl (by show 7 < 15; decide) (by decide) (by decide) (by decide) (T4.ext fun a o e => k5 a o (by simp) e) fun pr rs H6 k6 T6 e6 n6 pr6 => ?_
  have nw6 : Nw H1 H2 H6 := fun a o n t e => k6 a o (nw5 a o n t e) t
  have el6 : H6 l = some (.lst xs) := k6 _ _ (k5 _ _ (by simp) el4) (fun ps z => by cases z)
  have S6 : Stm H6 s q ys4 b4 (c + 15) d4 := by
    have e : c + (xs.length : Int) = c + 15 := by rw [lx]; rfl
    rw [e] at S4
    exact { S4 with at_ := k6 _ _ (k5 _ _ (by simp) S4.at_) (fun ps z => by cases z), cells := k6 _ _ (k5 _ _ (by simp) S4.cells) (fun ps z => by cases z) }
  have m0 : z0 ∈ xs := pm.mem_iff.mp (by simp)
  have m1 : z1 ∈ xs := pm.mem_iff.mp (by simp)
  refine for1_ok L e6 n6 pr6 (sm z0 m0 H6 nw6) (sm z1 m1 H6 nw6) fun H7 v8 v9 v10 v11 v12 k7 => ?_
  exact hq H7 ys4 b4 d4 _ _ _ _ _ _ _ _ _ (T6.ext fun a o e => k7 a o (by simp) e) (fun a o n t e => k7 a o (by simp) (nw6 a o n t e)) (k7 _ _ (by simp) el6) (S6.kp k7)
theorem law_ok (L : Lo D K) {Q : VK} {H : Hp} {vs : List V} {E : XK} (h : spLaw K D.T vs H Q E) : rdS D W lawIs { nx := fun _ H' => Q .non H', rt := Q } (start ["script", "stream", "some", "turn", "x", "y", "z", "rows_made", "at", "mine", "twin", "field", "due", "held", "base"] vs) H := by
  obtain ⟨a, ys, rfl, hs, few, T, hq⟩ := h
  show rdS D W lawIs _ [some (.ref a), none, none, none, none, none, none, none, none, none, none, none, none, none, none] H
  unfold lawIs
  refine s_seq (s_set (s_call (a_var rfl (a_nil (L.start _ _ _ _ ⟨a, ys, rfl, hs, few, fun s q H1 S1 k1 ns nq => ?_⟩)))))
  refine s_seq (s_set (some_ok (K := K) fun l xs H2 lx sm el nl k2 => ?_))
  have T2 : LamX.Tabs D.T H2 := T.ext fun a o e => k2 a o (by simp) (k1 a o (by simp) e)
  have S2 := S1.kp k2
  have ls : l ≠ s := fun z => by rw [z, S1.at_] at nl; cases nl
  have lq : l ≠ q := fun z => by rw [z, S1.cells] at nl; cases nl
  refine s_seq ?_
  show tFor _ _ _ _ _ _
  refine ⟨2, rfl, by decide, by decide, ?_⟩
  refine ⟨fun i m σ H' => i ≤ 2 ∧ m = 2 - i ∧ LamX.Tabs D.T H' ∧ Nw H1 H2 H' ∧ H' l = some (.lst xs) ∧ (∃ ys' b c d, Stm H' s q ys' b c d ∧ c ≤ 15 * i) ∧ ∃ v3 v4 v5 v6 v7 v8 v9 v10 v11 v12 v13 v14, σ = [some (.ref a), some (.ref s), some (.ref l), v3, v4, v5, v6, v7, v8, v9, v10, v11, v12, v13, v14], ⟨_, Nat.zero_le _, rfl, T2, fun a o n t e => e, el, ⟨ys, 0, 0, 89, S2, by decide⟩, none, none, none, none, none, none, none, none, none, none, none, none, rfl⟩, ?_⟩
  rintro i m σ H3 ⟨hi, rfl, T3, nw3, el3, ⟨ys3, b3, c3, d3, S3, hc3⟩, v3, v4, v5, v6, v7, v8, v9, v10, v11, v12, v13, v14, rfl⟩
  by_cases he : i = 2
  · exact .inl ⟨by show (2 : Int).toNat ≤ i; rw [he]; decide, held_ok L hq T3⟩
  · refine .inr ⟨by show i < (2 : Int).toNat; show i < 2; omega, fun σ' H' => LamX.Tabs D.T H' ∧ Nw H1 H2 H' ∧ H' l = some (.lst xs) ∧ (∃ ys' b c d, Stm H' s q ys' b c d ∧ c ≤ 15 * (i + 1 : Nat)) ∧ ∃ v3 v4 v5 v6 v7 v8 v9 v10 v11 v12 v13 v14, σ' = [some (.ref a), some (.ref s), some (.ref l), v3, v4, v5, v6, v7, v8, v9, v10, v11, v12, v13, v14], fun σ' H' ⟨f1, f2, f3, f4, f5⟩ => ⟨2 - (i + 1), by omega, by omega, rfl, f1, f2, f3, f4, f5⟩, ?_⟩
    rintro x H'' ⟨rfl, rfl⟩
    refine turn_ok L S3 (by omega) lx sm nw3 ⟨_, S1.at_⟩ ⟨_, S1.cells⟩ el3 ls lq T3 fun H' ys' b' d' v4 v5 v6 v7 v8 v9 v10 v11 v12 f1 f2 f3 f4 => ⟨f1, f2, f3, ⟨ys', b', _, d', f4, by omega⟩, _, _, _, _, _, _, _, _, _, _, _, _, rfl⟩
end
end K00
end

section
set_option Elab.async false
set_option linter.all false
set_option maxRecDepth 100000
set_option maxHeartbeats 4000000
namespace K00
open PySem PySem.Spec PyProof.Rows L2 CK
theorem nodup_inj {α β : Type} {f : α → β} : ∀ {l : List α}, (l.map f).Nodup → ∀ {a b : α}, a ∈ l → b ∈ l → f a = f b → a = b
  | [], _, _, _, h, _, _ => by cases h
  | x :: l, nd, a, b, ha, hb, e => by
    rw [List.map_cons] at nd
    have nd' := List.nodup_cons.mp nd
    rcases List.mem_cons.mp ha with ha | ha <;> rcases List.mem_cons.mp hb with hb | hb
    · rw [ha, hb]
    · rw [ha] at e
      exact absurd (List.mem_map.mpr ⟨b, hb, e.symm⟩) nd'.1
    · rw [hb] at e
      exact absurd (List.mem_map.mpr ⟨a, ha, e⟩) nd'.1
    · exact nodup_inj nd'.2 ha hb e
theorem kf_of {K : PySem.W.Frag} (h : ex K = true) : KF K := by
  unfold ex at h
  simp only [Bool.and_eq_true, decide_eq_true_eq] at h
  obtain ⟨⟨⟨h1, h2⟩, h3⟩, h4⟩ := h
  have cls := List.all_eq_true.mp h2
  have key : ∀ c ∈ tw.own, ExcC K (He.ga K c) ∧ (PySem.W.clsIn K (He.ga K c)).map (·.mro) = some (.ref (He.ga K c) :: (if c = "CauseError" then [] else [.ref (He.ga K "CauseError")]) ++ PySem.HandSPX.veTail) ∧ PySem.W.typeIn K (.ref (He.ga K c)) = some (.type "type") := fun c hc => by
    have q := cls c hc
    unfold clsK at q
    simp only [Bool.and_eq_true, decide_eq_true_eq] at q
    exact ⟨excB_ok q.1.1, q.1.2, q.2⟩
  have ce : ("CauseError" : Str) ∈ tw.own := of_decide_eq_true not_own.2.2.2.2
  have mro : ∀ c ∈ tw.own, ∀ v : Value, PySem.W.subIn K (.ref (He.ga K c)) v = some ((Value.ref (He.ga K c) :: (if c = "CauseError" then [] else [.ref (He.ga K "CauseError")]) ++ PySem.HandSPX.veTail).contains v) := fun c hc v => by
    obtain ⟨_, q, _⟩ := key c hc
    show PySem.W.mroIn K (He.ga K c) v = _
    unfold PySem.W.mroIn
    cases e : PySem.W.clsIn K (He.ga K c) with
    | none => rw [e] at q; cases q
    | some cd =>
      rw [e] at q
      have q' : cd.mro = _ := Option.some.inj q
      rw [Option.bind_some, q']
      rfl
  have isC : ∀ c ∈ tw.own, (PySem.W.clsIn K (He.ga K c)).isSome = true := fun c hc => by
    obtain ⟨_, q, _⟩ := key c hc
    cases e : PySem.W.clsIn K (He.ga K c) with
    | none => rw [e] at q; cases q
    | some cd => rfl
  refine ⟨fun r hr hf => ?_, fun c hc => (key c hc).1, fun r hr f hf => ?_, fun c hc d hd => ?_, fun c hc => ?_⟩
  · unfold Tw.exK at h1
    simp only [Bool.and_eq_true, decide_eq_true_eq] at h1
    have m : (r.c, ("self" : Str) :: r.fs, initIs r.fs 1) ∈ tw.fi.map (fun d => (d.at_.1, CK.namesOf d, bodyOf P00 d)) := by
      rw [inits_eq]
      refine List.mem_map.mpr ⟨r, List.mem_filter.mpr ⟨hr, ?_⟩, rfl⟩
      cases e : r.fs with
      | nil => exact absurd e hf
      | cons a l => rfl
    obtain ⟨d, hd, e⟩ := List.mem_map.mp m
    have e1 := (Prod.mk.inj e).1
    have q := List.all_eq_true.mp h1.1.1 d hd
    unfold iniK at q
    simp only [Bool.and_eq_true, decide_eq_true_eq] at q
    rw [← e1]
    exact oexB_ok q.1.1
  · have hi : tw.P.inits.lookup r.c = some r.fs := by
      rcases shape hr with ⟨e, _⟩ | ⟨g, e, _, hi⟩ | ⟨g, g', _, e, _, hi⟩
      · rw [e] at hf
        cases hf
      · rw [e]; exact hi
      · rw [e]; exact hi
    have q := List.all_eq_true.mp h3 _ (mem_look hi)
    exact of_decide_eq_true (List.all_eq_true.mp q f hf)
  · unfold PySem.W.kitAny PySem.W.kitOne
    by_cases e : d = c
    · subst e
      rw [if_pos (beq_self_eq_true _)]
      simp
    · have ne : He.ga K c ≠ He.ga K d := fun z => e (nodup_inj h4 hd hc z.symm)
      have nb : ((Value.ref (He.ga K c) == Value.ref (He.ga K d)) = true) ↔ False := by
        rw [beq_iff_eq]
        exact ⟨fun z => ne (Value.ref.inj z), False.elim⟩
      rw [if_neg (by rw [nb]; exact id)]
      unfold PySem.W.kitCls
      simp only
      rw [if_pos (by rw [isC d hd, (key d hd).2.2]; rfl), mro c hc]
      by_cases e2 : d = "CauseError"
      · subst e2
        have ec : ¬ (c = "CauseError") := fun z => e z.symm
        rw [if_neg ec]
        have z : (Value.ref (He.ga K c) :: [Value.ref (He.ga K "CauseError")] ++ PySem.HandSPX.veTail).contains (Value.ref (He.ga K "CauseError")) = true := by simp
        rw [z]
        simp
      · have z : (Value.ref (He.ga K c) :: (if c = "CauseError" then [] else [Value.ref (He.ga K "CauseError")]) ++ PySem.HandSPX.veTail).contains (Value.ref (He.ga K d)) = false := by
          rw [Bool.eq_false_iff]
          intro z
          rw [List.contains_iff_mem] at z
          rcases List.mem_append.mp z with z | z
          · rcases List.mem_cons.mp z with z | z
            · exact ne (Value.ref.inj z).symm
            · split at z
              · cases z
              · have z' : Value.ref (He.ga K d) = Value.ref (He.ga K "CauseError") := by simpa using z
                exact e2 (nodup_inj h4 hd ce (Value.ref.inj z'))
          · simp at z
        rw [z]
        simp [e, e2]
        rfl
  · have go : ∀ (T : String), PySem.W.kitMeta T = true → PySem.W.kitAny K (.ref (He.ga K c)) [.type T] = some (PySem.HandSPX.veTail.contains (.type T)) := fun T hT => by
      unfold PySem.W.kitAny PySem.W.kitOne
      rw [if_neg (by simp)]
      unfold PySem.W.kitCls
      simp only
      rw [if_pos hT, mro c hc]
      have z : (Value.ref (He.ga K c) :: (if c = "CauseError" then [] else [Value.ref (He.ga K "CauseError")]) ++ PySem.HandSPX.veTail).contains (.type T) = PySem.HandSPX.veTail.contains (.type T) := by
        split <;> simp
      rw [z]
      cases PySem.HandSPX.veTail.contains (.type T) <;> rfl
    refine ⟨?_, ?_, ?_, ?_⟩
    · exact (go "ValueError" (by decide +kernel)).trans (by decide +kernel)
    · exact (go "LookupError" (by decide +kernel)).trans (by decide +kernel)
    · exact (go "ArithmeticError" (by decide +kernel)).trans (by decide +kernel)
    · exact (go "TypeError" (by decide +kernel)).trans (by decide +kernel)
theorem ty_ok {K : PySem.W.Frag} (X : Cx) (hK : X.K = K) {pins : List (Addr × Obj)} {σ : L2.St} {H : Hp} {s : Shared} {x : V} {u t : Value} (I : Inv X pins σ H s) (r : RelV x u) (h : tyK K H x t) : ∃ q : Heap → Prop, PySem.W.KitX X.K u t q ∧ q s.heap ∧ u ≠ .builtin "__main__.__loader__#opaque" := by
  rcases h with h | ⟨a, C, d, rfl, rfl, c, e, hda⟩
  · rw [← hK] at h
    exact L2.kit_of I r h
  · obtain rfl : u = Value.ref a := r
    obtain ⟨t1, ho⟩ := exo_at I.hok e
    rw [← hK] at c
    cases d with
    | none => exact ⟨_, PySem.W.kitx_exo (ox := { cls := .ref C, dict := none, data := .fields #[.ref t1, .none, .none, .none, .bool false, .none] }) (od := none) c, ⟨ho, rfl, rfl, trivial⟩, fun z => nomatch z⟩
    | some d =>
      obtain ⟨es, ed⟩ := hda d rfl
      obtain ⟨mA, hns, _⟩ := exd_at I.hok ed
      obtain ⟨od, hod, _⟩ := lookIn_ns hns
      exact ⟨_, PySem.W.kitx_exo (ox := { cls := .ref C, dict := some d, data := .fields #[.ref t1, .none, .none, .none, .bool false, .none] }) (od := some od) c, ⟨ho, rfl, rfl, hod⟩, fun z => nomatch z⟩
/-! ### the promises, by levels -/
def Γk (K : PySem.W.Frag) (T : List (Addr × Str)) (n : Nat) (f : Str) : Sp := fun vs H Q E =>
  (f = "_law_start" ∧ 1 ≤ n ∧ spStart K vs H Q E) ∨ (f = "_law_draw" ∧ 1 ≤ n ∧ spDraw vs H Q E) ∨ (f = "_law_mixed" ∧ 2 ≤ n ∧ spMixed K vs H Q E) ∨
  (f = "_law_made_a" ∧ 1 ≤ n ∧ spMade K T "_law_made_a.<locals>.<lambda>" rowsA vs H Q E) ∨ (f = "_law_made_b" ∧ 1 ≤ n ∧ spMade K T "_law_made_b.<locals>.<lambda>" rowsB vs H Q E) ∨ (f = "_law_made_c" ∧ 1 ≤ n ∧ spMade K T "_law_made_c.<locals>.<lambda>" rowsC vs H Q E) ∨ (f = "_law_made_d" ∧ 1 ≤ n ∧ spMade K T "_law_made_d.<locals>.<lambda>" rowsD vs H Q E) ∨
  (f = "_law_kinds_a" ∧ 1 ≤ n ∧ spKinds K kindsA.flatten vs H Q E) ∨ (f = "_law_kinds_b" ∧ 1 ≤ n ∧ spKinds K kindsB.flatten vs H Q E) ∨ (f = "_law_kinds_c" ∧ 1 ≤ n ∧ spKinds K kindsC.flatten vs H Q E) ∨ (f = "_law_kinds_d" ∧ 1 ≤ n ∧ spKinds K kindsD.flatten vs H Q E) ∨
  (f = "_law_kinds" ∧ 2 ≤ n ∧ spKinds K names57 vs H Q E) ∨ (f = "_law_is_own" ∧ 3 ≤ n ∧ spOwn K vs H Q E) ∨ (f = "_law_same" ∧ ∃ d, d ≤ n ∧ spSame K d vs H Q E) ∨ (f = "_law_are_these" ∧ 6 ≤ n ∧ spSame K 5 vs H Q E) ∨ (f = "law" ∧ 10 ≤ n ∧ spLaw K T vs H Q E)
section
variable {K : PySem.W.Frag} {T : List (Addr × Str)} {n : Nat} {vs : List V} {H : Hp} {Q : VK} {E : XK}
theorem Γk_0 (h : Γk K T n "_law_start" vs H Q E) : 1 ≤ n ∧ spStart K vs H Q E := by
  unfold Γk at h
  rcases h with ⟨e, h⟩ | ⟨e, h⟩ | ⟨e, h⟩ | ⟨e, h⟩ | ⟨e, h⟩ | ⟨e, h⟩ | ⟨e, h⟩ | ⟨e, h⟩ | ⟨e, h⟩ | ⟨e, h⟩ | ⟨e, h⟩ | ⟨e, h⟩ | ⟨e, h⟩ | ⟨e, h⟩ | ⟨e, h⟩ | ⟨e, h⟩
  · exact h
  · exact absurd e (by decide)
  · exact absurd e (by decide)
  · exact absurd e (by decide)
  · exact absurd e (by decide)
  · exact absurd e (by decide)
  · exact absurd e (by decide)
  · exact absurd e (by decide)
  · exact absurd e (by decide)
  · exact absurd e (by decide)
  · exact absurd e (by decide)
  · exact absurd e (by decide)
  · exact absurd e (by decide)
  · exact absurd e (by decide)
  · exact absurd e (by decide)
  · exact absurd e (by decide)
theorem Γk_in0 (h : 1 ≤ n ∧ spStart K vs H Q E) : Γk K T n "_law_start" vs H Q E := .inl ⟨rfl, h⟩
theorem Γk_1 (h : Γk K T n "_law_draw" vs H Q E) : 1 ≤ n ∧ spDraw vs H Q E := by
  unfold Γk at h
  rcases h with ⟨e, h⟩ | ⟨e, h⟩ | ⟨e, h⟩ | ⟨e, h⟩ | ⟨e, h⟩ | ⟨e, h⟩ | ⟨e, h⟩ | ⟨e, h⟩ | ⟨e, h⟩ | ⟨e, h⟩ | ⟨e, h⟩ | ⟨e, h⟩ | ⟨e, h⟩ | ⟨e, h⟩ | ⟨e, h⟩ | ⟨e, h⟩
  · exact absurd e (by decide)
  · exact h
  · exact absurd e (by decide)
  · exact absurd e (by decide)
  · exact absurd e (by decide)
  · exact absurd e (by decide)
  · exact absurd e (by decide)
  · exact absurd e (by decide)
  · exact absurd e (by decide)
  · exact absurd e (by decide)
  · exact absurd e (by decide)
  · exact absurd e (by decide)
  · exact absurd e (by decide)
  · exact absurd e (by decide)
  · exact absurd e (by decide)
  · exact absurd e (by decide)
theorem Γk_in1 (h : 1 ≤ n ∧ spDraw vs H Q E) : Γk K T n "_law_draw" vs H Q E := .inr (.inl ⟨rfl, h⟩)
theorem Γk_2 (h : Γk K T n "_law_mixed" vs H Q E) : 2 ≤ n ∧ spMixed K vs H Q E := by
  unfold Γk at h
  rcases h with ⟨e, h⟩ | ⟨e, h⟩ | ⟨e, h⟩ | ⟨e, h⟩ | ⟨e, h⟩ | ⟨e, h⟩ | ⟨e, h⟩ | ⟨e, h⟩ | ⟨e, h⟩ | ⟨e, h⟩ | ⟨e, h⟩ | ⟨e, h⟩ | ⟨e, h⟩ | ⟨e, h⟩ | ⟨e, h⟩ | ⟨e, h⟩
  · exact absurd e (by decide)
  · exact absurd e (by decide)
  · exact h
  · exact absurd e (by decide)
  · exact absurd e (by decide)
  · exact absurd e (by decide)
  · exact absurd e (by decide)
  · exact absurd e (by decide)
  · exact absurd e (by decide)
  · exact absurd e (by decide)
  · exact absurd e (by decide)
  · exact absurd e (by decide)
  · exact absurd e (by decide)
  · exact absurd e (by decide)
  · exact absurd e (by decide)
  · exact absurd e (by decide)
theorem Γk_in2 (h : 2 ≤ n ∧ spMixed K vs H Q E) : Γk K T n "_law_mixed" vs H Q E := .inr (.inr (.inl ⟨rfl, h⟩))
theorem Γk_3 (h : Γk K T n "_law_made_a" vs H Q E) : 1 ≤ n ∧ spMade K T "_law_made_a.<locals>.<lambda>" rowsA vs H Q E := by
  unfold Γk at h
  rcases h with ⟨e, h⟩ | ⟨e, h⟩ | ⟨e, h⟩ | ⟨e, h⟩ | ⟨e, h⟩ | ⟨e, h⟩ | ⟨e, h⟩ | ⟨e, h⟩ | ⟨e, h⟩ | ⟨e, h⟩ | ⟨e, h⟩ | ⟨e, h⟩ | ⟨e, h⟩ | ⟨e, h⟩ | ⟨e, h⟩ | ⟨e, h⟩
  · exact absurd e (by decide)
  · exact absurd e (by decide)
  · exact absurd e (by decide)
  · exact h
  · exact absurd e (by decide)
  · exact absurd e (by decide)
  · exact absurd e (by decide)
  · exact absurd e (by decide)
  · exact absurd e (by decide)
  · exact absurd e (by decide)
  · exact absurd e (by decide)
  · exact absurd e (by decide)
  · exact absurd e (by decide)
  · exact absurd e (by decide)
  · exact absurd e (by decide)
  · exact absurd e (by decide)
theorem Γk_in3 (h : 1 ≤ n ∧ spMade K T "_law_made_a.<locals>.<lambda>" rowsA vs H Q E) : Γk K T n "_law_made_a" vs H Q E := .inr (.inr (.inr (.inl ⟨rfl, h⟩)))
theorem Γk_4 (h : Γk K T n "_law_made_b" vs H Q E) : 1 ≤ n ∧ spMade K T "_law_made_b.<locals>.<lambda>" rowsB vs H Q E := by
  unfold Γk at h
  rcases h with ⟨e, h⟩ | ⟨e, h⟩ | ⟨e, h⟩ | ⟨e, h⟩ | ⟨e, h⟩ | ⟨e, h⟩ | ⟨e, h⟩ | ⟨e, h⟩ | ⟨e, h⟩ | ⟨e, h⟩ | ⟨e, h⟩ | ⟨e, h⟩ | ⟨e, h⟩ | ⟨e, h⟩ | ⟨e, h⟩ | ⟨e, h⟩
  · exact absurd e (by decide)
  · exact absurd e (by decide)
  · exact absurd e (by decide)
  · exact absurd e (by decide)
  · exact h
  · exact absurd e (by decide)
  · exact absurd e (by decide)
  · exact absurd e (by decide)
  · exact absurd e (by decide)
  · exact absurd e (by decide)
  · exact absurd e (by decide)
  · exact absurd e (by decide)
  · exact absurd e (by decide)
  · exact absurd e (by decide)
  · exact absurd e (by decide)
  · exact absurd e (by decide)
theorem Γk_in4 (h : 1 ≤ n ∧ spMade K T "_law_made_b.<locals>.<lambda>" rowsB vs H Q E) : Γk K T n "_law_made_b" vs H Q E := .inr (.inr (.inr (.inr (.inl ⟨rfl, h⟩))))
theorem Γk_5 (h : Γk K T n "_law_made_c" vs H Q E) : 1 ≤ n ∧ spMade K T "_law_made_c.<locals>.<lambda>" rowsC vs H Q E := by
  unfold Γk at h
  rcases h with ⟨e, h⟩ | ⟨e, h⟩ | ⟨e, h⟩ | ⟨e, h⟩ | ⟨e, h⟩ | ⟨e, h⟩ | ⟨e, h⟩ | ⟨e, h⟩ | ⟨e, h⟩ | ⟨e, h⟩ | ⟨e, h⟩ | ⟨e, h⟩ | ⟨e, h⟩ | ⟨e, h⟩ | ⟨e, h⟩ | ⟨e, h⟩
  · exact absurd e (by decide)
  · exact absurd e (by decide)
  · exact absurd e (by decide)
  · exact absurd e (by decide)
  · exact absurd e (by decide)
  · exact h
  · exact absurd e (by decide)
  · exact absurd e (by decide)
  · exact absurd e (by decide)
  · exact absurd e (by decide)
  · exact absurd e (by decide)
  · exact absurd e (by decide)
  · exact absurd e (by decide)
  · exact absurd e (by decide)
  · exact absurd e (by decide)
  · exact absurd e (by decide)
theorem Γk_in5 (h : 1 ≤ n ∧ spMade K T "_law_made_c.<locals>.<lambda>" rowsC vs H Q E) : Γk K T n "_law_made_c" vs H Q E := .inr (.inr (.inr (.inr (.inr (.inl ⟨rfl, h⟩)))))
theorem Γk_6 (h : Γk K T n "_law_made_d" vs H Q E) : 1 ≤ n ∧ spMade K T "_law_made_d.<locals>.<lambda>" rowsD vs H Q E := by
  unfold Γk at h
  rcases h with ⟨e, h⟩ | ⟨e, h⟩ | ⟨e, h⟩ | ⟨e, h⟩ | ⟨e, h⟩ | ⟨e, h⟩ | ⟨e, h⟩ | ⟨e, h⟩ | ⟨e, h⟩ | ⟨e, h⟩ | ⟨e, h⟩ | ⟨e, h⟩ | ⟨e, h⟩ | ⟨e, h⟩ | ⟨e, h⟩ | ⟨e, h⟩
  · exact absurd e (by decide)
  · exact absurd e (by decide)
  · exact absurd e (by decide)
  · exact absurd e (by decide)
  · exact absurd e (by decide)
  · exact absurd e (by decide)
  · exact h
  · exact absurd e (by decide)
  · exact absurd e (by decide)
  · exact absurd e (by decide)
  · exact absurd e (by decide)
  · exact absurd e (by decide)
  · exact absurd e (by decide)
  · exact absurd e (by decide)
  · exact absurd e (by decide)
  · exact absurd e (by decide)
theorem Γk_in6 (h : 1 ≤ n ∧ spMade K T "_law_made_d.<locals>.<lambda>" rowsD vs H Q E) : Γk K T n "_law_made_d" vs H Q E := .inr (.inr (.inr (.inr (.inr (.inr (.inl ⟨rfl, h⟩))))))
theorem Γk_7 (h : Γk K T n "_law_kinds_a" vs H Q E) : 1 ≤ n ∧ spKinds K kindsA.flatten vs H Q E := by
  unfold Γk at h
  rcases h with ⟨e, h⟩ | ⟨e, h⟩ | ⟨e, h⟩ | ⟨e, h⟩ | ⟨e, h⟩ | ⟨e, h⟩ | ⟨e, h⟩ | ⟨e, h⟩ | ⟨e, h⟩ | ⟨e, h⟩ | ⟨e, h⟩ | ⟨e, h⟩ | ⟨e, h⟩ | ⟨e, h⟩ | ⟨e, h⟩ | ⟨e, h⟩
  · exact absurd e (by decide)
  · exact absurd e (by decide)
  · exact absurd e (by decide)
  · exact absurd e (by decide)
  · exact absurd e (by decide)
  · exact absurd e (by decide)
  · exact absurd e (by decide)
  · exact h
  · exact absurd e (by decide)
  · exact absurd e (by decide)
  · exact absurd e (by decide)
  · exact absurd e (by decide)
  · exact absurd e (by decide)
  · exact absurd e (by decide)
  · exact absurd e (by decide)
  · exact absurd e (by decide)
theorem Γk_in7 (h : 1 ≤ n ∧ spKinds K kindsA.flatten vs H Q E) : Γk K T n "_law_kinds_a" vs H Q E := .inr (.inr (.inr (.inr (.inr (.inr (.inr (.inl ⟨rfl, h⟩)))))))
theorem Γk_8 (h : Γk K T n "_law_kinds_b" vs H Q E) : 1 ≤ n ∧ spKinds K kindsB.flatten vs H Q E := by
  unfold Γk at h
  rcases h with ⟨e, h⟩ | ⟨e, h⟩ | ⟨e, h⟩ | ⟨e, h⟩ | ⟨e, h⟩ | ⟨e, h⟩ | ⟨e, h⟩ | ⟨e, h⟩ | ⟨e, h⟩ | ⟨e, h⟩ | ⟨e, h⟩ | ⟨e, h⟩ | ⟨e, h⟩ | ⟨e, h⟩ | ⟨e, h⟩ | ⟨e, h⟩
  · exact absurd e (by decide)
  · exact absurd e (by decide)
  · exact absurd e (by decide)
  · exact absurd e (by decide)
  · exact absurd e (by decide)
  · exact absurd e (by decide)
  · exact absurd e (by decide)
  · exact absurd e (by decide)
  · exact h
  · exact absurd e (by decide)
  · exact absurd e (by decide)
  · exact absurd e (by decide)
  · exact absurd e (by decide)
  · exact absurd e (by decide)
  · exact absurd e (by decide)
  · exact absurd e (by decide)
theorem Γk_in8 (h : 1 ≤ n ∧ spKinds K kindsB.flatten vs H Q E) : Γk K T n "_law_kinds_b" vs H Q E := .inr (.inr (.inr (.inr (.inr (.inr (.inr (.inr (.inl ⟨rfl, h⟩))))))))
theorem Γk_9 (h : Γk K T n "_law_kinds_c" vs H Q E) : 1 ≤ n ∧ spKinds K kindsC.flatten vs H Q E := by
  unfold Γk at h
  rcases h with ⟨e, h⟩ | ⟨e, h⟩ | ⟨e, h⟩ | ⟨e, h⟩ | ⟨e, h⟩ | ⟨e, h⟩ | ⟨e, h⟩ | ⟨e, h⟩ | ⟨e, h⟩ | ⟨e, h⟩ | ⟨e, h⟩ | ⟨e, h⟩ | ⟨e, h⟩ | ⟨e, h⟩ | ⟨e, h⟩ | ⟨e, h⟩
  · exact absurd e (by decide)
  · exact absurd e (by decide)
  · exact absurd e (by decide)
  · exact absurd e (by decide)
  · exact absurd e (by decide)
  · exact absurd e (by decide)
  · exact absurd e (by decide)
  · exact absurd e (by decide)
  · exact absurd e (by decide)
  · exact h
  · exact absurd e (by decide)
  · exact absurd e (by decide)
  · exact absurd e (by decide)
  · exact absurd e (by decide)
  · exact absurd e (by decide)
  · exact absurd e (by decide)
theorem Γk_in9 (h : 1 ≤ n ∧ spKinds K kindsC.flatten vs H Q E) : Γk K T n "_law_kinds_c" vs H Q E := .inr (.inr (.inr (.inr (.inr (.inr (.inr (.inr (.inr (.inl ⟨rfl, h⟩)))))))))
theorem Γk_10 (h : Γk K T n "_law_kinds_d" vs H Q E) : 1 ≤ n ∧ spKinds K kindsD.flatten vs H Q E := by
  unfold Γk at h
  rcases h with ⟨e, h⟩ | ⟨e, h⟩ | ⟨e, h⟩ | ⟨e, h⟩ | ⟨e, h⟩ | ⟨e, h⟩ | ⟨e, h⟩ | ⟨e, h⟩ | ⟨e, h⟩ | ⟨e, h⟩ | ⟨e, h⟩ | ⟨e, h⟩ | ⟨e, h⟩ | ⟨e, h⟩ | ⟨e, h⟩ | ⟨e, h⟩
  · exact absurd e (by decide)
  · exact absurd e (by decide)
  · exact absurd e (by decide)
  · exact absurd e (by decide)
  · exact absurd e (by decide)
  · exact absurd e (by decide)
  · exact absurd e (by decide)
  · exact absurd e (by decide)
  · exact absurd e (by decide)
  · exact absurd e (by decide)
  · exact h
  · exact absurd e (by decide)
  · exact absurd e (by decide)
  · exact absurd e (by decide)
  · exact absurd e (by decide)
  · exact absurd e (by decide)
theorem Γk_in10 (h : 1 ≤ n ∧ spKinds K kindsD.flatten vs H Q E) : Γk K T n "_law_kinds_d" vs H Q E := .inr (.inr (.inr (.inr (.inr (.inr (.inr (.inr (.inr (.inr (.inl ⟨rfl, h⟩))))))))))
theorem Γk_11 (h : Γk K T n "_law_kinds" vs H Q E) : 2 ≤ n ∧ spKinds K names57 vs H Q E := by
  unfold Γk at h
  rcases h with ⟨e, h⟩ | ⟨e, h⟩ | ⟨e, h⟩ | ⟨e, h⟩ | ⟨e, h⟩ | ⟨e, h⟩ | ⟨e, h⟩ | ⟨e, h⟩ | ⟨e, h⟩ | ⟨e, h⟩ | ⟨e, h⟩ | ⟨e, h⟩ | ⟨e, h⟩ | ⟨e, h⟩ | ⟨e, h⟩ | ⟨e, h⟩
  · exact absurd e (by decide)
  · exact absurd e (by decide)
  · exact absurd e (by decide)
  · exact absurd e (by decide)
  · exact absurd e (by decide)
  · exact absurd e (by decide)
  · exact absurd e (by decide)
  · exact absurd e (by decide)
  · exact absurd e (by decide)
  · exact absurd e (by decide)
  · exact absurd e (by decide)
  · exact h
  · exact absurd e (by decide)
  · exact absurd e (by decide)
  · exact absurd e (by decide)
  · exact absurd e (by decide)
theorem Γk_in11 (h : 2 ≤ n ∧ spKinds K names57 vs H Q E) : Γk K T n "_law_kinds" vs H Q E := .inr (.inr (.inr (.inr (.inr (.inr (.inr (.inr (.inr (.inr (.inr (.inl ⟨rfl, h⟩)))))))))))
theorem Γk_12 (h : Γk K T n "_law_is_own" vs H Q E) : 3 ≤ n ∧ spOwn K vs H Q E := by
  unfold Γk at h
  rcases h with ⟨e, h⟩ | ⟨e, h⟩ | ⟨e, h⟩ | ⟨e, h⟩ | ⟨e, h⟩ | ⟨e, h⟩ | ⟨e, h⟩ | ⟨e, h⟩ | ⟨e, h⟩ | ⟨e, h⟩ | ⟨e, h⟩ | ⟨e, h⟩ | ⟨e, h⟩ | ⟨e, h⟩ | ⟨e, h⟩ | ⟨e, h⟩
  · exact absurd e (by decide)
  · exact absurd e (by decide)
  · exact absurd e (by decide)
  · exact absurd e (by decide)
  · exact absurd e (by decide)
  · exact absurd e (by decide)
  · exact absurd e (by decide)
  · exact absurd e (by decide)
  · exact absurd e (by decide)
  · exact absurd e (by decide)
  · exact absurd e (by decide)
  · exact absurd e (by decide)
  · exact h
  · exact absurd e (by decide)
  · exact absurd e (by decide)
  · exact absurd e (by decide)
theorem Γk_in12 (h : 3 ≤ n ∧ spOwn K vs H Q E) : Γk K T n "_law_is_own" vs H Q E := .inr (.inr (.inr (.inr (.inr (.inr (.inr (.inr (.inr (.inr (.inr (.inr (.inl ⟨rfl, h⟩))))))))))))
theorem Γk_13 (h : Γk K T n "_law_same" vs H Q E) : ∃ d, d ≤ n ∧ spSame K d vs H Q E := by
  unfold Γk at h
  rcases h with ⟨e, h⟩ | ⟨e, h⟩ | ⟨e, h⟩ | ⟨e, h⟩ | ⟨e, h⟩ | ⟨e, h⟩ | ⟨e, h⟩ | ⟨e, h⟩ | ⟨e, h⟩ | ⟨e, h⟩ | ⟨e, h⟩ | ⟨e, h⟩ | ⟨e, h⟩ | ⟨e, h⟩ | ⟨e, h⟩ | ⟨e, h⟩
  · exact absurd e (by decide)
  · exact absurd e (by decide)
  · exact absurd e (by decide)
  · exact absurd e (by decide)
  · exact absurd e (by decide)
  · exact absurd e (by decide)
  · exact absurd e (by decide)
  · exact absurd e (by decide)
  · exact absurd e (by decide)
  · exact absurd e (by decide)
  · exact absurd e (by decide)
  · exact absurd e (by decide)
  · exact absurd e (by decide)
  · exact h
  · exact absurd e (by decide)
  · exact absurd e (by decide)
theorem Γk_in13 (h : ∃ d, d ≤ n ∧ spSame K d vs H Q E) : Γk K T n "_law_same" vs H Q E := .inr (.inr (.inr (.inr (.inr (.inr (.inr (.inr (.inr (.inr (.inr (.inr (.inr (.inl ⟨rfl, h⟩)))))))))))))
theorem Γk_14 (h : Γk K T n "_law_are_these" vs H Q E) : 6 ≤ n ∧ spSame K 5 vs H Q E := by
  unfold Γk at h
  rcases h with ⟨e, h⟩ | ⟨e, h⟩ | ⟨e, h⟩ | ⟨e, h⟩ | ⟨e, h⟩ | ⟨e, h⟩ | ⟨e, h⟩ | ⟨e, h⟩ | ⟨e, h⟩ | ⟨e, h⟩ | ⟨e, h⟩ | ⟨e, h⟩ | ⟨e, h⟩ | ⟨e, h⟩ | ⟨e, h⟩ | ⟨e, h⟩
  · exact absurd e (by decide)
  · exact absurd e (by decide)
  · exact absurd e (by decide)
  · exact absurd e (by decide)
  · exact absurd e (by decide)
  · exact absurd e (by decide)
  · exact absurd e (by decide)
  · exact absurd e (by decide)
  · exact absurd e (by decide)
  · exact absurd e (by decide)
  · exact absurd e (by decide)
  · exact absurd e (by decide)
  · exact absurd e (by decide)
  · exact absurd e (by decide)
  · exact h
  · exact absurd e (by decide)
theorem Γk_in14 (h : 6 ≤ n ∧ spSame K 5 vs H Q E) : Γk K T n "_law_are_these" vs H Q E := .inr (.inr (.inr (.inr (.inr (.inr (.inr (.inr (.inr (.inr (.inr (.inr (.inr (.inr (.inl ⟨rfl, h⟩))))))))))))))
theorem Γk_15 (h : Γk K T n "law" vs H Q E) : 10 ≤ n ∧ spLaw K T vs H Q E := by
  unfold Γk at h
  rcases h with ⟨e, h⟩ | ⟨e, h⟩ | ⟨e, h⟩ | ⟨e, h⟩ | ⟨e, h⟩ | ⟨e, h⟩ | ⟨e, h⟩ | ⟨e, h⟩ | ⟨e, h⟩ | ⟨e, h⟩ | ⟨e, h⟩ | ⟨e, h⟩ | ⟨e, h⟩ | ⟨e, h⟩ | ⟨e, h⟩ | ⟨e, h⟩
  · exact absurd e (by decide)
  · exact absurd e (by decide)
  · exact absurd e (by decide)
  · exact absurd e (by decide)
  · exact absurd e (by decide)
  · exact absurd e (by decide)
  · exact absurd e (by decide)
  · exact absurd e (by decide)
  · exact absurd e (by decide)
  · exact absurd e (by decide)
  · exact absurd e (by decide)
  · exact absurd e (by decide)
  · exact absurd e (by decide)
  · exact absurd e (by decide)
  · exact absurd e (by decide)
  · exact h
theorem Γk_in15 (h : 10 ≤ n ∧ spLaw K T vs H Q E) : Γk K T n "law" vs H Q E := .inr (.inr (.inr (.inr (.inr (.inr (.inr (.inr (.inr (.inr (.inr (.inr (.inr (.inr (.inr (⟨rfl, h⟩)))))))))))))))
end
theorem table : tw.fn.map (fun d => (d.name, (paramsOf d.params).length, CK.namesOf d, bodyOf tw.P d)) = ([("_law_start", 1, ["script"], startIs),
  ("_law_draw", 2, ["stream", "many", "cell", "digit", "mixed"], drawIs),
  ("_law_mixed", 2, ["stream", "some", "left", ".0", "k"], mixedIs),
  ("_law_made_a", 3, ["x", "y", "z", "found"], madeIs "_law_made_a.<locals>.<lambda>" rowsA),
  ("_law_made_b", 3, ["x", "y", "z", "found"], madeIs "_law_made_b.<locals>.<lambda>" rowsB),
  ("_law_made_c", 3, ["x", "y", "z", "found"], madeIs "_law_made_c.<locals>.<lambda>" rowsC),
  ("_law_made_d", 3, ["x", "y", "z", "found"], madeIs "_law_made_d.<locals>.<lambda>" rowsD),
  ("_law_kinds_a", 1, ["e", "found"], kindsIs kindsA),
  ("_law_kinds_b", 1, ["e", "found"], kindsIs kindsB),
  ("_law_kinds_c", 1, ["e", "found"], kindsIs kindsC),
  ("_law_kinds_d", 1, ["e", "found"], kindsIs kindsD),
  ("_law_kinds", 1, ["e"], sumIs),
  ("_law_is_own", 2, ["e", "at", ".0", "k"], ownIs),
  ("_law_same", 2, ["found", "due", ".0", "x", "y"], sameIs),
  ("_law_are_these", 2, ["found", "due"], theseIs),
  ("law", 1, ["script", "stream", "some", "turn", "x", "y", "z", "rows_made", "at", "mine", "twin", "field", "due", "held", "base"], lawIs)] : List (Str × Nat × List Str × Is)) := by kernel_rfl
/-- by cases over the defs -/
theorem defs_cases {M : Str → Nat → List Str → Is → Prop} (h0 : M "_law_start" 1 ["script"] (startIs)) (h1 : M "_law_draw" 2 ["stream", "many", "cell", "digit", "mixed"] (drawIs)) (h2 : M "_law_mixed" 2 ["stream", "some", "left", ".0", "k"] (mixedIs)) (h3 : M "_law_made_a" 3 ["x", "y", "z", "found"] (madeIs "_law_made_a.<locals>.<lambda>" rowsA)) (h4 : M "_law_made_b" 3 ["x", "y", "z", "found"] (madeIs "_law_made_b.<locals>.<lambda>" rowsB)) (h5 : M "_law_made_c" 3 ["x", "y", "z", "found"] (madeIs "_law_made_c.<locals>.<lambda>" rowsC)) (h6 : M "_law_made_d" 3 ["x", "y", "z", "found"] (madeIs "_law_made_d.<locals>.<lambda>" rowsD)) (h7 : M "_law_kinds_a" 1 ["e", "found"] (kindsIs kindsA)) (h8 : M "_law_kinds_b" 1 ["e", "found"] (kindsIs kindsB)) (h9 : M "_law_kinds_c" 1 ["e", "found"] (kindsIs kindsC)) (h10 : M "_law_kinds_d" 1 ["e", "found"] (kindsIs kindsD)) (h11 : M "_law_kinds" 1 ["e"] (sumIs)) (h12 : M "_law_is_own" 2 ["e", "at", ".0", "k"] (ownIs)) (h13 : M "_law_same" 2 ["found", "due", ".0", "x", "y"] (sameIs)) (h14 : M "_law_are_these" 2 ["found", "due"] (theseIs)) (h15 : M "law" 1 ["script", "stream", "some", "turn", "x", "y", "z", "rows_made", "at", "mine", "twin", "field", "due", "held", "base"] (lawIs)) : ∀ d ∈ tw.fn, M d.name (paramsOf d.params).length (CK.namesOf d) (bodyOf tw.P d) := by
  intro d hd
  have m : (d.name, (paramsOf d.params).length, CK.namesOf d, bodyOf tw.P d) ∈ tw.fn.map (fun d => (d.name, (paramsOf d.params).length, CK.namesOf d, bodyOf tw.P d)) := List.mem_map.mpr ⟨d, hd, rfl⟩
  rw [table] at m
  generalize d.name = a at m ⊢
  generalize (paramsOf d.params).length = b at m ⊢
  generalize CK.namesOf d = c at m ⊢
  generalize bodyOf tw.P d = e at m ⊢
  rcases List.mem_cons.mp m with m | m
  · obtain ⟨e1, m⟩ := Prod.mk.inj m
    obtain ⟨e2, m⟩ := Prod.mk.inj m
    obtain ⟨e3, e4⟩ := Prod.mk.inj m
    rw [e1, e2, e3, e4]
    exact h0
  rcases List.mem_cons.mp m with m | m
  · obtain ⟨e1, m⟩ := Prod.mk.inj m
    obtain ⟨e2, m⟩ := Prod.mk.inj m
    obtain ⟨e3, e4⟩ := Prod.mk.inj m
    rw [e1, e2, e3, e4]
    exact h1
  rcases List.mem_cons.mp m with m | m
  · obtain ⟨e1, m⟩ := Prod.mk.inj m
    obtain ⟨e2, m⟩ := Prod.mk.inj m
    obtain ⟨e3, e4⟩ := Prod.mk.inj m
    rw [e1, e2, e3, e4]
    exact h2
  rcases List.mem_cons.mp m with m | m
  · obtain ⟨e1, m⟩ := Prod.mk.inj m
    obtain ⟨e2, m⟩ := Prod.mk.inj m
    obtain ⟨e3, e4⟩ := Prod.mk.inj m
    rw [e1, e2, e3, e4]
    exact h3
  rcases List.mem_cons.mp m with m | m
  · obtain ⟨e1, m⟩ := Prod.mk.inj m
    obtain ⟨e2, m⟩ := Prod.mk.inj m
    obtain ⟨e3, e4⟩ := Prod.mk.inj m
    rw [e1, e2, e3, e4]
    exact h4
  rcases List.mem_cons.mp m with m | m
  · obtain ⟨e1, m⟩ := Prod.mk.inj m
    obtain ⟨e2, m⟩ := Prod.mk.inj m
    obtain ⟨e3, e4⟩ := Prod.mk.inj m
    rw [e1, e2, e3, e4]
    exact h5
  rcases List.mem_cons.mp m with m | m
  · obtain ⟨e1, m⟩ := Prod.mk.inj m
    obtain ⟨e2, m⟩ := Prod.mk.inj m
    obtain ⟨e3, e4⟩ := Prod.mk.inj m
    rw [e1, e2, e3, e4]
    exact h6
  rcases List.mem_cons.mp m with m | m
  · obtain ⟨e1, m⟩ := Prod.mk.inj m
    obtain ⟨e2, m⟩ := Prod.mk.inj m
    obtain ⟨e3, e4⟩ := Prod.mk.inj m
    rw [e1, e2, e3, e4]
    exact h7
  rcases List.mem_cons.mp m with m | m
  · obtain ⟨e1, m⟩ := Prod.mk.inj m
    obtain ⟨e2, m⟩ := Prod.mk.inj m
    obtain ⟨e3, e4⟩ := Prod.mk.inj m
    rw [e1, e2, e3, e4]
    exact h8
  rcases List.mem_cons.mp m with m | m
  · obtain ⟨e1, m⟩ := Prod.mk.inj m
    obtain ⟨e2, m⟩ := Prod.mk.inj m
    obtain ⟨e3, e4⟩ := Prod.mk.inj m
    rw [e1, e2, e3, e4]
    exact h9
  rcases List.mem_cons.mp m with m | m
  · obtain ⟨e1, m⟩ := Prod.mk.inj m
    obtain ⟨e2, m⟩ := Prod.mk.inj m
    obtain ⟨e3, e4⟩ := Prod.mk.inj m
    rw [e1, e2, e3, e4]
    exact h10
  rcases List.mem_cons.mp m with m | m
  · obtain ⟨e1, m⟩ := Prod.mk.inj m
    obtain ⟨e2, m⟩ := Prod.mk.inj m
    obtain ⟨e3, e4⟩ := Prod.mk.inj m
    rw [e1, e2, e3, e4]
    exact h11
  rcases List.mem_cons.mp m with m | m
  · obtain ⟨e1, m⟩ := Prod.mk.inj m
    obtain ⟨e2, m⟩ := Prod.mk.inj m
    obtain ⟨e3, e4⟩ := Prod.mk.inj m
    rw [e1, e2, e3, e4]
    exact h12
  rcases List.mem_cons.mp m with m | m
  · obtain ⟨e1, m⟩ := Prod.mk.inj m
    obtain ⟨e2, m⟩ := Prod.mk.inj m
    obtain ⟨e3, e4⟩ := Prod.mk.inj m
    rw [e1, e2, e3, e4]
    exact h13
  rcases List.mem_cons.mp m with m | m
  · obtain ⟨e1, m⟩ := Prod.mk.inj m
    obtain ⟨e2, m⟩ := Prod.mk.inj m
    obtain ⟨e3, e4⟩ := Prod.mk.inj m
    rw [e1, e2, e3, e4]
    exact h14
  rcases List.mem_cons.mp m with m | m
  · obtain ⟨e1, m⟩ := Prod.mk.inj m
    obtain ⟨e2, m⟩ := Prod.mk.inj m
    obtain ⟨e3, e4⟩ := Prod.mk.inj m
    rw [e1, e2, e3, e4]
    exact h15
  cases m
theorem inits_len : tw.fi.map (fun d => (d.at_.1, (paramsOf d.params).length)) = (allRows.filter fun r => !r.fs.isEmpty).map fun r => (r.c, r.fs.length + 1) := by kernel_rfl
abbrev pk (K : PySem.W.Frag) : Ps tw K := { Γ := Γk K (tw.T K), Γi := spI K, ty := tyK K }
theorem dok {K : PySem.W.Frag} (F : KF K) (n : Nat) : Dok ((pk K).D n) K := ⟨F, Ps.Dty n, Ps.Down n, Ps.DK n⟩
theorem lo_of {K : PySem.W.Frag} (F : KF K) (n : Nat) (hn : 9 ≤ n) : Lo ((pk K).D n) K where
  o := dok F n
  P := Ps.DP n
  start := fun vs H Q E h => by rw [Ps.DΓ]; exact Γk_in0 ⟨by omega, h⟩
  mixed := fun vs H Q E h => by rw [Ps.DΓ]; exact Γk_in2 ⟨by omega, h⟩
  ma := fun vs H Q E h => by rw [Ps.DΓ]; rw [Ps.DT] at h; exact Γk_in3 ⟨by omega, h⟩
  mb := fun vs H Q E h => by rw [Ps.DΓ]; rw [Ps.DT] at h; exact Γk_in4 ⟨by omega, h⟩
  mc := fun vs H Q E h => by rw [Ps.DΓ]; rw [Ps.DT] at h; exact Γk_in5 ⟨by omega, h⟩
  md := fun vs H Q E h => by rw [Ps.DΓ]; rw [Ps.DT] at h; exact Γk_in6 ⟨by omega, h⟩
  kinds := fun vs H Q E h => by rw [Ps.DΓ]; exact Γk_in11 ⟨by omega, h⟩
  own := fun vs H Q E h => by rw [Ps.DΓ]; exact Γk_in12 ⟨by omega, h⟩
  these := fun vs H Q E h => by rw [Ps.DΓ]; exact Γk_in14 ⟨by omega, h⟩
  lam := fun q r hr vs H Q E h => by
    obtain ⟨m, rfl⟩ : ∃ m, n = m + 1 := ⟨n - 1, by omega⟩
    rw [Ps.DΛ]
    exact lam_res (Ps.DK m) F hr h
theorem kinds_in : (kindsA ++ kindsB ++ kindsC ++ kindsD).all (fun cs => cs.all fun d => decide (d ∈ tw.own) && !decide (d = "CauseError")) = true := by kernel_rfl
theorem kinds_own {cs : List Str} (h : cs ∈ kindsA ++ kindsB ++ kindsC ++ kindsD) : ∀ d ∈ cs, d ∈ tw.own ∧ d ≠ "CauseError" := fun d hd => by
  have q := List.all_eq_true.mp (List.all_eq_true.mp kinds_in cs h) d hd
  simpa using q
theorem kinds_len : kindsA.flatten.length = 18 ∧ kindsB.flatten.length = 18 ∧ kindsC.flatten.length = 18 ∧ kindsD.flatten.length = 3 := by
  refine ⟨?_, ?_, ?_, ?_⟩ <;> kernel_rfl
theorem ok_all {K : PySem.W.Frag} (F : KF K) : CK.Ok tw K (pk K) where
  zero := fun f vs H Q E h => by
    have h : Γk K (tw.T K) 0 f vs H Q E := h
    unfold Γk at h
    rcases h with ⟨e, h⟩ | ⟨e, h⟩ | ⟨e, h⟩ | ⟨e, h⟩ | ⟨e, h⟩ | ⟨e, h⟩ | ⟨e, h⟩ | ⟨e, h⟩ | ⟨e, h⟩ | ⟨e, h⟩ | ⟨e, h⟩ | ⟨e, h⟩ | ⟨e, h⟩ | ⟨e, h⟩ | ⟨e, h⟩ | ⟨e, h⟩
    · obtain ⟨h, _⟩ := h
      omega
    · obtain ⟨h, _⟩ := h
      omega
    · obtain ⟨h, _⟩ := h
      omega
    · obtain ⟨h, _⟩ := h
      omega
    · obtain ⟨h, _⟩ := h
      omega
    · obtain ⟨h, _⟩ := h
      omega
    · obtain ⟨h, _⟩ := h
      omega
    · obtain ⟨h, _⟩ := h
      omega
    · obtain ⟨h, _⟩ := h
      omega
    · obtain ⟨h, _⟩ := h
      omega
    · obtain ⟨h, _⟩ := h
      omega
    · obtain ⟨h, _⟩ := h
      omega
    · obtain ⟨h, _⟩ := h
      omega
    · obtain ⟨d, h, v, w, _, sm, _⟩ := h
      have e : d = 0 := by omega
      subst e
      exact sm
    · obtain ⟨h, _⟩ := h
      omega
    · obtain ⟨h, _⟩ := h
      omega
  len := fun n d hd => defs_cases (M := fun a b _ _ => ∀ vs H Q E, Γk K (tw.T K) n a vs H Q E → vs.length = b)
    (fun vs H Q E h => by obtain ⟨_, a, ys, rfl, _⟩ := Γk_0 h; rfl)
    (fun vs H Q E h => by obtain ⟨_, s, n, q, ys, b, c, d, rfl, _⟩ := Γk_1 h; rfl)
    (fun vs H Q E h => by obtain ⟨_, s, l, xs, q, ys, b, c, d, rfl, _⟩ := Γk_2 h; rfl)
    (fun vs H Q E h => by obtain ⟨_, x, y, z, rfl, _⟩ := Γk_3 h; rfl)
    (fun vs H Q E h => by obtain ⟨_, x, y, z, rfl, _⟩ := Γk_4 h; rfl)
    (fun vs H Q E h => by obtain ⟨_, x, y, z, rfl, _⟩ := Γk_5 h; rfl)
    (fun vs H Q E h => by obtain ⟨_, x, y, z, rfl, _⟩ := Γk_6 h; rfl)
    (fun vs H Q E h => by obtain ⟨_, v, c, rfl, _⟩ := Γk_7 h; rfl)
    (fun vs H Q E h => by obtain ⟨_, v, c, rfl, _⟩ := Γk_8 h; rfl)
    (fun vs H Q E h => by obtain ⟨_, v, c, rfl, _⟩ := Γk_9 h; rfl)
    (fun vs H Q E h => by obtain ⟨_, v, c, rfl, _⟩ := Γk_10 h; rfl)
    (fun vs H Q E h => by obtain ⟨_, v, c, rfl, _⟩ := Γk_11 h; rfl)
    (fun vs H Q E h => by obtain ⟨_, v, c, k, rfl, _⟩ := Γk_12 h; rfl)
    (fun vs H Q E h => by obtain ⟨_, _, v, w, rfl, _⟩ := Γk_13 h; rfl)
    (fun vs H Q E h => by obtain ⟨_, v, w, rfl, _⟩ := Γk_14 h; rfl)
    (fun vs H Q E h => by obtain ⟨_, a, ys, rfl, _⟩ := Γk_15 h; rfl) d hd
  leni := fun d hd vs H Q E h => by
    have m : (d.at_.1, (paramsOf d.params).length) ∈ tw.fi.map (fun d => (d.at_.1, (paramsOf d.params).length)) := List.mem_map.mpr ⟨d, hd, rfl⟩
    rw [inits_len] at m
    obtain ⟨r, hr, e⟩ := List.mem_map.mp m
    obtain ⟨e1, e2⟩ := Prod.mk.inj e
    obtain ⟨hr, _⟩ := List.mem_filter.mp hr
    obtain ⟨r', a, xs, hr', hc, hf', rfl, hl, _⟩ := (show spI K d.at_.1 vs H Q E from h)
    have z1 := fsOf_eq hr
    have z2 := fsOf_eq hr'
    rw [hc, ← e1, z1] at z2
    rw [← e2, List.length_cons, hl, Option.some.inj z2]
  keep := fun n d hd => defs_cases (M := fun a _ c e => ∀ vs H Q E, Γk K (tw.T K) (n + 1) a vs H Q E → rdS ((pk K).D n) (fun cc dx _ H' => E cc dx H') e { nx := fun _ H' => Q .non H', rt := Q } (L2.start c vs) H)
    (fun vs H Q E h => by obtain ⟨_, h⟩ := Γk_0 h; rw [← Ps.DK (p := pk K) n] at h; exact start_ok h)
    (fun vs H Q E h => by obtain ⟨_, h⟩ := Γk_1 h; exact draw_ok h)
    (fun vs H Q E h => by obtain ⟨hn, h⟩ := Γk_2 h; rw [← Ps.DK (p := pk K) n] at h; exact mixed_ok (fun vs H Q E h => by rw [Ps.DΓ]; exact Γk_in1 ⟨by omega, h⟩) h)
    (fun vs H Q E h => by obtain ⟨_, h⟩ := Γk_3 h; rw [← Ps.DT (p := pk K) n] at h; exact made_ok (fun c vs H Q E h => by rw [Ps.DΓi]; exact h) (Ps.DK n) (Ps.DP n) (fun r hr => (rows_in r).1 hr) (by rw [rows_lens.1]; decide) h)
    (fun vs H Q E h => by obtain ⟨_, h⟩ := Γk_4 h; rw [← Ps.DT (p := pk K) n] at h; exact made_ok (fun c vs H Q E h => by rw [Ps.DΓi]; exact h) (Ps.DK n) (Ps.DP n) (fun r hr => (rows_in r).2.1 hr) (by rw [rows_lens.2.1]; decide) h)
    (fun vs H Q E h => by obtain ⟨_, h⟩ := Γk_5 h; rw [← Ps.DT (p := pk K) n] at h; exact made_ok (fun c vs H Q E h => by rw [Ps.DΓi]; exact h) (Ps.DK n) (Ps.DP n) (fun r hr => (rows_in r).2.2.1 hr) (by rw [rows_lens.2.2.1]; decide) h)
    (fun vs H Q E h => by obtain ⟨_, h⟩ := Γk_6 h; rw [← Ps.DT (p := pk K) n] at h; exact made_ok (fun c vs H Q E h => by rw [Ps.DΓi]; exact h) (Ps.DK n) (Ps.DP n) (fun r hr => (rows_in r).2.2.2 hr) (by rw [rows_lens.2.2.2]; decide) h)
    (fun vs H Q E h => by obtain ⟨_, h⟩ := Γk_7 h; exact kinds_ok (dok F n) (by rw [kinds_len.1]; decide) (fun cs hcs => kinds_own (by simp [hcs])) h)
    (fun vs H Q E h => by obtain ⟨_, h⟩ := Γk_8 h; exact kinds_ok (dok F n) (by rw [kinds_len.2.1]; decide) (fun cs hcs => kinds_own (by simp [hcs])) h)
    (fun vs H Q E h => by obtain ⟨_, h⟩ := Γk_9 h; exact kinds_ok (dok F n) (by rw [kinds_len.2.2.1]; decide) (fun cs hcs => kinds_own (by simp [hcs])) h)
    (fun vs H Q E h => by obtain ⟨_, h⟩ := Γk_10 h; exact kinds_ok (dok F n) (by rw [kinds_len.2.2.2]; decide) (fun cs hcs => kinds_own (by simp [hcs])) h)
    (fun vs H Q E h => by obtain ⟨hn, h⟩ := Γk_11 h; exact sum_ok (dok F n) (fun vs H Q E h => by rw [Ps.DΓ]; exact Γk_in7 ⟨by omega, h⟩) (fun vs H Q E h => by rw [Ps.DΓ]; exact Γk_in8 ⟨by omega, h⟩) (fun vs H Q E h => by rw [Ps.DΓ]; exact Γk_in9 ⟨by omega, h⟩) (fun vs H Q E h => by rw [Ps.DΓ]; exact Γk_in10 ⟨by omega, h⟩) h)
    (fun vs H Q E h => by obtain ⟨hn, h⟩ := Γk_12 h; exact own_ok (dok F n) (fun vs H Q E h => by rw [Ps.DΓ]; exact Γk_in11 ⟨by omega, h⟩) h)
    (fun vs H Q E h => by
      obtain ⟨d, hd, h⟩ := Γk_13 h
      cases d with
      | zero => obtain ⟨v, w, _, sm, _⟩ := h; exact sm.elim
      | succ d => exact same_ok (dok F n) (n := d) (fun vs H Q E h => by rw [Ps.DΓ]; exact Γk_in13 ⟨d, by omega, h⟩) h)
    (fun vs H Q E h => by obtain ⟨hn, h⟩ := Γk_14 h; exact these_ok (n := 5) (fun vs H Q E h => by rw [Ps.DΓ]; exact Γk_in13 ⟨5, by omega, h⟩) h)
    (fun vs H Q E h => by obtain ⟨hn, h⟩ := Γk_15 h; rw [← Ps.DT (p := pk K) n] at h; exact law_ok (lo_of F n (by omega)) h) d hd
  keepi := fun d hd vs H Q E h => by
    have m : (d.at_.1, CK.namesOf d, bodyOf P00 d) ∈ tw.fi.map (fun d => (d.at_.1, CK.namesOf d, bodyOf P00 d)) := List.mem_map.mpr ⟨d, hd, rfl⟩
    rw [inits_eq] at m
    obtain ⟨r, hr, e⟩ := List.mem_map.mp m
    obtain ⟨e1, e⟩ := Prod.mk.inj e
    obtain ⟨e2, e3⟩ := Prod.mk.inj e
    obtain ⟨hr, hf⟩ := List.mem_filter.mp hr
    have h : spI K d.at_.1 vs H Q E := h
    rw [← e1] at h
    rw [← e2, ← e3]
    exact init_ok (D := D00 K) F rfl hr (by intro z; rw [z] at hf; cases hf) h
  ty := fun X hK _ _ _ _ _ _ _ I r h => ty_ok X hK I r h
end K00
end

section
set_option Elab.async false
set_option linter.all false
set_option maxRecDepth 100000
set_option maxHeartbeats 0
namespace K00
open PySem PySem.Spec PyProof.Rows L2 CK
theorem law_in : (tw.fn.any fun d => decide (d.name = "law") && decide (paramsOf d.params = (["script"] : List Str))) = true := by kernel_rfl
theorem facts {w : World} {K : PySem.W.Frag} {h : Heap} {mg : Str → Option Value} {f : Addr} (X : K.In h) (G : h.Ns mainGlobals mg) (hfa : mg ("law" : Str) = some (.ref f)) (c : SaysY tw.facts (tw.fn ++ tw.fi) tf ex h K) : LamX.LawAtS PySem.Challenge.rw_causeskept_k00_errors_made w K (L2.CX Pg w) 12 63 "script" mg f h := by
  have hex : ex K = true := c.more
  have F := kf_of hex
  obtain ⟨d, hd, e⟩ := List.any_eq_true.mp law_in
  simp only [Bool.and_eq_true, decide_eq_true_eq] at e
  obtain ⟨e1, e2⟩ := e
  have hx : tw.exK K = true := by
    unfold ex at hex
    simp only [Bool.and_eq_true] at hex
    exact hex.1.1.1
  have mk : ∀ base : Heap, K.In base → base.Ns mainGlobals mg → (∀ p ∈ tf.map (He.cT K), LamX.TabB base mg p.1 p.2) → Tk tw Pg w K mg base := fun base KB GB TB =>
    ⟨text, fun f hf => c.d.facts hf, fun d hd => c.d.defs hd, hx, KB, GB, fun x hx => TB _ (List.mem_map.mpr ⟨(x, none), List.mem_map.mpr ⟨x, hx, rfl⟩, rfl⟩)⟩
  have hdb : defB d = true := by
    have q := text
    unfold Tw.textB at q
    rw [Bool.and_eq_true] at q
    exact List.all_eq_true.mp q.1 d hd
  have hdb' := hdb
  unfold defB at hdb'
  simp only [Bool.and_eq_true, decide_eq_true_eq, List.isEmpty_iff] at hdb'
  obtain ⟨⟨⟨⟨⟨⟨q1, q2⟩, q3⟩, q4⟩, q5⟩, q6⟩, q7⟩ := hdb'
  obtain ⟨fd, FD⟩ := c.d.defs (List.mem_append_left _ hd)
  have d1 : d.dvs K = [] := by unfold He.DefD.dvs; rw [q3]; rfl
  have d2 : d.kws K = [] := by unfold He.DefD.kws; rw [q4]; rfl
  rw [d1, d2, q2] at FD
  have ef : f = He.ga K d.name := by
    have z := He.glo_ok X G (c.d.facts (f := .glo d.name) (by unfold Tw.facts; simp only [List.mem_append, List.mem_map]; exact .inl (.inl (.inl (.inl (.inl (.inl ⟨d, hd, rfl⟩)))))))
    rw [e1, hfa] at z
    rw [e1]
    exact Value.ref.inj (Option.some.inj z)
  have FD' : FunD K d.name d.qual d.params d.body d.scope [] [] (He.ga K d.name) fd := FD
  refine ⟨fd, tf.map (He.cT K), Γk K (tw.T K) 10 "law", fun p hp => ?_, fun p hp => ?_, fun p hp => ?_, fun s u => ?_, fun H a ns hl _ hT hS => ?_, fun base KB GB TB => ?_⟩
  · obtain ⟨x, hx, rfl⟩ := List.mem_map.mp hp
    exact c.empty x hx
  · obtain ⟨x, hx, rfl⟩ := List.mem_map.mp hp
    exact c.out x hx
  · obtain ⟨x, hx, rfl⟩ := List.mem_map.mp hp
    exact PySem.W.codeHd_of_K X (c.hd x hx)
  · obtain ⟨oc, od, dV, kV, doc, pm, an, cdv, ct, osl, rfl, lk, hcd, hdv, _⟩ := FD'.ex
    have ed : dV = .none := by
      rcases hdv with ⟨_, e⟩ | ⟨e, _⟩
      · exact e
      · exact absurd rfl e
    subst ed
    have b := bind_pos (fd := PySem.W.fnOf d.name d.qual d.params d.body d.scope .none kV doc pm an cdv ct) (us := [u]) q5 rfl q7 (by show [u].length = (paramsOf d.params).length; rw [e2]; rfl)
    have e3 : paramsOf (PySem.W.fnOf d.name d.qual d.params d.body d.scope .none kV doc pm an cdv ct).params = (["script"] : List Str) := e2
    rw [e3] at b
    exact BindsTo.of_eq b
  · refine Γk_in15 ⟨Nat.le_refl _, a, ns, rfl, hS, by omega, fun p hp => ?_, fun H' => rfl⟩
    obtain ⟨x, hx, rfl⟩ := List.mem_map.mp hp
    exact LamX.TabS.nil (hT _ (List.mem_map.mpr ⟨(x, none), List.mem_map.mpr ⟨x, hx, rfl⟩, rfl⟩))
  · obtain ⟨fd', F', O⟩ := (tower (mk base KB GB TB) (ok_all F) 10).2 d hd
    have eq : fd' = fd := by
      obtain ⟨_, _, _, _, _, _, _, _, _, _, _, l1, _⟩ := F'.ex
      obtain ⟨_, _, _, _, _, _, _, _, _, _, _, l2, _⟩ := FD'.ex
      rw [l1] at l2
      have z := congrArg Obj.data (Option.some.inj l2)
      exact Data.func.inj z
    rw [eq, e2, e1] at O
    rw [ef, e1]
    exact O
end K00
open PySem PySem.W PySem.Calls PyProof.Rows
theorem PySem.Challenge.cw_causeskept_k00_errors_made_holds : PySem.Challenge.rw_causeskept_k00_errors_made.Holds := by
  w_on; o_law
  refine HandSHeadRun.head_any (r := OpenLaw.row PySem.Challenge.rw_causeskept_k00_errors_made) (q := view (OpenLaw.row PySem.Challenge.rw_causeskept_k00_errors_made).prog [K00.lawAt]) (H := K00.hk) (ob := K00.ob) (M := 14700) (loose := K00.loose) (d := HandSHeadRun.topDef (OpenLaw.row PySem.Challenge.rw_causeskept_k00_errors_made).prog K00.lawAt) (kwd := []) K00.ob_eq
    (by kernel_rfl) (fun s => by kernel_rfl) K00.run (by kernel_rfl) (by kernel_rfl) (by kernel_rfl) (by rfl) (by first | assumption | decide +kernel) (by decide +kernel) ⟨rfl, rfl, rfl, rfl, rfl, by decide +kernel⟩ ?hw ?hc
  case hw => w_witness2
  case hc =>
    refine CK.walk_ofTE (l := PySem.Challenge.rw_causeskept_k00_errors_made) (n := 63) (k := 12) (x := "script") (CX := fun w => L2.CX K00.Pg w) rfl (by decide) (by kernel_rfl) ⟨rfl, by decide, by decide⟩ ?F ?E
    case F =>
      intro w mg fa h Y G hmg0
      obtain ⟨K, KX, c⟩ := Y
      have hmg : mg ("law" : PySem.Str) = some (.ref fa) := by
        have e : (HandSHeadRun.topDef (OpenLaw.row PySem.Challenge.rw_causeskept_k00_errors_made).prog K00.lawAt).name = ("law" : PySem.Str) := by kernel_rfl
        rw [← e]
        exact hmg0
      exact ⟨K, KX, K00.facts KX G hmg c⟩
    case E =>
      intro w H s e s' x
      obtain ⟨_, _, _, _, _, _, _, _, _, _, _, _, z⟩ := x
      exact z
end
