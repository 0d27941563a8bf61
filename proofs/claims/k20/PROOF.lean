import PyProof.Rows.All
import Wide.All
import OpenK.AllK
import Wide.FinOn
import PyProof.EqAt
import PyProof.EqKinds
import PyProof.TupleCall
import HandS.ForMost
import HandS.Exc
import HandS.Deep
import HandS.Zip
import HandS.Wide
import HandS.Conv
import HandS.TupAny
import HandS.Flow
import HandS.WordsExc
import HandS.NoneIn
import KE.SortData
import KE.SortKeyHeap
import HandS.Lambda
import HandS.TupLe
import HandS.TupMul
import HandS.RaiseMore
import PyProof.ReprRoads
import PyProof.ReprLen
import PyProof.FitsInt
import PyProof.TupleOfSeq
import PyProof.CallFns
import HandS.Zip0
import PyProof.EnumMake
import HandS.Comp
import HandS.MakeKwOnly
import HandS.IsInst
import KE.KLam
import HandS.Style
import HandS.EndTab
import HandS.HeadEnd
import HandS.Head0
import HandS.Head1
import HandS.Head2
import HandS.HeadHook1
import HandS.HeadHook2
import HandS.HeadHook3
import HandS.HeadHook4
import KE.KStateDown
import KE.KNestM
import HandS.Defaults
import PySem.Challenge.RW_calledpapers_k20_whole_ties_that_count
set_option Elab.async false
set_option linter.all false
set_option maxRecDepth 100000
/-! The data layer, part 1: values as trees, a store of lists that change, a machine over the written syntax. -/
namespace DL
open PySem PySem.Spec PyProof.Rows L2
/-- a value as a tree; fix: a list that is read alone (the script); mref: a list (or table) of the store; clo: a function value of the store -/
inductive D where
  | non | bl (b : Bool) | int (i : Int) | str (s : Str) | tup (ds : List D) | lst (ds : List D) | fix (ds : List D) | mref (i : Nat) | clo (i : Nat)
  deriving Inhabited
/-- what changes -/
inductive MO where
  | lst (ds : List D)
  | dct (kvs : List (D × D))
  deriving Inhabited
structure S where
  cells : List (Option MO)
def S.get (s : S) (i : Nat) : Option MO := match s.cells[i]? with
  | some o => o
  | none => none
def S.put (s : S) (i : Nat) (o : MO) : S := ⟨s.cells.set i (some o)⟩
def S.kill (s : S) (i : Nat) : S := ⟨s.cells.set i none⟩
def S.push (s : S) (o : MO) : S := ⟨s.cells ++ [some o]⟩
abbrev S.size (s : S) : Nat := s.cells.length
structure Ex where
  cls : Str
  val : Option (Str × D)
inductive Res (α : Type) where
  | ok (a : α) (s : S)
  | err (x : Ex) (s : S)
  | stuck
namespace Res
variable {α β : Type}
def bind (r : Res α) (k : α → S → Res β) : Res β := match r with
  | .ok a s => k a s
  | .err x s => .err x s
  | .stuck => .stuck
@[simp] theorem bind_ok (a : α) (s : S) (k : α → S → Res β) : (Res.ok a s).bind k = k a s := rfl
@[simp] theorem bind_err (x : Ex) (s : S) (k : α → S → Res β) : (Res.err x s : Res α).bind k = .err x s := rfl
@[simp] theorem bind_stuck (k : α → S → Res β) : (Res.stuck : Res α).bind k = .stuck := rfl
/-- an error is none of ours here -/
def calm (r : Res α) : Res α := match r with
  | .err _ _ => .stuck
  | r => r
end Res
abbrev Den := List D → S → Res D
abbrev Rho := List (Option D)
/-- the built-ins that are served -/
inductive Bt where
  | len | abs | max | min | sum | all | any | int | list | tuple | divmod | repr | sorted | range | zip | enumerate | isinst | set | bool | str
  deriving DecidableEq
inductive GV where
  | fn (ps : List Str) (F : Den)
  | int (i : Int)
  | str (s : Str)
  | cls (x : Str)
  | bt (b : Bt)
abbrev GEnv := List (Str × GV)
def glook (x : Str) : GEnv → Option GV
  | [] => none
  | (y, v) :: r => if y = x then some v else glook x r
/-- the place of a name -/
def ix (x : Str) : List Str → Option Nat
  | [] => none
  | y :: r => if y = x then some 0 else match ix x r with
    | some i => some (i + 1)
    | none => none
/-! ### plain helpers -/
def mapO {α β : Type} (f : α → Option β) : List α → Option (List β)
  | [] => some []
  | a :: r => match f a with
    | some b => (match mapO f r with
      | some bs => some (b :: bs)
      | none => none)
    | none => none
/-- without store: so deep at most -/
def rsv (s : S) : Nat → D → Option D
  | 0, _ => none
  | n + 1, d => match d with
    | .tup ds => (match mapO (rsv s n) ds with
      | some es => some (.tup es)
      | none => none)
    | .lst ds => (match mapO (rsv s n) ds with
      | some es => some (.lst es)
      | none => none)
    | .mref i => (match s.get i with
      | some (.lst ds) => (match mapO (rsv s n) ds with
        | some es => some (.lst es)
        | none => none)
      | _ => none)
    | .fix _ => none
    | .clo _ => none
    | .str x => if PyData.strOk x = true then some (.str x) else none
    | d => some d
abbrev deep : Nat := 40
/-- the items of a tuple, a list -/
def seqOf (s : S) (d : D) : Option (List D) := match d with
  | .tup ds => some ds
  | .lst ds => some ds
  | .fix ds => some ds
  | .mref i => (match s.get i with
    | some (.lst ds) => some ds
    | _ => none)
  | _ => none
def lstOf (s : S) (d : D) : Option (List D) := match d with
  | .lst ds => some ds
  | .mref i => (match s.get i with
    | some (.lst ds) => some ds
    | _ => none)
  | _ => none
mutual
def D.pd : D → PyData
  | .non => .none
  | .bl b => .bool b
  | .int i => .int i
  | .str x => .str x
  | .tup ds => .tuple (D.pds ds)
  | .lst ds => .list (D.pds ds)
  | .fix _ => .none
  | .mref _ => .none
  | .clo _ => .none
def D.pds : List D → List PyData
  | [] => []
  | d :: r => D.pd d :: D.pds r
end
/-- Python's == of two trees -/
def eqd (a b : D) : Bool := PyData.eqv a.pd b.pd
def ltd (a b : D) : Bool := PySem.W.dataLt a.pd b.pd
def isFlat : D → Bool
  | .non => true
  | .bl _ => true
  | .int _ => true
  | .str _ => true
  | _ => false
def intsO (ds : List D) : Option (List Int) := mapO (fun d => match d with
  | .int i => some i
  | _ => none) ds
def blsO (ds : List D) : Option (List Bool) := mapO (fun d => match d with
  | .bl i => some i
  | _ => none) ds
def bi (b : Bool) : Int := if b then 1 else 0
def line : Nat := 16777216
mutual
/-- no list of the store -/
def D.plain : D → Bool
  | .tup ds => D.plains ds
  | .lst ds => D.plains ds
  | .fix _ => false
  | .mref _ => false
  | .clo _ => false
  | _ => true
def D.plains : List D → Bool
  | [] => true
  | d :: r => D.plain d && D.plains r
end
/-! ### operators -/
def mulOk (i j : Int) : Bool := (decide (-(2 ^ 64) < i) && decide (i < 2 ^ 64)) || (decide (-(2 ^ 64) < j) && decide (j < 2 ^ 64)) || (decide (i.natAbs < 2 ^ 400000) && decide (j.natAbs < 2 ^ 400000))
def divOk (j : Int) : Bool := decide (j ≠ 0) && decide (j.natAbs < 1073741824)
def addD (x y : D) (s : S) : Res D := match x, y with
  | .int i, .int j => .ok (.int (i + j)) s
  | .tup xs, .tup ys => if xs.length + ys.length ≤ line then .ok (.tup (xs ++ ys)) s else .stuck
  | .str a, .str b => if a.length + b.length ≤ line then .ok (.str (a ++ b)) s else .stuck
  | x, y => match lstOf s x, lstOf s y with
    | some xs, some ys => if xs.length + ys.length ≤ line then .ok (.lst (xs ++ ys)) s else .stuck
    | _, _ => .stuck
def subD (x y : D) (s : S) : Res D := match x, y with
  | .int i, .int j => .ok (.int (i - j)) s
  | _, _ => .stuck
def repl (xs : List D) : Nat → List D
  | 0 => []
  | n + 1 => xs ++ repl xs n
def mulD (x y : D) (s : S) : Res D := match x, y with
  | .int i, .int j => if mulOk i j = true then .ok (.int (i * j)) s else .stuck
  | .tup xs, .int j => if xs.isEmpty = false ∧ 2 ≤ j ∧ j ≤ 1000 ∧ xs.length ≤ 1000 then .ok (.tup (repl xs j.toNat)) s else .stuck
  | x, .int j => (match lstOf s x with
    | some xs => if 0 ≤ j ∧ xs.length * j.toNat ≤ line ∧ j < 1000000 then .ok (.lst (repl xs j.toNat)) s else .stuck
    | none => .stuck)
  | _, _ => .stuck
def fdivD (x y : D) (s : S) : Res D := match x, y with
  | .int i, .int j => if divOk j = true then .ok (.int (i.fdiv j)) s else .stuck
  | _, _ => .stuck
def modD (x y : D) (s : S) : Res D := match x, y with
  | .int i, .int j => if j ≠ 0 then .ok (.int (i.fmod j)) s else .stuck
  | _, _ => .stuck
def powD (x y : D) (s : S) : Res D := match x, y with
  | .int i, .int j => if 0 ≤ j ∧ j ≤ 1000000 ∧ i.natAbs < 2 ^ 64 then .ok (.int (i ^ j.toNat)) s else .stuck
  | _, _ => .stuck
def binop (op : Operator) (x y : D) (s : S) : Res D := match op with
  | .Add => addD x y s
  | .Sub => subD x y s
  | .Mult => mulD x y s
  | .FloorDiv => fdivD x y s
  | .Mod => modD x y s
  | .Pow => powD x y s
  | _ => .stuck
def cmpI (p : Int → Int → Bool) (x y : D) (s : S) : Res D := match x, y with
  | .int i, .int j => .ok (.bl (p i j)) s
  | _, _ => .stuck
def eqD (x y : D) (s : S) : Res D := match x, y with
  | .str a, .str b => .ok (.bl (decide (a = b))) s
  | x, y => match rsv s deep x, rsv s deep y with
    | some a, some b => .ok (.bl (eqd a b)) s
    | _, _ => .stuck
/-- x in y -/
def inD (x y : D) (s : S) : Res D := match rsv s deep x, rsv s deep y with
  | some a, some (.tup bs) => .ok (.bl (bs.any fun b => eqd b a)) s
  | some a, some (.lst bs) => .ok (.bl (bs.any fun b => eqd b a)) s
  | _, _ => .stuck
def notD (r : Res D) : Res D := match r with
  | .ok (.bl b) s => .ok (.bl !b) s
  | _ => .stuck
/-- x is y, y one of None, True, False -/
def isD (x y : D) (s : S) : Res D := match y with
  | .non => (match x with
    | .non => .ok (.bl true) s
    | _ => .ok (.bl false) s)
  | .bl b => (match x with
    | .bl c => .ok (.bl (c == b)) s
    | _ => .ok (.bl false) s)
  | _ => .stuck
/-- x < y of ints, or of tuples, lists that are alike -/
def ltD (x y : D) (s : S) : Res D := match x, y with
  | .int i, .int j => .ok (.bl (decide (i < j))) s
  | x, y => match rsv s deep x, rsv s deep y with
    | some (.tup xs), some (.tup ys) => if PySem.W.alike (D.pd (.tup xs)) (D.pd (.tup ys)) = true then .ok (.bl (ltd (.tup xs) (.tup ys))) s else .stuck
    | _, _ => .stuck
def cmpop (op : CmpOp) (x y : D) (s : S) : Res D := match op with
  | .Eq => eqD x y s
  | .NotEq => notD (eqD x y s)
  | .Lt => ltD x y s
  | .LtE => cmpI (fun i j => decide (i ≤ j)) x y s
  | .Gt => cmpI (fun i j => decide (j < i)) x y s
  | .GtE => cmpI (fun i j => decide (j ≤ i)) x y s
  | .In => inD x y s
  | .NotIn => notD (inD x y s)
  | .Is => isD x y s
  | .IsNot => notD (isD x y s)
def truth (d : D) (s : S) : Option Bool := match d with
  | .non => some false
  | .bl b => some b
  | .int i => some (i != 0)
  | .str x => if x.length ≤ line then some ((x.length : Int) != 0) else none
  | .tup ds => some (!ds.isEmpty)
  | .lst ds => some (!ds.isEmpty)
  | .mref i => (match s.get i with
    | some (.lst ds) => some (!ds.isEmpty)
    | _ => none)
  | .fix _ => none
  | .clo _ => none
def negD (x : D) (s : S) : Res D := match x with
  | .int i => .ok (.int (-i)) s
  | _ => .stuck
/-! ### items, slices -/
def pick {α : Type} (xs : List α) (i : Int) : Option α := if 0 ≤ i then xs[i.toNat]? else if -(xs.length : Int) ≤ i then xs[(i + xs.length).toNat]? else none
def getD (x y : D) (s : S) : Res D := match y with
  | .int i => (match seqOf s x with
    | some xs => (match pick xs i with
      | some d => .ok d s
      | none => .stuck)
    | none => .stuck)
  | _ => .stuck
/-- where a slice's end lies -/
def clip (n : Nat) (i : Int) : Nat := if i < 0 then (i + n).toNat else min i.toNat n
def cutL {α : Type} (xs : List α) (lo hi : Option Int) : List α :=
  let a := match lo with
    | some i => clip xs.length i
    | none => 0
  let b := match hi with
    | some i => clip xs.length i
    | none => xs.length
  (xs.drop a).take (b - a)
def cutD (x : D) (lo hi : Option Int) (s : S) : Res D := match x with
  | .tup xs => .ok (.tup (cutL xs lo hi)) s
  | x => (match lstOf s x with
    | some xs => .ok (.lst (cutL xs lo hi)) s
    | none => .stuck)
def endO (d : Option D) : Option (Option Int) := match d with
  | none => some none
  | some (.int i) => some (some i)
  | some _ => none
/-! ### built-ins by values -/
def nodesL (f : D → Nat) : List D → Nat
  | [] => 0
  | d :: r => f d + nodesL f r
/-- how many signs the text of a value may have, at most; deeper ones have none -/
def wide : Nat → D → Nat
  | 0, _ => line + 1
  | n + 1, d => match d with
    | .int i => i.natAbs.log2 + 2
    | .str x => 12 * x.length + 2
    | .tup ds => 3 + nodesL (fun d => wide n d + 2) ds
    | .lst ds => 3 + nodesL (fun d => wide n d + 2) ds
    | _ => 5
def smallL (f : D → Bool) : List D → Bool
  | [] => true
  | d :: r => f d && smallL f r
def small : Nat → D → Bool
  | 0, _ => false
  | n + 1, d => match d with
    | .int i => decide (i.natAbs.log2 < 1920)
    | .tup ds => smallL (small n) ds
    | .lst ds => smallL (small n) ds
    | .str _ => true
    | .non => true
    | .bl _ => true
    | _ => false
def shown (d : D) : Str := PyData.shown d.pd
def lenB (ds : List D) (s : S) : Res D := match ds with
  | [d] => (match d with
    | .str x => if x.length ≤ line then .ok (.int x.length) s else .stuck
    | d => (match seqOf s d with
      | some xs => .ok (.int xs.length) s
      | none => .stuck))
  | _ => .stuck
def absB (ds : List D) (s : S) : Res D := match ds with
  | [d] => (match d with
    | .int i => .ok (.int (if i < 0 then -i else i)) s
    | _ => .stuck)
  | _ => .stuck
def maxL : Int → List Int → Int
  | m, [] => m
  | m, x :: r => maxL (if m < x then x else m) r
def minL : Int → List Int → Int
  | m, [] => m
  | m, x :: r => minL (if x < m then x else m) r
def maxB (ds : List D) (s : S) : Res D := match ds with
  | [d] => (match lstOf s d with
    | some xs => (match intsO xs with
      | some (n :: ns) => .ok (.int (maxL n ns)) s
      | _ => .stuck)
    | none => .stuck)
  | [d, e] => (match d, e with
    | .int i, .int j => .ok (.int (if j > i then j else i)) s
    | _, _ => .stuck)
  | _ => .stuck
def minB (ds : List D) (s : S) : Res D := match ds with
  | [d] => (match lstOf s d with
    | some xs => (match intsO xs with
      | some (n :: ns) => .ok (.int (minL n ns)) s
      | _ => .stuck)
    | none => .stuck)
  | [d, e] => (match d, e with
    | .int i, .int j => .ok (.int (if j < i then j else i)) s
    | _, _ => .stuck)
  | _ => .stuck
def sumB (ds : List D) (s : S) : Res D := match ds with
  | [d] => (match lstOf s d with
    | some xs => (match intsO xs with
      | some ns => .ok (.int ns.sum) s
      | _ => .stuck)
    | none => .stuck)
  | _ => .stuck
def allB (ds : List D) (s : S) : Res D := match ds with
  | [d] => (match lstOf s d with
    | some xs => (match blsO xs with
      | some ns => .ok (.bl (ns.all id)) s
      | _ => .stuck)
    | none => .stuck)
  | _ => .stuck
def anyB (ds : List D) (s : S) : Res D := match ds with
  | [d] => (match lstOf s d with
    | some xs => (match blsO xs with
      | some ns => .ok (.bl (ns.any id)) s
      | _ => .stuck)
    | none => .stuck)
  | _ => .stuck
def intB (ds : List D) (s : S) : Res D := match ds with
  | [d] => (match d with
    | .int i => .ok (.int i) s
    | .bl b => .ok (.int (bi b)) s
    | _ => .stuck)
  | _ => .stuck
def listN (ds : List D) (s : S) : Res (List D) := match ds with
  | [d] => (match seqOf s d with
    | some xs => .ok xs s
    | none => .stuck)
  | _ => .stuck
/-- as a value that stays -/
def asLst (r : Res (List D)) : Res D := r.bind fun ds s => .ok (.lst ds) s
def listB (ds : List D) (s : S) : Res D := asLst (listN ds s)
def tupleB (ds : List D) (s : S) : Res D := match ds with
  | [d] => (match seqOf s d with
    | some xs => .ok (.tup xs) s
    | none => .stuck)
  | _ => .stuck
def divmodB (ds : List D) (s : S) : Res D := match ds with
  | [d, e] => (match d, e with
    | .int i, .int j => if 0 < j ∧ j < 1073741824 then .ok (.tup [.int (i / j), .int (i % j)]) s else .stuck
    | _, _ => .stuck)
  | _ => .stuck
def reprB (ds : List D) (s : S) : Res D := match ds with
  | [d] => (match rsv s deep d with
    | some e => if small deep e = true ∧ wide deep e ≤ line then .ok (.str (shown e)) s else .stuck
    | none => .stuck)
  | _ => .stuck
/-- all of one shape, in each place -/
def alikeB (ds : List D) : Bool := ds.all fun a => ds.all fun b => PySem.W.alike a.pd b.pd
def sortableB (ds : List D) : Bool := (ds.all fun d => match d with
  | .tup (_ :: _) => true
  | _ => false) || (ds.all fun d => match d with
  | .bl _ => true
  | .int _ => true
  | .str _ => true
  | .lst _ => true
  | _ => false)
def dle : D → D → Bool := PySem.W.dataLe false D.pd
def sortedN (ds : List D) (s : S) : Res (List D) := match ds with
  | [d] => (match seqOf s d with
    | some xs => if D.plains xs = true ∧ (mapO (rsv s deep) xs).isSome = true ∧ alikeB xs = true ∧ sortableB xs = true then .ok (xs.mergeSort dle) s else .stuck
    | none => .stuck)
  | _ => .stuck
def sortedB (ds : List D) (s : S) : Res D := asLst (sortedN ds s)
mutual
/-- without lists -/
def D.noL : D → Bool
  | .tup ds => D.noLs ds
  | .non => true
  | .bl _ => true
  | .int _ => true
  | .str _ => true
  | _ => false
def D.noLs : List D → Bool
  | [] => true
  | d :: r => D.noL d && D.noLs r
end
/-- the key: how long, then the thing -/
def keyLen (d : D) : D := match d with
  | .tup ds => .tup [.int (ds.length : Nat), .tup ds]
  | d => .tup [.int 0, d]
def isTupD (d : D) : Bool := match d with
  | .tup _ => true
  | _ => false
def sortedKN (d : D) (s : S) : Res (List D) := match lstOf s d with
  | some xs => if (xs.all isTupD = true ∧ D.noLs xs = true) ∧ (mapO (rsv s deep) xs).isSome = true ∧ alikeB (xs.map keyLen) = true then .ok (xs.mergeSort (PySem.W.dataLe false fun d => (keyLen d).pd)) s else .stuck
  | none => .stuck
def callB (b : Bt) : Den := match b with
  | .len => lenB
  | .abs => absB
  | .max => maxB
  | .min => minB
  | .sum => sumB
  | .all => allB
  | .any => anyB
  | .int => intB
  | .list => listB
  | .tuple => tupleB
  | .divmod => divmodB
  | .repr => reprB
  | .sorted => sortedB
  | _ => fun _ _ => .stuck
end DL
namespace DL
open PySem PySem.Spec PyProof.Rows L2
/-! ### the machine -/
structure Cfg where
  N : List Str
  G : GEnv
  /-- the places whose lists change -/
  mu : List Nat
  /-- what it hands back stays a list that changes -/
  keep : Bool
  /-- it writes a lambda as a key -/
  lam : Bool
/-- the end of a statement -/
inductive Fl where
  | nx (ρ : Rho) | rt (d : D) | bk (ρ : Rho) | ct (ρ : Rho)
/-- what is walked: the items; the lists that must stay as they are -/
structure Itm where
  items : List D
  src : List (Nat × List D)
structure Ev where
  E : Expr → Rho → S → Res D
  /-- a list that nobody else holds -/
  N : Expr → Rho → S → Res (List D)
  T : Expr → Rho → S → Res Bool
  I : Expr → Rho → S → Res Itm
  X : Stmt → Rho → S → Res Fl
def evStuck : Ev := ⟨fun _ _ _ => .stuck, fun _ _ _ => .stuck, fun _ _ _ => .stuck, fun _ _ _ => .stuck, fun _ _ _ => .stuck⟩
def rget (ρ : Rho) (i : Nat) : Option D := match ρ[i]? with
  | some o => o
  | none => none
def wipeR (ρ : Rho) : List Nat → Rho
  | [] => ρ
  | v :: vs => (wipeR ρ vs).set v none
/-- arguments -/
def evArgs (E : Expr → Rho → S → Res D) : List Expr → Rho → S → Res (List D)
  | [], _, s => .ok [] s
  | e :: r, ρ, s => (E e ρ s).bind fun d s => (evArgs E r ρ s).bind fun ds s => .ok (d :: ds) s
/-- a and b and c; as values -/
def evAnd (E : Expr → Rho → S → Res D) : List Expr → Rho → S → Res D
  | [], _, _ => .stuck
  | [e], ρ, s => E e ρ s
  | e :: r, ρ, s => (E e ρ s).bind fun d s => match d with
    | .bl true => evAnd E r ρ s
    | .bl false => .ok (.bl false) s
    | _ => .stuck
def evOr (E : Expr → Rho → S → Res D) : List Expr → Rho → S → Res D
  | [], _, _ => .stuck
  | [e], ρ, s => E e ρ s
  | e :: r, ρ, s => (E e ρ s).bind fun d s => match d with
    | .bl true => .ok (.bl true) s
    | .bl false => evOr E r ρ s
    | _ => .stuck
def evAndT (T : Expr → Rho → S → Res Bool) : List Expr → Rho → S → Res Bool
  | [], _, _ => .stuck
  | [e], ρ, s => T e ρ s
  | e :: r, ρ, s => (T e ρ s).bind fun b s => match b with
    | true => evAndT T r ρ s
    | false => .ok false s
def evOrT (T : Expr → Rho → S → Res Bool) : List Expr → Rho → S → Res Bool
  | [], _, _ => .stuck
  | [e], ρ, s => T e ρ s
  | e :: r, ρ, s => (T e ρ s).bind fun b s => match b with
    | true => .ok true s
    | false => evOrT T r ρ s
/-- the tests of a comprehension -/
def evIfs (T : Expr → Rho → S → Res Bool) : List Expr → Rho → S → Res Bool
  | [], _, s => .ok true s
  | e :: r, ρ, s => (T e ρ s).bind fun b s => match b with
    | true => evIfs T r ρ s
    | false => .ok false s
/-- the places of names -/
def nmIs (N : List Str) : List Expr → Option (List Nat)
  | [] => some []
  | .Name x _ :: r => (match ix x N with
    | some i => (match nmIs N r with
      | some is => some (i :: is)
      | none => none)
    | none => none)
  | _ :: _ => none
def setIs : List Nat → List D → Rho → Option Rho
  | [], [], ρ => some ρ
  | i :: is, d :: ds, ρ => setIs is ds (ρ.set i (some d))
  | _, _, _ => none
/-- a name, a tuple of names takes a value -/
def bindNs (N : List Str) (es : List Expr) (ds : List D) (ρ : Rho) : Option Rho := match nmIs N es with
  | some is => setIs is ds ρ
  | none => none
def bindTup (is : List Nat) (d : D) (ρ : Rho) : Option Rho := match d with
  | .tup ds => setIs is ds ρ
  | .lst ds => setIs is ds ρ
  | _ => none
def bindT (N : List Str) (tg : Expr) (d : D) (ρ : Rho) : Option Rho := match tg with
  | .Name x _ => (match ix x N with
    | some i => some (ρ.set i (some d))
    | none => none)
  | .Tuple es _ _ => (match nmIs N es with
    | some is => bindTup is d ρ
    | none => none)
  | _ => none
theorem bindNs_cons {N : List Str} {x : Str} {p : Pos} {r : List Expr} {d : D} {ds : List D} {ρ : Rho} : bindNs N (.Name x p :: r) (d :: ds) ρ = match ix x N with
    | some i => bindNs N r ds (ρ.set i (some d))
    | none => none := by
  unfold bindNs
  rw [nmIs]
  cases ix x N with
  | none => rfl
  | some i =>
    dsimp only
    cases nmIs N r <;> rfl
theorem bindNs_short {N : List Str} {e : Expr} {r : List Expr} {ρ : Rho} : bindNs N (e :: r) [] ρ = none := by
  unfold bindNs
  cases e with
  | Name x p =>
    rw [nmIs]
    cases ix x N with
    | none => rfl
    | some i =>
      dsimp only
      cases nmIs N r <;> rfl
  | _ => rfl
open Classical in
/-- the walked lists are as they were -/
noncomputable def still (src : List (Nat × List D)) (s : S) : Bool := src.all fun p => if s.get p.1 = some (.lst p.2) then true else false
/-- the places of a comprehension's own names -/
def ownTg (N : List Str) (tg : Expr) : List (Str × Nat) := match tg with
  | .Name x _ => (match ix x N with
    | some i => [(x, i)]
    | none => [])
  | .Tuple es _ _ => es.filterMap fun e => match e with
    | .Name x _ => (match ix x N with
      | some i => some (x, i)
      | none => none)
    | _ => none
  | _ => []
/-- a comprehension's turns -/
noncomputable def compL (step : D → S → Res (Option D)) (src : List (Nat × List D)) : List D → S → Res (List D)
  | [], s => if still src s = true then .ok [] s else .stuck
  | d :: ds, s => if still src s = true then (step d s).bind fun o s => (compL step src ds s).bind fun r s => match o with
      | some y => .ok (y :: r) s
      | none => .ok r s
    else .stuck
/-- one turn -/
def compStep (N : List Str) (v : Ev) (elt tg : Expr) (ifs : List Expr) (ρw : Rho) (d : D) (s : S) : Res (Option D) := match bindT N tg d ρw with
  | none => .stuck
  | some ρ => (evIfs v.T ifs ρ s).bind fun b s => match b with
    | true => (v.E elt ρ s).bind fun y s => .ok (some y) s
    | false => .ok none s
/-- a loop's turns -/
noncomputable def forL (step : D → Rho → S → Res Fl) (src : List (Nat × List D)) : List D → Rho → S → Res Fl
  | [], ρ, s => if still src s = true then .ok (.nx ρ) s else .stuck
  | d :: ds, ρ, s => if still src s = true then (step d ρ s).bind fun f s => match f with
      | .nx ρ' => forL step src ds ρ' s
      | .ct ρ' => forL step src ds ρ' s
      | .bk ρ' => .ok (.nx ρ') s
      | .rt d => .ok (.rt d) s
    else .stuck
def whileN (T : Rho → S → Res Bool) (B : Rho → S → Res Fl) : Nat → Rho → S → Res Fl
  | 0, _, _ => .stuck
  | n + 1, ρ, s => (T ρ s).bind fun b s => match b with
    | false => .ok (.nx ρ) s
    | true => (B ρ s).bind fun f s => match f with
      | .nx ρ' => whileN T B n ρ' s
      | .ct ρ' => whileN T B n ρ' s
      | .bk ρ' => .ok (.nx ρ') s
      | .rt d => .ok (.rt d) s
open Classical in
noncomputable def whileL (T : Rho → S → Res Bool) (B : Rho → S → Res Fl) (ρ : Rho) (s : S) : Res Fl :=
  if h : ∃ n, whileN T B n ρ s ≠ .stuck then whileN T B h.choose ρ s else .stuck
def evBlk (X : Stmt → Rho → S → Res Fl) : List Stmt → Rho → S → Res Fl
  | [], ρ, s => .ok (.nx ρ) s
  | st :: r, ρ, s => (X st ρ s).bind fun f s => match f with
    | .nx ρ' => evBlk X r ρ' s
    | f => .ok f s
/-- parameters' values: the positional ones, then by name -/
def kwPick {α : Type} (kws : List (Str × α)) : List Str → Option (List α)
  | [] => some []
  | p :: ps => match kws.find? (fun q => decide (q.1 = p)) with
    | some q => (match kwPick kws ps with
      | some r => some (q.2 :: r)
      | none => none)
    | none => none
def rangeI (lo hi : Int) : List D := (List.range (hi - lo).toNat).map fun i => .int (lo + (i : Nat))
def zip2 : List D → List D → List D
  | a :: r, b :: t => .tup [a, b] :: zip2 r t
  | _, _ => []
def kindL (d : D) : Bool := match d with
  | .tup _ => false
  | _ => true
def enumF : Nat → List D → List D
  | _, [] => []
  | i, a :: r => .tup [.int (i : Nat), a] :: enumF (i + 1) r
def srcOf (d : D) (ds : List D) : List (Nat × List D) := match d with
  | .mref i => [(i, ds)]
  | _ => []
/-- does the value belong to the class -/
def isT (t : Bt) (d : D) : Bool := match t, d with
  | .bool, .bl _ => true
  | .int, .bl _ => true
  | .int, .int _ => true
  | .str, .str _ => true
  | .tuple, .tup _ => true
  | .list, .lst _ => true
  | .list, .mref _ => true
  | _, _ => false
/-- a value whose class can be told -/
def typed (d : D) (s : S) : Bool := match d with
  | .fix _ => false
  | .clo _ => false
  | .mref i => (s.get i).isSome
  | _ => true
def tyName (G : GEnv) (N : List Str) (e : Expr) : Option Bt := match e with
  | .Name x _ => (match ix x N with
    | some _ => none
    | none => match glook x G with
      | some (.bt .int) => some .int
      | some (.bt .bool) => some .bool
      | some (.bt .str) => some .str
      | some (.bt .tuple) => some .tuple
      | some (.bt .list) => some .list
      | _ => none)
  | _ => none
def tyNames (G : GEnv) (N : List Str) : List Expr → Option (List Bt)
  | [] => some []
  | e :: r => match tyName G N e with
    | some t => (match tyNames G N r with
      | some ts => some (t :: ts)
      | none => none)
    | none => none
/-- * and + of lists -/
def mulN (x y : D) (s : S) : Res (List D) := match y with
  | .int j => (match lstOf s x with
    | some xs => if 0 ≤ j ∧ xs.length * j.toNat ≤ line ∧ j < 1000000 then .ok (repl xs j.toNat) s else .stuck
    | none => .stuck)
  | _ => .stuck
def addN (x y : D) (s : S) : Res (List D) := match lstOf s x, lstOf s y with
  | some xs, some ys => if xs.length + ys.length ≤ line then .ok (xs ++ ys) s else .stuck
  | _, _ => .stuck
/-- the store of the caller, where nothing of it leads to what is newer -/
def plainMO (o : Option MO) : Bool := match o with
  | none => true
  | some (.lst ds) => D.plains ds
  | some (.dct _) => false
open Classical in
noncomputable def back (s : S) (d : D) (s' : S) : S := if d.plain = true ∧ ∀ i, i < s.size → s'.get i = s.get i ∨ plainMO (s'.get i) = true then ⟨s'.cells.take s.size⟩ else s'
/-! ### freezing: no list of the store is left in it -/
def mapS (f : D → S → Option (D × S)) : List D → S → Option (List D × S)
  | [], s => some ([], s)
  | d :: r, s => match f d s with
    | some (e, s) => (match mapS f r s with
      | some (es, s) => some (e :: es, s)
      | none => none)
    | none => none
def frz : Nat → D → S → Option (D × S)
  | 0, _, _ => none
  | n + 1, d, s => match d with
    | .tup ds => (match mapS (frz n) ds s with
      | some (es, s) => some (.tup es, s)
      | none => none)
    | .lst ds => (match mapS (frz n) ds s with
      | some (es, s) => some (.lst es, s)
      | none => none)
    | .mref i => (match s.get i with
      | some (.lst ds) => (match mapS (frz n) ds (s.kill i) with
        | some (es, s) => some (.lst es, s)
        | none => none)
      | _ => none)
    | d => some (d, s)
end DL
set_option Elab.async false
set_option linter.all false
set_option maxRecDepth 100000
namespace DL
open PySem PySem.Spec PyProof.Rows L2
/-- what a name stands for: a place, or a thing of the module -/
inductive Nm where
  | loc (i : Nat) | glo (g : GV) | no
def nm (c : Cfg) (x : Str) : Nm := match ix x c.N with
  | some i => .loc i
  | none => match glook x c.G with
    | some g => .glo g
    | none => .no
def frzR (d : D) (s : S) : Option (D × S) := match d.plain with
  | true => some (d, s)
  | false => frz deep d s
/-- a constant -/
def evConst (k : Const) (s : S) : Res D := match k with
  | .none => .ok .non s
  | .bool b => .ok (.bl b) s
  | .int i => .ok (.int i) s
  | .str x => .ok (.str x) s
  | _ => .stuck
def evName (c : Cfg) (x : Str) (ρ : Rho) (s : S) : Res D := match nm c x with
  | .loc i => (match rget ρ i with
    | some d => .ok d s
    | none => .stuck)
  | .glo (.int i) => .ok (.int i) s
  | .glo (.str x) => .ok (.str x) s
  | _ => .stuck
/-- a slice's end -/
def evOpt (v : Ev) (e : Option Expr) (ρ : Rho) (s : S) : Res (Option Int) := match e with
  | none => .ok none s
  | some e => (v.E e ρ s).bind fun d s => match d with
    | .int i => .ok (some i) s
    | _ => .stuck
def kwNames : List Keyword → Option (List Str)
  | [] => some []
  | ⟨some k, _, _⟩ :: r => (match kwNames r with
    | some ks => some (k :: ks)
    | none => none)
  | ⟨none, _, _⟩ :: _ => none
/-- a call of a def by a module's name -/
def evFn (v : Ev) (ps : List Str) (F : Den) (args : List Expr) (kws : List Keyword) (ρ : Rho) (s : S) : Res D := match kws with
  | [] => (evArgs v.E args ρ s).bind fun ds s => if ds.length = ps.length then F ds s else .stuck
  | kws => (match kwNames kws with
    | none => .stuck
    | some ks => (evArgs v.E args ρ s).bind fun ds s => (evArgs v.E (kws.map (·.value)) ρ s).bind fun es s => match kwPick (ks.zip es) (ps.drop ds.length) with
      | some fs => if ds.length + ks.length = ps.length ∧ ks.Nodup ∧ ∀ k ∈ ks, k ∈ ps.drop ds.length then F (ds ++ fs) s else .stuck
      | none => .stuck)
def evIsi (c : Cfg) (v : Ev) (args : List Expr) : Rho → S → Res D := match args with
  | [e, .Tuple ts _ _] => (match tyNames c.G c.N ts with
    | some bs => fun ρ s => (v.E e ρ s).bind fun d s => if typed d s = true then .ok (.bl (bs.any fun b => isT b d)) s else .stuck
    | none => fun _ _ => .stuck)
  | [e, t] => (match tyName c.G c.N t with
    | some b => fun ρ s => (v.E e ρ s).bind fun d s => if typed d s = true then .ok (.bl (isT b d)) s else .stuck
    | none => fun _ _ => .stuck)
  | _ => fun _ _ => .stuck
/-- a range as an argument: its own arguments -/
def rngArgs (c : Cfg) (e : Expr) : Option (List Expr) := match e with
  | .Call (.Name f _) args [] _ => (match nm c f with
    | .glo (.bt .range) => some args
    | _ => none)
  | _ => none
def evRng (v : Ev) (args : List Expr) (ρ : Rho) (s : S) : Res (Int × Int) := match args with
  | [a] => (v.E a ρ s).bind fun x s => match x with
    | .int j => .ok (0, j) s
    | _ => .stuck
  | [a, b] => (v.E a ρ s).bind fun x s => (v.E b ρ s).bind fun y s => match x, y with
    | .int i, .int j => .ok (i, j) s
    | _, _ => .stuck
  | _ => .stuck
/-- the bounds of a range -/
def rngOk (i : Int) : Bool := decide (-(2 ^ 62) ≤ i) && decide (i < 2 ^ 62)
def evRngL (v : Ev) (args : List Expr) (ρ : Rho) (s : S) : Res (List D) := (evRng v args ρ s).bind fun r s => if rngOk r.1 = true ∧ rngOk r.2 = true ∧ (r.2 - r.1).toNat ≤ line then .ok (rangeI r.1 r.2) s else .stuck
/-- list(..), tuple(..) -/
def evListOf (c : Cfg) (v : Ev) (b : Bt) (e : Expr) : Rho → S → Res D := match rngArgs c e with
  | some args => (match b with
    | .list => fun ρ s => asLst (evRngL v args ρ s)
    | .tuple => fun ρ s => (evRngL v args ρ s).bind fun ds s => .ok (.tup ds) s
    | _ => fun _ _ => .stuck)
  | none => fun ρ s => (v.E e ρ s).bind fun d s => callB b [d] s
def evOne (c : Cfg) (v : Ev) (b : Bt) (args : List Expr) : Rho → S → Res D := match args with
  | [e] => evListOf c v b e
  | _ => fun _ _ => .stuck
/-- key=lambda x: (len(x), x) -/
def lenKeyOf (kw : Keyword) : Bool := match kw with
  | ⟨some n, .Lambda ⟨[], [⟨z, none, _⟩], none, [], [], none, []⟩ (.Tuple [.Call (.Name l _) [.Name x _] [] _, .Name y _] _ _) _ _, _⟩ => decide (n = ("key" : Str)) && decide (l = ("len" : Str)) && decide (x = z) && decide (y = z)
  | _ => false
def evKeyN (v : Ev) (a : Expr) (kw : Keyword) : Rho → S → Res (List D) := match lenKeyOf kw with
  | true => fun ρ s => (v.E a ρ s).bind fun d s => sortedKN d s
  | false => fun _ _ => .stuck
def evKey (v : Ev) (b : Bt) (args : List Expr) (kw : Keyword) : Rho → S → Res D := match b, args with
  | .sorted, [a] => fun ρ s => asLst (evKeyN v a kw ρ s)
  | _, _ => fun _ _ => .stuck
def evBt (c : Cfg) (v : Ev) (b : Bt) (args : List Expr) (kws : List Keyword) : Rho → S → Res D := match kws with
  | [] => (match b with
    | .isinst => evIsi c v args
    | .list => evOne c v .list args
    | .tuple => evOne c v .tuple args
    | b => fun ρ s => (evArgs v.E args ρ s).bind fun ds s => callB b ds s)
  | [kw] => evKey v b args kw
  | _ => fun _ _ => .stuck
def evCall (c : Cfg) (v : Ev) (f : Str) (args : List Expr) (kws : List Keyword) : Rho → S → Res D := match nm c f with
  | .glo (.fn ps F) => evFn v ps F args kws
  | .glo (.bt b) => evBt c v b args kws
  | _ => fun _ _ => .stuck
noncomputable def evCompN (c : Cfg) (v : Ev) (elt tg it : Expr) (ifs : List Expr) (sc : Scope) (ρ : Rho) (s : S) : Res (List D) :=
  (v.I it ρ s).bind fun t s => (compL (compStep c.N v elt tg ifs (wipeR ρ ((ownTg c.N tg).map (·.2)))) t.src t.items s).calm.bind fun ds s =>
    if t.items.length ≤ line then .ok ds s else .stuck
noncomputable def evComp (c : Cfg) (v : Ev) (elt tg it : Expr) (ifs : List Expr) (sc : Scope) (ρ : Rho) (s : S) : Res D := asLst (evCompN c v elt tg it ifs sc ρ s)
def evTruth (d : D) (s : S) : Res Bool := match truth d s with
  | some b => .ok b s
  | none => .stuck
def cmp1 (v : Ev) (a : Expr) (op : CmpOp) (b : Expr) (ρ : Rho) (s : S) : Res D := (v.E a ρ s).bind fun x s => (v.E b ρ s).bind fun y s => cmpop op x y s
def cmp2 (v : Ev) (a : Expr) (op : CmpOp) (b : Expr) (op' : CmpOp) (d : Expr) (ρ : Rho) (s : S) : Res D := (v.E a ρ s).bind fun x s => (v.E b ρ s).bind fun y s => (cmpop op x y s).bind fun z s => match z with
  | .bl k => (match k with
    | true => (v.E d ρ s).bind fun w s => cmpop op' y w s
    | false => .ok (.bl false) s)
  | _ => .stuck
def toB (d : D) (s : S) : Res Bool := match d with
  | .bl b => .ok b s
  | _ => .stuck
noncomputable def stE (c : Cfg) (v : Ev) (e : Expr) : Rho → S → Res D := match e with
  | .Constant k _ _ => fun _ s => evConst k s
  | .Name x _ => evName c x
  | .BinOp a op b _ => fun ρ s => (v.E a ρ s).bind fun x s => (v.E b ρ s).bind fun y s => binop op x y s
  | .UnaryOp .USub a _ => fun ρ s => (v.E a ρ s).bind fun x s => negD x s
  | .UnaryOp .Not a _ => fun ρ s => (v.E a ρ s).bind fun x s => (evTruth x s).bind fun b s => .ok (.bl !b) s
  | .BoolOp .And es _ => evAnd v.E es
  | .BoolOp .Or es _ => evOr v.E es
  | .Compare a [op] [b] _ => cmp1 v a op b
  | .Compare a [op, op'] [b, d] _ => cmp2 v a op b op' d
  | .IfExp t a b _ => fun ρ s => (v.T t ρ s).bind fun q s => match q with
    | true => v.E a ρ s
    | false => v.E b ρ s
  | .Tuple es _ _ => fun ρ s => (evArgs v.E es ρ s).bind fun ds s => .ok (.tup ds) s
  | .List es _ => fun ρ s => asLst (evArgs v.E es ρ s)
  | .Subscript a (.Slice lo hi none _) _ => fun ρ s => (v.E a ρ s).bind fun x s => (evOpt v lo ρ s).bind fun i s => (evOpt v hi ρ s).bind fun j s => cutD x i j s
  | .Subscript a i _ => fun ρ s => (v.E a ρ s).bind fun x s => (v.E i ρ s).bind fun y s => getD x y s
  | .ListComp elt [⟨tg, it, ifs, 0⟩] sc _ => evComp c v elt tg it ifs sc
  | .Call (.Name f _) args kws _ => evCall c v f args kws
  | _ => fun _ _ => .stuck
def stT (c : Cfg) (v : Ev) (e : Expr) : Rho → S → Res Bool := match e with
  | .UnaryOp .Not a _ => fun ρ s => (v.T a ρ s).bind fun b s => .ok (!b) s
  | .BoolOp .And es _ => evAndT v.T es
  | .BoolOp .Or es _ => evOrT v.T es
  | .Compare a [op] [b] _ => fun ρ s => (cmp1 v a op b ρ s).bind toB
  | .Compare a [op, op'] [b, d] _ => fun ρ s => (cmp2 v a op b op' d ρ s).bind toB
  | .Name x p => fun ρ s => (v.E (.Name x p) ρ s).bind evTruth
  | .Call f a k p => fun ρ s => (v.E (.Call f a k p) ρ s).bind evTruth
  | .Subscript a i p => fun ρ s => (v.E (.Subscript a i p) ρ s).bind evTruth
  | .Constant k q p => fun ρ s => (v.E (.Constant k q p) ρ s).bind evTruth
  | _ => fun _ _ => .stuck
def intsOf (ds : List D) : Option (List Int) := intsO ds
def evSeqI (v : Ev) (e : Expr) (ρ : Rho) (s : S) : Res Itm := (v.E e ρ s).bind fun d s => match seqOf s d with
  | some ds => .ok ⟨ds, srcOf d ds⟩ s
  | none => .stuck
def stI (c : Cfg) (v : Ev) (e : Expr) : Rho → S → Res Itm := match e with
  | .Call (.Name f p) args kws q => (match nm c f with
    | .glo (.bt .range) => (match kws with
      | [] => fun ρ s => (evRng v args ρ s).bind fun r s => if rngOk r.1 = true ∧ rngOk r.2 = true then .ok ⟨rangeI r.1 r.2, []⟩ s else .stuck
      | _ => fun _ _ => .stuck)
    | .glo (.bt .zip) => (match args, kws with
      | [a, b], [] => fun ρ s => (v.E a ρ s).bind fun x s => (v.E b ρ s).bind fun y s => match seqOf s x, seqOf s y with
        | some xs, some ys => if kindL x = kindL y then .ok ⟨zip2 xs ys, srcOf x xs ++ srcOf y ys⟩ s else .stuck
        | _, _ => .stuck
      | _, _ => fun _ _ => .stuck)
    | .glo (.bt .enumerate) => (match args, kws with
      | [a], [] => fun ρ s => (v.E a ρ s).bind fun x s => match seqOf s x with
        | some xs => .ok ⟨enumF 0 xs, srcOf x xs⟩ s
        | none => .stuck
      | _, _ => fun _ _ => .stuck)
    | _ => evSeqI v (.Call (.Name f p) args kws q))
  | e => evSeqI v e
/-- an expression whose value is a list that nobody else holds -/
def isNew (c : Cfg) (e : Expr) : Bool := match e with
  | .List _ _ => true
  | .ListComp _ _ _ _ => true
  | .BinOp (.List _ _) .Mult _ _ => true
  | .BinOp _ .Add (.List _ _) _ => true
  | .BinOp _ .Add (.ListComp _ _ _ _) _ => true
  | .Call (.Name f _) _ [] _ => (match nm c f with
    | .glo (.bt .list) => true
    | .glo (.bt .sorted) => true
    | _ => false)
  | .Call (.Name f _) [_] [_] _ => (match nm c f with
    | .glo (.bt .sorted) => true
    | _ => false)
  | _ => false
noncomputable def stN (c : Cfg) (v : Ev) (e : Expr) : Rho → S → Res (List D) := match e with
  | .List es _ => evArgs v.E es
  | .ListComp elt [⟨tg, it, ifs, 0⟩] sc _ => evCompN c v elt tg it ifs sc
  | .BinOp a .Mult b _ => fun ρ s => (v.E a ρ s).bind fun x s => (v.E b ρ s).bind fun y s => mulN x y s
  | .BinOp a .Add b _ => fun ρ s => (v.E a ρ s).bind fun x s => (v.E b ρ s).bind fun y s => addN x y s
  | .Call (.Name f _) [a] [] _ => (match nm c f with
    | .glo (.bt .list) => (match rngArgs c a with
      | some args => evRngL v args
      | none => fun ρ s => (v.E a ρ s).bind fun d s => listN [d] s)
    | .glo (.bt .sorted) => fun ρ s => (v.E a ρ s).bind fun d s => sortedN [d] s
    | _ => fun _ _ => .stuck)
  | .Call (.Name f _) [a] [kw] _ => (match nm c f with
    | .glo (.bt .sorted) => evKeyN v a kw
    | _ => fun _ _ => .stuck)
  | _ => fun _ _ => .stuck
/-- it joins the store -/
def thaw (ds : List D) (s : S) : Res D := .ok (.mref s.size) (s.push (.lst ds))
/-- an expression for the place i -/
noncomputable def evFor (c : Cfg) (v : Ev) (i : Nat) (e : Expr) : Rho → S → Res D := match c.mu.contains i && isNew c e with
  | true => fun ρ s => (v.N e ρ s).bind thaw
  | false => v.E e
/-- a comprehension for the place i -/
noncomputable def evForC (c : Cfg) (v : Ev) (i : Nat) (elt tg it : Expr) (ifs : List Expr) (sc : Scope) (ρ : Rho) (s : S) : Res D := match c.mu.contains i with
  | true => (evCompN c v elt tg it ifs sc ρ s).bind thaw
  | false => evComp c v elt tg it ifs sc ρ s
/-- o[i] = d -/
def setD (x y d : D) (s : S) : Res Unit := match x, y with
  | .mref k, .int i => (match s.get k with
    | some (.lst ds) => if 0 ≤ i ∧ i < ds.length then .ok () (s.put k (.lst (ds.set i.toNat d))) else .stuck
    | _ => .stuck)
  | _, _ => .stuck
def asgT (c : Cfg) (v : Ev) (tg : Expr) (d : D) : Rho → S → Res Rho := match tg with
  | .Name x _ => (match ix x c.N with
    | some i => fun ρ s => .ok (ρ.set i (some d)) s
    | none => fun _ _ => .stuck)
  | .Subscript o i _ => fun ρ s => (v.E o ρ s).bind fun x s => (v.E i ρ s).bind fun y s => (setD x y d s).bind fun _ s => .ok ρ s
  | _ => fun _ _ => .stuck
def asgTs (c : Cfg) (v : Ev) : List Expr → List D → Rho → S → Res Rho
  | [], [], ρ, s => .ok ρ s
  | t :: ts, d :: ds, ρ, s => (asgT c v t d ρ s).bind fun ρ s => asgTs c v ts ds ρ s
  | _, _, _, _ => .stuck
/-- a, b, .. = x, y, .. with names: the values -/
noncomputable def evPar (c : Cfg) (v : Ev) : List Expr → List Expr → Rho → S → Res (List D)
  | [], [], _, s => .ok [] s
  | .Name x _ :: ts, e :: es, ρ, s => (match ix x c.N with
    | some i => (evFor c v i e ρ s).bind fun d s => (evPar c v ts es ρ s).bind fun ds s => .ok (d :: ds) s
    | none => .stuck)
  | _, _, _, _ => .stuck
noncomputable def evAsg (c : Cfg) (v : Ev) (tg e : Expr) : Rho → S → Res Rho := match tg with
  | .Name x _ => (match ix x c.N with
    | some i => (match e with
      | .ListComp elt [⟨tg, it, ifs, 0⟩] sc _ => fun ρ s => (evForC c v i elt tg it ifs sc ρ s).bind fun d s => .ok (ρ.set i (some d)) s
      | e => fun ρ s => (evFor c v i e ρ s).bind fun d s => .ok (ρ.set i (some d)) s)
    | none => fun _ _ => .stuck)
  | .Tuple ts _ _ => (match e with
    | .Tuple es _ _ => fun ρ s => (evPar c v ts es ρ s).bind fun ds s => match bindNs c.N ts ds ρ with
      | some ρ => .ok ρ s
      | none => .stuck
    | e => fun ρ s => (v.E e ρ s).bind fun d s => match d with
      | .tup ds => if ds.length = ts.length then asgTs c v ts ds ρ s else .stuck
      | _ => .stuck)
  | tg => fun ρ s => (v.E e ρ s).bind fun d s => asgT c v tg d ρ s
def appendD (x d : D) (s : S) : Res Unit := match x with
  | .mref k => (match s.get k with
    | some (.lst ds) => if ds.length < line then .ok () (s.put k (.lst (ds ++ [d]))) else .stuck
    | _ => .stuck)
  | _ => .stuck
def extendD (x d : D) (s : S) : Res Unit := match x with
  | .mref k => (match s.get k, lstOf s d with
    | some (.lst ds), some es => if ds.length + es.length ≤ line then .ok () (s.put k (.lst (ds ++ es))) else .stuck
    | _, _ => .stuck)
  | _ => .stuck
/-- the list of a statement's method -/
def evRecv (v : Ev) (o a : Expr) (f : D → D → S → Res Unit) (ρ : Rho) (s : S) : Res Unit := (v.E o ρ s).bind fun x s => match lstOf s x with
  | some _ => (v.E a ρ s).bind fun d s => f x d s
  | none => .stuck
def evDo (v : Ev) (e : Expr) : Rho → S → Res Unit := match e with
  | .Call (.Attribute o m p) [a] [] q => if m = ("append" : Str) then evRecv v o a appendD
      else if m = ("extend" : Str) then evRecv v o a extendD
      else fun ρ s => (v.E (.Call (.Attribute o m p) [a] [] q) ρ s).bind fun _ s => .ok () s
  | e => fun ρ s => (v.E e ρ s).bind fun _ s => .ok () s
noncomputable def evRet (c : Cfg) (v : Ev) (e : Expr) : Rho → S → Res Fl := match c.keep with
  | true => (match isNew c e with
    | true => fun ρ s => ((v.N e ρ s).bind thaw).bind fun d s => .ok (.rt d) s
    | false => fun ρ s => (v.E e ρ s).bind fun d s => .ok (.rt d) s)
  | false => fun ρ s => (v.E e ρ s).bind fun d s => match frzR d s with
    | some (d, s) => .ok (.rt d) s
    | none => .stuck
def evAug (v : Ev) (i : Nat) (op : Operator) (e : Expr) (ρ : Rho) (s : S) : Res Fl := match rget ρ i with
  | some (.int n) => (v.E e ρ s).bind fun y s => (match op with
    | .Add => addD (.int n) y s
    | .Sub => subD (.int n) y s
    | _ => .stuck).bind fun z s => .ok (.nx (ρ.set i (some z))) s
  | _ => .stuck
noncomputable def stX (c : Cfg) (v : Ev) (st : Stmt) : Rho → S → Res Fl := match st with
  | .Expr e _ => fun ρ s => (evDo v e ρ s).bind fun _ s => .ok (.nx ρ) s
  | .Assign [tg] e _ => fun ρ s => (evAsg c v tg e ρ s).bind fun ρ s => .ok (.nx ρ) s
  | .AugAssign (.Name x _) op e _ => (match ix x c.N with
    | some i => evAug v i op e
    | none => fun _ _ => .stuck)
  | .For tg it body [] _ => fun ρ s => (v.I it ρ s).bind fun t s => forL (fun d ρ s => match bindT c.N tg d ρ with
    | some ρ => evBlk v.X body ρ s
    | none => .stuck) t.src t.items ρ s
  | .While t body [] _ => fun ρ s => whileL (v.T t) (evBlk v.X body) ρ s
  | .If t a b _ => fun ρ s => (v.T t ρ s).bind fun q s => match q with
    | true => evBlk v.X a ρ s
    | false => evBlk v.X b ρ s
  | .Return (some e) _ => evRet c v e
  | .Return none _ => fun _ s => .ok (.rt .non) s
  | .Pass _ => fun ρ s => .ok (.nx ρ) s
  | .Break _ => fun ρ s => .ok (.bk ρ) s
  | .Continue _ => fun ρ s => .ok (.ct ρ) s
  | _ => fun _ _ => .stuck
noncomputable def ev (c : Cfg) : Nat → Ev
  | 0 => evStuck
  | n + 1 => ⟨stE c (ev c n), stN c (ev c n), stT c (ev c n), stI c (ev c n), stX c (ev c n)⟩
/-- a def's run -/
noncomputable def runB (c : Cfg) (np : Nat) (body : List Stmt) : Den := fun ds s =>
  if ds.length = np then (evBlk (ev c 60).X body (ds.map some ++ List.replicate (c.N.length - ds.length) none) s).bind fun f s' => match f with
    | .rt d => .ok d (match c.keep with
      | true => s'
      | false => back s d s')
    | .nx _ => .ok .non (back s .non s')
    | _ => .stuck
  else .stuck
end DL
set_option Elab.async false
set_option linter.all false
set_option maxRecDepth 100000
set_option maxHeartbeats 2000000
/-! The data layer, part 3: what a tree stands for in the heap; the readings by trees. -/
namespace DL
open PySem PySem.Spec PyProof.Rows L2
/-- what is frozen, where the store's lists lie -/
structure Gh where
  Z : Hp
  α : Nat → Addr
  /-- the tables of code objects, the names that they tell -/
  T : List (Addr × Str)
/-- no table -/
abbrev NT (o : HO) : Prop := ∀ ps, o ≠ .tbl ps
mutual
inductive Rep (K : PySem.W.Frag) (g : Gh) (n : Nat) : V → D → Prop
  | non : Rep K g n .non .non
  | bl (b : Bool) : Rep K g n (.bl b) (.bl b)
  | int (i : Int) : Rep K g n (.int i) (.int i)
  | str (x : Str) : Rep K g n (.str x) (.str x)
  | tup {a : Addr} {xs : List V} {ds : List D} : SqT K g.Z a xs → RepL K g n xs ds → Rep K g n (.ref a) (.tup ds)
  | lst {a : Addr} {xs : List V} {ds : List D} : g.Z a = some (.lst xs) → RepL K g n xs ds → Rep K g n (.ref a) (.lst ds)
  | fix {a : Addr} {xs : List V} {ds : List D} : SqL K g.Z a xs → RepL K g n xs ds → Rep K g n (.ref a) (.fix ds)
  | mref {i : Nat} : i < n → Rep K g n (.ref (g.α i)) (.mref i)
inductive RepL (K : PySem.W.Frag) (g : Gh) (n : Nat) : List V → List D → Prop
  | nil : RepL K g n [] []
  | cons {v : V} {vs : List V} {d : D} {ds : List D} : Rep K g n v d → RepL K g n vs ds → RepL K g n (v :: vs) (d :: ds)
end
def RepMO (K : PySem.W.Frag) (g : Gh) (n : Nat) (o : HO) : MO → Prop
  | .lst ds => ∃ xs, o = .lst xs ∧ RepL K g n xs ds
  | .dct _ => False
structure AbsS (K : PySem.W.Frag) (g : Gh) (H : Hp) (s : S) : Prop where
  zH : ∀ b o, g.Z b = some o → H b = some o
  cell : ∀ i mo, s.get i = some mo → ∃ o, H (g.α i) = some o ∧ g.Z (g.α i) = none ∧ RepMO K g s.size o mo
  inj : ∀ i j, (s.get i).isSome = true → (s.get j).isSome = true → g.α i = g.α j → i = j
  tabs : LamX.Tabs g.T H
  zt : ∀ b o, g.Z b = some o → NT o
structure Ext (g : Gh) (s : S) (H : Hp) (g' : Gh) (s' : S) (H' : Hp) : Prop where
  le : s.size ≤ s'.size
  al : ∀ i, i < s.size → g'.α i = g.α i
  zz : ∀ b o, g.Z b = some o → g'.Z b = some o
  keep : ∀ b o, H b = some o → NT o → (∀ i, (s.get i).isSome = true → g.α i ≠ b) → H' b = some o ∧ (g.Z b = none → g'.Z b = none)
  dead : ∀ i, i < s.size → s.get i = none → s'.get i = none
  new : ∀ i, s.size ≤ i → (s'.get i).isSome = true → ∀ o, H (g'.α i) = some o → ¬ NT o
  there : ∀ b o, H b = some o → NT o → ∃ o', H' b = some o' ∧ NT o'
  tt : g'.T = g.T
theorem get_lt {s : S} {i : Nat} (h : (s.get i).isSome = true) : i < s.size := by
  unfold S.get at h
  by_cases hi : i < s.cells.length
  · exact hi
  · rw [List.getElem?_eq_none (Nat.le_of_not_lt hi)] at h
    cases h
theorem get_lt' {s : S} {i : Nat} {mo : MO} (h : s.get i = some mo) : i < s.size := get_lt (by rw [h]; rfl)
theorem Ext.refl (g : Gh) (s : S) (H : Hp) : Ext g s H g s H :=
  ⟨Nat.le_refl _, fun _ _ => rfl, fun _ _ h => h, fun _ _ h _ _ => ⟨h, fun z => z⟩, fun _ _ h => h, fun i hi h => absurd (get_lt h) (Nat.not_lt.mpr hi), fun _ o h n => ⟨o, h, n⟩, rfl⟩
theorem Ext.live {g g' : Gh} {s s' : S} {H H' : Hp} (e : Ext g s H g' s' H') {i : Nat} (hi : i < s.size) (h : (s'.get i).isSome = true) : (s.get i).isSome = true := by
  cases q : s.get i with
  | some o => rfl
  | none =>
    rw [e.dead i hi q] at h
    cases h
theorem Ext.trans {g g1 g2 : Gh} {s s1 s2 : S} {H H1 H2 : Hp} (a : Ext g s H g1 s1 H1) (b : Ext g1 s1 H1 g2 s2 H2) : Ext g s H g2 s2 H2 where
  le := Nat.le_trans a.le b.le
  al := fun i hi => (b.al i (Nat.lt_of_lt_of_le hi a.le)).trans (a.al i hi)
  zz := fun c o h => b.zz c o (a.zz c o h)
  keep := fun c o h nt hn => by
    obtain ⟨h1, z1⟩ := a.keep c o h nt hn
    obtain ⟨h2, z2⟩ := b.keep c o h1 nt fun i hl => by
      by_cases hi : i < s.size
      · rw [a.al i hi]
        exact hn i (a.live hi hl)
      · intro e
        exact a.new i (Nat.le_of_not_lt hi) hl o (by rw [e]; exact h) nt
    exact ⟨h2, fun z => z2 (z1 z)⟩
  dead := fun i hi h => b.dead i (Nat.lt_of_lt_of_le hi a.le) (a.dead i hi h)
  new := fun i hi hl o ho nt => by
    by_cases h1 : i < s1.size
    · rw [b.al i h1] at ho
      exact a.new i hi (b.live h1 hl) o ho nt
    · obtain ⟨o', q, n'⟩ := a.there _ o ho nt
      exact b.new i (Nat.le_of_not_lt h1) hl o' q n'
  there := fun c o h nt => by
    obtain ⟨o', h1, n1⟩ := a.there c o h nt
    exact b.there c o' h1 n1
  tt := b.tt.trans a.tt
theorem sqT_mono {K : PySem.W.Frag} {Z Z' : Hp} {a : Addr} {xs : List V} (z : ∀ b o, Z b = some o → Z' b = some o) (h : SqT K Z a xs) : SqT K Z' a xs := by
  rcases h with (h | ⟨o, h⟩) | h
  · exact .inl (.inl (z _ _ h))
  · exact .inl (.inr ⟨o, z _ _ h⟩)
  · exact .inr h
theorem sqL_mono {K : PySem.W.Frag} {Z Z' : Hp} {a : Addr} {xs : List V} (z : ∀ b o, Z b = some o → Z' b = some o) (h : SqL K Z a xs) : SqL K Z' a xs := by
  rcases h with (h | ⟨o, h⟩) | h
  · exact .inl (.inl (z _ _ h))
  · exact .inl (.inr ⟨o, z _ _ h⟩)
  · exact .inr h
section
variable {K : PySem.W.Frag} {g g' : Gh} {n n' : Nat}
mutual
theorem Rep.mono (hn : n ≤ n') (al : ∀ i, i < n → g'.α i = g.α i) (z : ∀ b o, g.Z b = some o → g'.Z b = some o) : ∀ {v : V} {d : D}, Rep K g n v d → Rep K g' n' v d
  | _, _, .non => .non
  | _, _, .bl b => .bl b
  | _, _, .int i => .int i
  | _, _, .str x => .str x
  | _, _, .tup h r => .tup (sqT_mono z h) (RepL.mono hn al z r)
  | _, _, .lst h r => .lst (z _ _ h) (RepL.mono hn al z r)
  | _, _, .fix h r => .fix (sqL_mono z h) (RepL.mono hn al z r)
  | _, _, .mref (i := i) h => by
    rw [← al i h]
    exact .mref (Nat.lt_of_lt_of_le h hn)
theorem RepL.mono (hn : n ≤ n') (al : ∀ i, i < n → g'.α i = g.α i) (z : ∀ b o, g.Z b = some o → g'.Z b = some o) : ∀ {vs : List V} {ds : List D}, RepL K g n vs ds → RepL K g' n' vs ds
  | _, _, .nil => .nil
  | _, _, .cons h r => .cons (Rep.mono hn al z h) (RepL.mono hn al z r)
end
end
theorem Ext.rep {K : PySem.W.Frag} {g g' : Gh} {s s' : S} {H H' : Hp} (e : Ext g s H g' s' H') {v : V} {d : D} (r : Rep K g s.size v d) : Rep K g' s'.size v d := r.mono e.le e.al e.zz
theorem Ext.repL {K : PySem.W.Frag} {g g' : Gh} {s s' : S} {H H' : Hp} (e : Ext g s H g' s' H') {v : List V} {d : List D} (r : RepL K g s.size v d) : RepL K g' s'.size v d := r.mono e.le e.al e.zz
section
variable {K : PySem.W.Frag} {g : Gh} {n : Nat}
theorem RepL.length : ∀ {vs : List V} {ds : List D}, RepL K g n vs ds → vs.length = ds.length
  | _, _, .nil => rfl
  | _, _, .cons _ r => by rw [List.length_cons, List.length_cons, RepL.length r]
theorem RepL.append : ∀ {vs ws : List V} {ds es : List D}, RepL K g n vs ds → RepL K g n ws es → RepL K g n (vs ++ ws) (ds ++ es)
  | _, _, _, _, .nil, r => r
  | _, _, _, _, .cons h t, r => .cons h (RepL.append t r)
theorem RepL.get : ∀ {vs : List V} {ds : List D} {i : Nat} {d : D}, RepL K g n vs ds → ds[i]? = some d → ∃ v, vs[i]? = some v ∧ Rep K g n v d
  | _, _, _, _, .nil, e => by simp at e
  | _, _, 0, _, .cons h _, e => by
    simp at e
    subst e
    exact ⟨_, rfl, h⟩
  | _, _, i + 1, d, .cons _ r, e => by
    obtain ⟨v, h1, h2⟩ := RepL.get (i := i) (d := d) r (by simpa using e)
    exact ⟨v, by simpa using h1, h2⟩
theorem RepL.take : ∀ {vs : List V} {ds : List D} (k : Nat), RepL K g n vs ds → RepL K g n (vs.take k) (ds.take k)
  | _, _, 0, _ => by simpa using RepL.nil
  | _, _, _ + 1, .nil => by simpa using RepL.nil
  | _, _, k + 1, .cons h r => by simpa using RepL.cons h (RepL.take k r)
theorem RepL.drop : ∀ {vs : List V} {ds : List D} (k : Nat), RepL K g n vs ds → RepL K g n (vs.drop k) (ds.drop k)
  | _, _, 0, r => by simpa using r
  | _, _, _ + 1, .nil => by simpa using RepL.nil
  | _, _, k + 1, .cons _ r => by simpa using RepL.drop k r
theorem RepL.set {v : V} {d : D} (h : Rep K g n v d) : ∀ {vs : List V} {ds : List D} (k : Nat), RepL K g n vs ds → RepL K g n (vs.set k v) (ds.set k d)
  | _, _, _, .nil => by simpa using RepL.nil
  | _, _, 0, .cons _ r => by simpa using RepL.cons h r
  | _, _, k + 1, .cons q r => by simpa using RepL.cons q (RepL.set h k r)
theorem RepL.one {v : V} {d : D} (h : Rep K g n v d) : RepL K g n [v] [d] := .cons h .nil
end
/-- an error, behind what let it out -/
def ExRep (K : PySem.W.Frag) (cl : Str → Option Addr) (g : Gh) (n : Nat) (H : Hp) (x : Ex) (cls : Value) (dx : Option Addr) : Prop :=
  ∃ C, cl x.cls = some C ∧ cls = .ref C ∧ match x.val with
    | none => True
    | some (f, d) => ∃ p v, dx = some p ∧ H p = some (.xd [(f, v)]) ∧ Rep K g n v d
/-- the circumstances: the written part, where classes lie, the wish for errors -/
structure Par where
  K : PySem.W.Frag
  cl : Str → Option Addr
  E : XK
  /-- what the slots keep -/
  inv : L2.St → Prop
  T : List (Addr × Str)
def Post {α : Type} (P : Par) (H : Hp) (g : Gh) (s : S) (r : Res α) (k : α → S → Gh → Hp → Prop) : Prop := match r with
  | .ok a s' => ∀ g' H', Ext g s H g' s' H' → AbsS P.K g' H' s' → k a s' g' H'
  | .err x s' => ∀ g' H' cls dx, Ext g s H g' s' H' → AbsS P.K g' H' s' → ExRep P.K P.cl g' s'.size H' x cls dx → P.E cls dx H'
  | .stuck => False
section
variable {α β : Type} {P : Par} {H H1 : Hp} {g g1 : Gh} {s s1 : S} {r : Res α}
theorem Post.rebase {k : α → S → Gh → Hp → Prop} (h : Post P H g s r k) (e : Ext g s H g1 s1 H1) : Post P H1 g1 s1 r k := by
  cases r with
  | ok a s' => exact fun g' H' e' ab => h g' H' (e.trans e') ab
  | err x s' => exact fun g' H' cls dx e' ab => h g' H' cls dx (e.trans e') ab
  | stuck => exact h
theorem Post.bind {f : α → S → Res β} {k : β → S → Gh → Hp → Prop} (h : Post P H g s (r.bind f) k) : Post P H g s r fun a s1 g1 H1 => Post P H1 g1 s1 (f a s1) k := by
  cases r with
  | ok a s' => exact fun g' H' e' ab => Post.rebase h e'
  | err x s' => exact fun g' H' cls dx e' ab => h g' H' cls dx e' ab
  | stuck => exact h
theorem Post.imp {k k' : α → S → Gh → Hp → Prop} (h : Post P H g s r k) (i : ∀ a s' g' H', Ext g s H g' s' H' → AbsS P.K g' H' s' → k a s' g' H' → k' a s' g' H') : Post P H g s r k' := by
  cases r with
  | ok a s' => exact fun g' H' e' ab => i _ _ _ _ e' ab (h g' H' e' ab)
  | err x s' => exact h
  | stuck => exact h
/-- where it is ok here and now -/
theorem Post.here {a : α} {k : α → S → Gh → Hp → Prop} (h : Post P H g s (.ok a s) k) (ab : AbsS P.K g H s) : k a s g H := h g H (Ext.refl g s H) ab
end
/-! ### the slots -/
structure EnvOk (P : Par) (g : Gh) (n : Nat) (σ : L2.St) (ρ : Rho) : Prop where
  inv : P.inv σ
  tt : g.T = P.T
  len : ρ.length = σ.length
  at_ : ∀ i d, rget ρ i = some d → ∃ v, σ[i]? = some (some v) ∧ Rep P.K g n v d
theorem EnvOk.ext {P : Par} {g g' : Gh} {s s' : S} {H H' : Hp} {σ : L2.St} {ρ : Rho} (h : EnvOk P g s.size σ ρ) (e : Ext g s H g' s' H') : EnvOk P g' s'.size σ ρ :=
  ⟨h.inv, e.tt.trans h.tt, h.len, fun i d hd => let ⟨v, h1, h2⟩ := h.at_ i d hd; ⟨v, h1, e.rep h2⟩⟩
theorem rget_set {ρ : Rho} {i j : Nat} {d : D} : rget (ρ.set i (some d)) j = if j = i ∧ i < ρ.length then some d else rget ρ j := by
  unfold rget
  by_cases hj : j = i
  · subst hj
    by_cases hi : j < ρ.length
    · rw [List.getElem?_set_self hi, if_pos ⟨rfl, hi⟩]
    · rw [if_neg (fun z => hi z.2), List.set_eq_of_length_le (Nat.le_of_not_lt hi)]
  · rw [List.getElem?_set_ne (Ne.symm hj), if_neg (fun z => hj z.1)]
theorem EnvOk.set {P : Par} {g : Gh} {n : Nat} {σ : L2.St} {ρ : Rho} {i : Nat} {v : V} {d : D} (h : EnvOk P g n σ ρ) (hi : P.inv (σ.set i (some v))) (r : Rep P.K g n v d) : EnvOk P g n (σ.set i (some v)) (ρ.set i (some d)) := by
  refine ⟨hi, h.tt, by rw [List.length_set, List.length_set]; exact h.len, fun j e he => ?_⟩
  rw [rget_set] at he
  by_cases hj : j = i ∧ i < ρ.length
  · rw [if_pos hj] at he
    obtain ⟨rfl, hi⟩ := hj
    cases he
    exact ⟨v, by rw [List.getElem?_set_self (by rw [← h.len]; exact hi)], r⟩
  · rw [if_neg hj] at he
    obtain ⟨w, h1, h2⟩ := h.at_ j e he
    refine ⟨w, ?_, h2⟩
    by_cases hji : j = i
    · subst hji
      have hl : j < σ.length := (List.getElem?_eq_some_iff.mp h1).1
      exact absurd ⟨rfl, by rw [h.len]; exact hl⟩ hj
    · rw [List.getElem?_set_ne (Ne.symm hji)]
      exact h1
/-- no error is wished for, nothing is asked of the slots -/
def Par.quiet (P : Par) : Par := { P with E := fun _ _ _ => False, inv := fun _ => True }
theorem EnvOk.wipe {P : Par} {g : Gh} {n : Nat} {σ : L2.St} {ρ : Rho} (h : EnvOk P g n σ ρ) : ∀ vs : List Nat, EnvOk P.quiet g n (L2.wipe σ vs) (wipeR ρ vs)
  | [] => ⟨trivial, h.tt, h.len, h.at_⟩
  | i :: vs => by
    have ih := EnvOk.wipe h vs
    refine ⟨trivial, h.tt, by show ((wipeR ρ vs).set i none).length = ((L2.wipe σ vs).set i none).length; rw [List.length_set, List.length_set]; exact ih.len, fun j e he => ?_⟩
    have he : rget ((wipeR ρ vs).set i none) j = some e := he
    by_cases hj : j = i
    · subst hj
      unfold rget at he
      by_cases hi : j < (wipeR ρ vs).length
      · rw [List.getElem?_set_self hi] at he
        cases he
      · rw [List.getElem?_eq_none (by rw [List.length_set]; exact Nat.le_of_not_lt hi)] at he
        cases he
    · have he2 : rget (wipeR ρ vs) j = some e := by
        unfold rget at he ⊢
        rw [List.getElem?_set_ne (Ne.symm hj)] at he
        exact he
      obtain ⟨v, h1, h2⟩ := ih.at_ j e he2
      exact ⟨v, by show ((L2.wipe σ vs).set i none)[j]? = _; rw [List.getElem?_set_ne (Ne.symm hj)]; exact h1, h2⟩
/-! ### readings -/
/-- a reading by a run over trees -/
def tR (P : Par) (f : Rho → S → Res D) : TE := fun σ H Q => ∃ ρ g s, AbsS P.K g H s ∧ EnvOk P g s.size σ ρ ∧ Post P H g s (f ρ s) fun d s' g' H' => ∀ v, Rep P.K g' s'.size v d → Q v H'
def tRT (P : Par) (f : Rho → S → Res Bool) : TT := fun σ H Q => ∃ ρ g s, AbsS P.K g H s ∧ EnvOk P g s.size σ ρ ∧ Post P H g s (f ρ s) fun b s' g' H' => Q b H'
def tRA (P : Par) (f : Rho → S → Res (List D)) : TA := fun σ H Q => ∃ ρ g s, AbsS P.K g H s ∧ EnvOk P g s.size σ ρ ∧ Post P H g s (f ρ s) fun d s' g' H' => ∀ v, RepL P.K g' s'.size v d → Q v H'
/-- an operator's -/
def rD (P : Par) (f : D → D → S → Res D) : R2 := fun x y H Q => ∃ d e g s, AbsS P.K g H s ∧ Rep P.K g s.size x d ∧ Rep P.K g s.size y e ∧ Post P H g s (f d e s) fun d s' g' H' => ∀ v, Rep P.K g' s'.size v d → Q v H'
def rU1 (P : Par) (f : D → S → Res D) : V → Hp → VK → Prop := fun x H Q => ∃ d g s, AbsS P.K g H s ∧ Rep P.K g s.size x d ∧ Post P H g s (f d s) fun d s' g' H' => ∀ v, Rep P.K g' s'.size v d → Q v H'
def rC (P : Par) (f : Den) : List V → Hp → VK → Prop := fun xs H Q => ∃ ds g s, AbsS P.K g H s ∧ RepL P.K g s.size xs ds ∧ Post P H g s (f ds s) fun d s' g' H' => ∀ v, Rep P.K g' s'.size v d → Q v H'
section
variable {X : Cx} {e : Expr}
theorem PE.of {t t' : TE} (h : PE X e t) (i : ∀ σ H Q, t' σ H Q → t σ H Q) : PE X e t' := ⟨fun pins s σ H Q I q => h.run pins s σ H Q I (i σ H Q q)⟩
theorem PT.of {t t' : TT} (h : PT X e t) (i : ∀ σ H Q, t' σ H Q → t σ H Q) : PT X e t' := ⟨fun pins s σ H Q I q => h.run pins s σ H Q I (i σ H Q q)⟩
theorem PA.of {es : List Expr} {t t' : TA} (h : PA X es t) (i : ∀ σ H Q, t' σ H Q → t σ H Q) : PA X es t' := ⟨fun pos pins s σ H Q I q => h.run pos pins s σ H Q I (i σ H Q q)⟩
theorem PS.of {st : Stmt} {t t' : TS} (h : PS X st t) (i : ∀ D σ H, t' D σ H → t D σ H) : PS X st t' := ⟨fun pins s σ H D I q => h.run pins s σ H D I (i D σ H q)⟩
theorem PSs.of {st : List Stmt} {t t' : TS} (h : PSs X st t) (i : ∀ D σ H, t' D σ H → t D σ H) : PSs X st t' := ⟨fun pins s σ H D I q => h.run pins s σ H D I (i D σ H q)⟩
end
end DL
set_option Elab.async false
set_option linter.all false
set_option maxRecDepth 100000
set_option maxHeartbeats 2000000
/-! The data layer, part 4: new things, changed lists, comparisons' data. -/
namespace DL
open PySem PySem.Spec PyProof.Rows L2
theorem S.get_push (s : S) (o : MO) (i : Nat) : (s.push o).get i = if i = s.size then some o else s.get i := by
  unfold S.get S.push
  by_cases h : i = s.cells.length
  · subst h
    rw [if_pos rfl]
    simp
  · rw [if_neg h]
    by_cases h2 : i < s.cells.length
    · simp only [List.getElem?_append_left h2]
    · have h3 : s.cells.length < i := Nat.lt_of_le_of_ne (Nat.le_of_not_lt h2) (Ne.symm h)
      rw [List.getElem?_eq_none (by simp; omega), List.getElem?_eq_none (by omega)]
theorem S.get_put (s : S) (k i : Nat) (o : MO) (hk : k < s.size) : (s.put k o).get i = if i = k then some o else s.get i := by
  unfold S.get S.put
  by_cases h : i = k
  · subst h
    rw [if_pos rfl]
    simp only [List.getElem?_set_self hk]
  · rw [if_neg h]
    simp only [List.getElem?_set_ne (Ne.symm h)]
theorem S.get_kill (s : S) (k i : Nat) : (s.kill k).get i = if i = k then none else s.get i := by
  unfold S.get S.kill
  by_cases h : i = k
  · subst h
    rw [if_pos rfl]
    by_cases hi : i < s.cells.length
    · simp only [List.getElem?_set_self hi]
    · rw [List.getElem?_eq_none (by simp; omega)]
  · rw [if_neg h]
    simp only [List.getElem?_set_ne (Ne.symm h)]
theorem S.size_put (s : S) (k : Nat) (o : MO) : (s.put k o).size = s.size := by unfold S.put; simp [S.size]
theorem S.size_kill (s : S) (k : Nat) : (s.kill k).size = s.size := by unfold S.kill; simp [S.size]
theorem S.size_push (s : S) (o : MO) : (s.push o).size = s.size + 1 := by unfold S.push; simp [S.size]
theorem RepMO.mono {K : PySem.W.Frag} {g g' : Gh} {n n' : Nat} {o : HO} {mo : MO} (hn : n ≤ n') (al : ∀ i, i < n → g'.α i = g.α i) (z : ∀ b o, g.Z b = some o → g'.Z b = some o) (r : RepMO K g n o mo) : RepMO K g' n' o mo := by
  cases mo with
  | lst ds =>
    obtain ⟨xs, e, r⟩ := r
    exact ⟨xs, e, r.mono hn al z⟩
  | dct kvs => exact r
section
variable {K : PySem.W.Frag} {g : Gh} {H : Hp} {s : S} {p : Addr} {o : HO}
/-- a new thing that stays as it is -/
abbrev Gh.lay (g : Gh) (p : Addr) (o : HO) : Gh := ⟨upd g.Z p o, g.α, g.T⟩
theorem AbsS.zn (ab : AbsS K g H s) (hp : H p = none) : g.Z p = none := by
  cases q : g.Z p with
  | none => rfl
  | some u =>
    rw [ab.zH p u q] at hp
    cases hp
theorem tabs_new {T : List (Addr × Str)} (h : LamX.Tabs T H) (hp : H p = none) : LamX.Tabs T (upd H p o) := h.ext fun b u e => by
  rw [upd_ne (ne_of_none e hp)]
  exact e
theorem tabs_keep {T : List (Addr × Str)} {H H' : Hp} (h : LamX.Tabs T H) (k : ∀ b u, H b = some u → (∀ xs, u ≠ .lst xs) → H' b = some u) : LamX.Tabs T H' := fun x hx => by
  obtain ⟨ps, h1, h2, h3⟩ := h x hx
  refine ⟨ps, k _ _ h1 (fun _ z => by cases z), h2, fun pos cv hc => ?_⟩
  obtain ⟨c, e1, e2⟩ := h3 pos cv hc
  exact ⟨c, e1, k _ _ e2 (fun _ z => by unfold LamX.CodeO at z; cases z)⟩
theorem tabs_put {T : List (Addr × Str)} {xs : List V} (h : LamX.Tabs T H) (hp : H p = some (.lst xs)) : LamX.Tabs T (upd H p o) := tabs_keep h fun b u e n => by
  rw [upd_ne (fun z => by rw [z, hp] at e; cases e; exact n _ rfl)]
  exact e
theorem ext_lay (ab : AbsS K g H s) (hp : H p = none) (o : HO) : Ext g s H (g.lay p o) s (upd H p o) where
  le := Nat.le_refl _
  al := fun _ _ => rfl
  zz := fun b u h => by
    show upd g.Z p o b = some u
    rw [upd_ne (ne_of_none (ab.zH b u h) hp)]
    exact h
  keep := fun b u h _ _ => ⟨by rw [upd_ne (ne_of_none h hp)]; exact h, fun z => by
    show upd g.Z p o b = none
    rw [upd_ne (ne_of_none h hp)]
    exact z⟩
  dead := fun _ _ h => h
  new := fun i hi h => absurd (get_lt h) (Nat.not_lt.mpr hi)
  there := fun b u h n => ⟨u, by rw [upd_ne (ne_of_none h hp)]; exact h, n⟩
  tt := rfl
theorem abs_lay (ab : AbsS K g H s) (hp : H p = none) (o : HO) (nt : NT o := by intro _ z; cases z) : AbsS K (g.lay p o) (upd H p o) s where
  zH := fun b u h => by
    have h : upd g.Z p o b = some u := h
    by_cases e : b = p
    · rw [e, upd_same] at h
      rw [e, upd_same]
      exact h
    · rw [upd_ne e] at h
      rw [upd_ne e]
      exact ab.zH b u h
  cell := fun i mo h => by
    obtain ⟨u, h1, h2, h3⟩ := ab.cell i mo h
    have ne := ne_of_none h1 hp
    refine ⟨u, by rw [upd_ne ne]; exact h1, ?_, h3.mono (ext_lay ab hp o).le (ext_lay ab hp o).al (ext_lay ab hp o).zz⟩
    show upd g.Z p o (g.α i) = none
    rw [upd_ne ne]
    exact h2
  inj := ab.inj
  tabs := tabs_new ab.tabs hp
  zt := fun b u h => by
    have h : upd g.Z p o b = some u := h
    by_cases e : b = p
    · rw [e, upd_same] at h
      cases h
      exact nt
    · rw [upd_ne e] at h
      exact ab.zt b u h
theorem rep_tup {xs : List V} {ds : List D} (ab : AbsS K g H s) (hp : H p = none) (r : RepL K g s.size xs ds) : Rep K (g.lay p (.tup xs)) s.size (.ref p) (.tup ds) :=
  .tup (.inl (.inl upd_same)) ((ext_lay ab hp (.tup xs)).repL r)
theorem rep_lst {xs : List V} {ds : List D} (ab : AbsS K g H s) (hp : H p = none) (r : RepL K g s.size xs ds) : Rep K (g.lay p (.lst xs)) s.size (.ref p) (.lst ds) :=
  .lst upd_same ((ext_lay ab hp (.lst xs)).repL r)
/-- a new list of the store -/
abbrev Gh.grow (g : Gh) (n : Nat) (p : Addr) : Gh := ⟨g.Z, fun i => if i = n then p else g.α i, g.T⟩
theorem ext_grow (ab : AbsS K g H s) (hp : H p = none) (o : HO) (mo : MO) : Ext g s H (g.grow s.size p) (s.push mo) (upd H p o) where
  le := by rw [S.size_push]; omega
  al := fun i hi => by
    show (if i = s.size then p else g.α i) = g.α i
    rw [if_neg (Nat.ne_of_lt hi)]
  zz := fun _ _ h => h
  keep := fun b u h _ _ => ⟨by rw [upd_ne (ne_of_none h hp)]; exact h, fun z => z⟩
  dead := fun i hi h => by
    rw [S.get_push, if_neg (Nat.ne_of_lt hi)]
    exact h
  new := fun i hi h => by
    rw [S.get_push] at h
    by_cases e : i = s.size
    · intro u hu _
      have hu : H (if i = s.size then p else g.α i) = some u := hu
      rw [if_pos e, hp] at hu
      cases hu
    · rw [if_neg e] at h
      exact absurd (get_lt h) (Nat.not_lt.mpr hi)
  there := fun b u h n => ⟨u, by rw [upd_ne (ne_of_none h hp)]; exact h, n⟩
  tt := rfl
theorem abs_grow {xs : List V} {ds : List D} (ab : AbsS K g H s) (hp : H p = none) (r : RepL K g s.size xs ds) : AbsS K (g.grow s.size p) (upd H p (.lst xs)) (s.push (.lst ds)) where
  zH := fun b u h => by
    rw [upd_ne (ne_of_none (ab.zH b u h) hp)]
    exact ab.zH b u h
  cell := fun i mo h => by
    have e := ext_grow ab hp (.lst xs) (.lst ds)
    rw [S.get_push] at h
    by_cases hi : i = s.size
    · rw [if_pos hi] at h
      cases h
      refine ⟨.lst xs, ?_, ?_, xs, rfl, e.repL r⟩
      · show upd H p (.lst xs) (if i = s.size then p else g.α i) = _
        rw [if_pos hi, upd_same]
      · show g.Z (if i = s.size then p else g.α i) = none
        rw [if_pos hi]
        exact ab.zn hp
    · rw [if_neg hi] at h
      obtain ⟨u, h1, h2, h3⟩ := ab.cell i mo h
      refine ⟨u, ?_, ?_, h3.mono e.le e.al e.zz⟩
      · show upd H p (.lst xs) (if i = s.size then p else g.α i) = _
        rw [if_neg hi, upd_ne (ne_of_none h1 hp)]
        exact h1
      · show g.Z (if i = s.size then p else g.α i) = none
        rw [if_neg hi]
        exact h2
  inj := fun i j hi hj e => by
    have e : (if i = s.size then p else g.α i) = (if j = s.size then p else g.α j) := e
    rw [S.get_push] at hi hj
    by_cases h1 : i = s.size
    · by_cases h2 : j = s.size
      · rw [h1, h2]
      · rw [if_pos h1, if_neg h2] at e
        rw [if_neg h2] at hj
        obtain ⟨mo, hm⟩ := Option.isSome_iff_exists.mp hj
        obtain ⟨u, q, _⟩ := ab.cell j mo hm
        rw [← e, hp] at q
        cases q
    · by_cases h2 : j = s.size
      · rw [if_neg h1, if_pos h2] at e
        rw [if_neg h1] at hi
        obtain ⟨mo, hm⟩ := Option.isSome_iff_exists.mp hi
        obtain ⟨u, q, _⟩ := ab.cell i mo hm
        rw [e, hp] at q
        cases q
      · rw [if_neg h1, if_neg h2] at e
        rw [if_neg h1] at hi
        rw [if_neg h2] at hj
        exact ab.inj i j hi hj e
  tabs := tabs_new ab.tabs hp
  zt := ab.zt
/-- a list of the store is written -/
theorem ext_put {k : Nat} {mo mo' : MO} (ab : AbsS K g H s) (hk : s.get k = some mo) (o : HO) (nt : NT o := by intro _ z; cases z) : Ext g s H g (s.put k mo') (upd H (g.α k) o) where
  le := by rw [S.size_put]; exact Nat.le_refl _
  al := fun _ _ => rfl
  zz := fun _ _ h => h
  keep := fun b u h _ hn => ⟨by rw [upd_ne (fun e => hn k (by rw [hk]; rfl) e.symm)]; exact h, fun z => z⟩
  dead := fun i hi h => by
    rw [S.get_put _ _ _ _ (get_lt' hk)]
    by_cases e : i = k
    · rw [e, hk] at h
      cases h
    · rw [if_neg e]
      exact h
  new := fun i hi h => by
    have q := get_lt h
    rw [S.size_put] at q
    exact absurd q (Nat.not_lt.mpr hi)
  there := fun b u h n => by
    by_cases e : b = g.α k
    · exact ⟨o, by rw [e, upd_same], nt⟩
    · exact ⟨u, by rw [upd_ne e]; exact h, n⟩
  tt := rfl
theorem abs_put {k : Nat} {mo : MO} {xs : List V} {ds : List D} (ab : AbsS K g H s) (hk : s.get k = some mo) (r : RepL K g s.size xs ds) : AbsS K g (upd H (g.α k) (.lst xs)) (s.put k (.lst ds)) where
  zH := fun b u h => by
    have ne : b ≠ g.α k := fun e => by
      obtain ⟨_, _, q, _⟩ := ab.cell k mo hk
      rw [← e, h] at q
      cases q
    rw [upd_ne ne]
    exact ab.zH b u h
  cell := fun i mo' h => by
    rw [S.get_put _ _ _ _ (get_lt' hk)] at h
    rw [S.size_put]
    by_cases e : i = k
    · rw [if_pos e] at h
      cases h
      obtain ⟨_, _, q, _⟩ := ab.cell k mo hk
      exact ⟨.lst xs, by rw [e, upd_same], by rw [e]; exact q, xs, rfl, r⟩
    · rw [if_neg e] at h
      obtain ⟨u, h1, h2, h3⟩ := ab.cell i mo' h
      refine ⟨u, ?_, h2, h3⟩
      rw [upd_ne (fun q => e (ab.inj i k (by rw [h]; rfl) (by rw [hk]; rfl) q))]
      exact h1
  inj := fun i j hi hj e => by
    rw [S.get_put _ _ _ _ (get_lt' hk)] at hi hj
    refine ab.inj i j ?_ ?_ e
    · by_cases q : i = k
      · rw [q, hk]; rfl
      · rw [if_neg q] at hi; exact hi
    · by_cases q : j = k
      · rw [q, hk]; rfl
      · rw [if_neg q] at hj; exact hj
  tabs := by
    obtain ⟨u, h1, _, h3⟩ := ab.cell k mo hk
    cases mo with
    | dct kvs => exact h3.elim
    | lst es =>
      obtain ⟨ys, rfl, _⟩ := h3
      exact tabs_put ab.tabs h1
  zt := ab.zt
/-- a list of the store is frozen -/
theorem ext_kill {k : Nat} {ds : List D} (ab : AbsS K g H s) (hk : s.get k = some (.lst ds)) : ∃ xs, H (g.α k) = some (.lst xs) ∧ RepL K g s.size xs ds ∧ Ext g s H (g.lay (g.α k) (.lst xs)) (s.kill k) H ∧ AbsS K (g.lay (g.α k) (.lst xs)) H (s.kill k) := by
  obtain ⟨o, h1, h2, xs, rfl, r⟩ := ab.cell k _ hk
  have e : Ext g s H (g.lay (g.α k) (.lst xs)) (s.kill k) H :=
    { le := by rw [S.size_kill]; exact Nat.le_refl _
      al := fun _ _ => rfl
      zz := fun b u h => by
        show upd g.Z (g.α k) (.lst xs) b = some u
        rw [upd_ne (fun q => by rw [q, h2] at h; cases h)]
        exact h
      keep := fun b u h _ hn => ⟨h, fun z => by
        show upd g.Z (g.α k) (.lst xs) b = none
        rw [upd_ne (fun q => hn k (by rw [hk]; rfl) q.symm)]
        exact z⟩
      dead := fun i hi h => by
        rw [S.get_kill]
        by_cases q : i = k
        · rw [if_pos q]
        · rw [if_neg q]; exact h
      new := fun i hi h => by
        have q := get_lt h
        rw [S.size_kill] at q
        exact absurd q (Nat.not_lt.mpr hi)
      there := fun _ u h n => ⟨u, h, n⟩
      tt := rfl }
  refine ⟨xs, h1, r, e, ?_, fun i mo h => ?_, fun i j hi hj q => ?_, ab.tabs, fun b u h => ?_⟩
  · intro b u h
    have h : upd g.Z (g.α k) (.lst xs) b = some u := h
    by_cases q : b = g.α k
    · rw [q, upd_same] at h
      rw [q, h1]
      exact h
    · rw [upd_ne q] at h
      exact ab.zH b u h
  · rw [S.get_kill] at h
    by_cases q : i = k
    · rw [if_pos q] at h
      cases h
    · rw [if_neg q] at h
      obtain ⟨u, a1, a2, a3⟩ := ab.cell i mo h
      refine ⟨u, a1, ?_, a3.mono e.le e.al e.zz⟩
      show upd g.Z (g.α k) (.lst xs) (g.α i) = none
      rw [upd_ne (fun z => q (ab.inj i k (by rw [h]; rfl) (by rw [hk]; rfl) z))]
      exact a2
  · rw [S.get_kill] at hi hj
    refine ab.inj i j ?_ ?_ q
    · by_cases z : i = k
      · rw [if_pos z] at hi; cases hi
      · rw [if_neg z] at hi; exact hi
    · by_cases z : j = k
      · rw [if_pos z] at hj; cases hj
      · rw [if_neg z] at hj; exact hj
  · have h : upd g.Z (g.α k) (.lst xs) b = some u := h
    by_cases q : b = g.α k
    · rw [q, upd_same] at h
      cases h
      intro _ z
      cases z
    · rw [upd_ne q] at h
      exact ab.zt b u h
end
/-! ### what a tree reads as -/
theorem sqT_H {K : PySem.W.Frag} {g : Gh} {H : Hp} {s : S} {a : Addr} {xs : List V} (ab : AbsS K g H s) (h : SqT K g.Z a xs) : SqT K H a xs := sqT_mono ab.zH h
theorem sqL_H {K : PySem.W.Frag} {g : Gh} {H : Hp} {s : S} {a : Addr} {xs : List V} (ab : AbsS K g H s) (h : SqL K g.Z a xs) : SqL K H a xs := sqL_mono ab.zH h
/-- a tuple or a list, as it stands -/
theorem seq_at {K : PySem.W.Frag} {g : Gh} {H : Hp} {s : S} {v : V} {d : D} {ds : List D} (ab : AbsS K g H s) (r : Rep K g s.size v d) (h : seqOf s d = some ds) :
    ∃ a xs, v = .ref a ∧ (SqL K H a xs ∨ SqT K H a xs) ∧ RepL K g s.size xs ds := by
  cases r with
  | tup q t =>
    cases h
    exact ⟨_, _, rfl, .inr (sqT_H ab q), t⟩
  | lst q t =>
    cases h
    exact ⟨_, _, rfl, .inl (.inl (.inl (ab.zH _ _ q))), t⟩
  | fix q t =>
    cases h
    exact ⟨_, _, rfl, .inl (sqL_H ab q), t⟩
  | mref hi =>
    rename_i i
    have h : (match s.get i with
      | some (.lst ds) => some ds
      | _ => none) = some ds := h
    cases q : s.get i with
    | none => rw [q] at h; cases h
    | some mo =>
      cases mo with
      | dct kvs => rw [q] at h; cases h
      | lst es =>
        rw [q] at h
        cases h
        obtain ⟨o, h1, h2, xs, rfl, t⟩ := ab.cell i _ q
        exact ⟨_, xs, rfl, .inl (.inl (.inl h1)), t⟩
  | non => cases h
  | bl b => cases h
  | int i => cases h
  | str x => cases h
theorem lst_at {K : PySem.W.Frag} {g : Gh} {H : Hp} {s : S} {v : V} {d : D} {ds : List D} (ab : AbsS K g H s) (r : Rep K g s.size v d) (h : lstOf s d = some ds) :
    ∃ a xs, v = .ref a ∧ H a = some (.lst xs) ∧ RepL K g s.size xs ds := by
  cases r with
  | tup q t => cases h
  | lst q t =>
    cases h
    exact ⟨_, _, rfl, ab.zH _ _ q, t⟩
  | fix q t => cases h
  | mref hi =>
    rename_i i
    have h : (match s.get i with
      | some (.lst ds) => some ds
      | _ => none) = some ds := h
    cases q : s.get i with
    | none => rw [q] at h; cases h
    | some mo =>
      cases mo with
      | dct kvs => rw [q] at h; cases h
      | lst es =>
        rw [q] at h
        cases h
        obtain ⟨o, h1, h2, xs, rfl, t⟩ := ab.cell i _ q
        exact ⟨_, xs, rfl, h1, t⟩
  | non => cases h
  | bl b => cases h
  | int i => cases h
  | str x => cases h
theorem mapO_cons {α β : Type} {f : α → Option β} {a : α} {r : List α} {bs : List β} (h : mapO f (a :: r) = some bs) : ∃ b t, bs = b :: t ∧ f a = some b ∧ mapO f r = some t := by
  unfold mapO at h
  cases e : f a with
  | none => rw [e] at h; cases h
  | some b =>
    rw [e] at h
    cases q : mapO f r with
    | none => rw [q] at h; cases h
    | some t =>
      rw [q] at h
      cases h
      exact ⟨b, t, rfl, rfl, rfl⟩
/-- behind rsv: a plain tree that the value reads as -/
theorem dp_of {K : PySem.W.Frag} {g : Gh} {H : Hp} {s : S} (ab : AbsS K g H s) : ∀ (n : Nat) {v : V} {d e : D}, Rep K g s.size v d → rsv s n d = some e → Dp K H v e.pd
  | 0, _, _, _, _, h => by cases h
  | n + 1, v, d, e, r, h => by
    have all : ∀ {vs : List V} {ds es : List D}, RepL K g s.size vs ds → mapO (rsv s n) ds = some es → DpAll K H vs (D.pds es) := by
      intro vs ds
      induction ds generalizing vs with
      | nil =>
        intro es t q
        cases t
        cases q
        exact .nil
      | cons a l ih =>
        intro es t q
        cases t with
        | cons h1 h2 =>
          obtain ⟨b, u, rfl, q1, q2⟩ := mapO_cons q
          exact .cons (dp_of ab n h1 q1) (ih h2 q2)
    cases r with
    | non => cases h; exact .non
    | bl b => cases h; exact .bl b
    | int i => cases h; exact .int i
    | str x =>
      have h : (if PyData.strOk x = true then some (D.str x) else none) = some e := h
      by_cases c : PyData.strOk x = true
      · rw [if_pos c] at h
        cases h
        exact .str x
      · rw [if_neg c] at h
        cases h
    | tup q t =>
      rename_i a xs ds
      have h : (match mapO (rsv s n) ds with
        | some es => some (D.tup es)
        | none => none) = some e := h
      cases z : mapO (rsv s n) ds with
      | none => rw [z] at h; cases h
      | some es =>
        rw [z] at h
        cases h
        exact .tup (sqT_H ab q) (all t z)
    | lst q t =>
      rename_i a xs ds
      have h : (match mapO (rsv s n) ds with
        | some es => some (D.lst es)
        | none => none) = some e := h
      cases z : mapO (rsv s n) ds with
      | none => rw [z] at h; cases h
      | some es =>
        rw [z] at h
        cases h
        exact .lst (.inl (.inl (ab.zH _ _ q))) (all t z)
    | fix q t => cases h
    | mref hi =>
      rename_i i
      have h : (match s.get i with
        | some (.lst ds) => (match mapO (rsv s n) ds with
          | some es => some (D.lst es)
          | none => none)
        | _ => none) = some e := h
      cases q : s.get i with
      | none => rw [q] at h; cases h
      | some mo =>
        cases mo with
        | dct kvs => rw [q] at h; cases h
        | lst ds =>
          rw [q] at h
          have h : (match mapO (rsv s n) ds with
            | some es => some (D.lst es)
            | none => none) = some e := h
          obtain ⟨o, h1, h2, xs, rfl, t⟩ := ab.cell i _ q
          cases z : mapO (rsv s n) ds with
          | none => rw [z] at h; cases h
          | some es =>
            rw [z] at h
            cases h
            exact .lst (.inl (.inl h1)) (all t z)
end DL
set_option Elab.async false
set_option linter.all false
set_option maxRecDepth 100000
set_option maxHeartbeats 2000000
/-! The data layer, part 5: operators and comparisons. -/
namespace DL
open PySem PySem.Spec PyProof.Rows L2
theorem line_eq : line = sizeLine := by rw [sizeLine_eq]; rfl
/-! ### plain trees -/
theorem max_le' {a b c : Nat} (h1 : a ≤ c) (h2 : b ≤ c) : max a b ≤ c := Nat.max_le.mpr ⟨h1, h2⟩
theorem rsv_shape (s : S) : ∀ (n : Nat) {d e : D}, rsv s n d = some e → e.pd.canLay0 = true ∧ e.pd.depth ≤ n
  | 0, _, _, h => by cases h
  | n + 1, d, e, h => by
    have all : ∀ {ds es : List D}, mapO (rsv s n) ds = some es → PyData.canLayAll0 (D.pds es) = true ∧ PyData.depthAll (D.pds es) ≤ n := by
      intro ds
      induction ds with
      | nil =>
        intro es q
        cases q
        exact ⟨rfl, Nat.zero_le _⟩
      | cons a l ih =>
        intro es q
        obtain ⟨b, u, rfl, q1, q2⟩ := mapO_cons q
        obtain ⟨a1, a2⟩ := rsv_shape s n q1
        obtain ⟨b1, b2⟩ := ih q2
        refine ⟨?_, max_le' a2 b2⟩
        show (b.pd.canLay0 && PyData.canLayAll0 (D.pds u)) = true
        rw [a1, b1]
        rfl
    have fin : ∀ (f : List D → D) (gp : List PyData → PyData), (∀ es, (f es).pd = gp (D.pds es)) → (∀ xs, (gp xs).canLay0 = PyData.canLayAll0 xs) → (∀ xs, (gp xs).depth = PyData.depthAll xs + 1) → ∀ {ds : List D}, (match mapO (rsv s n) ds with
        | some es => some (f es)
        | none => none) = some e → e.pd.canLay0 = true ∧ e.pd.depth ≤ n + 1 := by
      intro f gp h1 h2 h3 ds q
      cases z : mapO (rsv s n) ds with
      | none => rw [z] at q; cases q
      | some es =>
        rw [z] at q
        cases q
        obtain ⟨a1, a2⟩ := all z
        rw [h1, h2, h3]
        exact ⟨a1, Nat.succ_le_succ a2⟩
    cases d with
    | non => cases h; exact ⟨rfl, Nat.zero_le _⟩
    | bl b => cases h; exact ⟨rfl, Nat.zero_le _⟩
    | int i => cases h; exact ⟨rfl, Nat.zero_le _⟩
    | str x =>
      have h : (if PyData.strOk x = true then some (D.str x) else none) = some e := h
      by_cases c : PyData.strOk x = true
      · rw [if_pos c] at h
        cases h
        exact ⟨c, Nat.zero_le _⟩
      · rw [if_neg c] at h
        cases h
    | tup ds => exact fin .tup .tuple (fun _ => rfl) (fun _ => rfl) (fun _ => rfl) h
    | lst ds => exact fin .lst .list (fun _ => rfl) (fun _ => rfl) (fun _ => rfl) h
    | fix ds => cases h
    | clo i => cases h
    | mref i =>
      have h : (match s.get i with
        | some (.lst ds) => (match mapO (rsv s n) ds with
          | some es => some (D.lst es)
          | none => none)
        | _ => none) = some e := h
      cases q : s.get i with
      | none => rw [q] at h; cases h
      | some mo =>
        cases mo with
        | dct kvs => rw [q] at h; cases h
        | lst ds =>
          rw [q] at h
          exact fin .lst .list (fun _ => rfl) (fun _ => rfl) (fun _ => rfl) (ds := ds) h
theorem rsv_shaped {s : S} {d e : D} (h : rsv s deep d = some e) : SeqAt.shaped e.pd = true := by
  obtain ⟨h1, h2⟩ := rsv_shape s deep h
  unfold SeqAt.shaped
  rw [h1, decide_eq_true (Nat.le_trans h2 (by decide))]
  rfl
theorem pds_map : ∀ es : List D, D.pds es = es.map D.pd
  | [] => rfl
  | e :: r => by show e.pd :: D.pds r = e.pd :: r.map D.pd; rw [pds_map r]
theorem any_pds (es : List D) (a : D) : ((D.pds es).any fun z => PyData.eqv z a.pd) = es.any fun b => eqd b a := by
  rw [pds_map, List.any_map]
  rfl
section
variable {X : Cx} {P : Par}
/-- an operator's rule from what its cases say -/
theorem opR_of (hK : P.K = X.K) {f : Value → Value → Sem Value} {r : D → D → S → Res D}
    (h : ∀ (pins : List (Addr × Obj)) (s : Shared) (σ : L2.St) (H : Hp) (x y : V) (v u : Value) (Q : VK), Inv X pins σ H s → RelV x v → RelV y u →
      ∀ (d e : D) (g : Gh) (st : S), AbsS X.K g H st → Rep X.K g st.size x d → Rep X.K g st.size y e → (Post P H g st (r d e st) fun d s' g' H' => ∀ v, Rep P.K g' s'.size v d → Q v H') → wpAny (model X.prog X.w) X.A (f v u) (EP X pins σ Q) X.xe s) :
    OpR X f (rD P r) := by
  intro pins s σ H x y v u Q I rx ry q
  obtain ⟨d, e, g, st, ab, r1, r2, po⟩ := q
  rw [hK] at ab r1 r2
  exact h pins s σ H x y v u Q I rx ry d e g st ab r1 r2 po
theorem Post.no {α : Type} {H : Hp} {g : Gh} {s : S} {k : α → S → Gh → Hp → Prop} (h : Post P H g s .stuck k) : False := h
theorem op_addD (hK : P.K = X.K) : OpR X (binaryOp .Add) (rD P addD) := by
  obtain ⟨K, cl, E, iv, TT⟩ := P
  have hK : K = X.K := hK
  subst hK
  refine opR_of rfl fun pins s σ H x y v u Q I rx ry d e g st ab r1 r2 po => ?_
  have lists : ∀ {d e : D}, Rep X.K g st.size x d → Rep X.K g st.size y e → (Post ⟨X.K, cl, E, iv, TT⟩ H g st (match lstOf st d, lstOf st e with
      | some xs, some ys => if xs.length + ys.length ≤ line then .ok (.lst (xs ++ ys)) st else .stuck
      | _, _ => .stuck) fun d s' g' H' => ∀ v, Rep X.K g' s'.size v d → Q v H') → wpAny (model X.prog X.w) X.A (binaryOp .Add v u) (EP X pins σ Q) X.xe s := by
    intro d e r1 r2 po
    cases h1 : lstOf st d with
    | none => rw [h1] at po; exact po.elim
    | some xs =>
      cases h2 : lstOf st e with
      | none => rw [h1, h2] at po; exact po.elim
      | some ys =>
        rw [h1, h2] at po
        obtain ⟨a, vs, rfl, ha, ra⟩ := lst_at ab r1 h1
        obtain ⟨b, ws, rfl, hb, rb⟩ := lst_at ab r2 h2
        have po : Post ⟨X.K, cl, E, iv, TT⟩ H g st (if xs.length + ys.length ≤ line then .ok (.lst (xs ++ ys)) st else .stuck) fun d s' g' H' => ∀ v, Rep X.K g' s'.size v d → Q v H' := po
        by_cases hl : xs.length + ys.length ≤ line
        · rw [if_pos hl] at po
          refine op_cat pins s σ H _ _ v u Q I rx ry ⟨a, b, vs, ws, rfl, rfl, ha, hb, ?_, fun p hp => ?_⟩
          · rw [ra.length, rb.length, ← line_eq]
            exact hl
          · exact po _ _ (ext_lay ab hp _) (abs_lay ab hp _) _ (rep_lst ab hp (ra.append rb))
        · rw [if_neg hl] at po
          exact po.elim
  cases d with
  | int i =>
    cases e with
    | int j =>
      cases r1
      cases r2
      exact op_add pins s σ H _ _ v u Q I rx ry ⟨i, j, rfl, rfl, po.here ab _ (.int _)⟩
    | _ => exact lists r1 r2 po
  | tup xs =>
    cases e with
    | tup ys =>
      cases r1 with
      | tup q1 t1 =>
        cases r2 with
        | tup q2 t2 =>
          rename_i a vs b ws
          have po : Post ⟨X.K, cl, E, iv, TT⟩ H g st (if xs.length + ys.length ≤ line then .ok (.tup (xs ++ ys)) st else .stuck) fun d s' g' H' => ∀ v, Rep X.K g' s'.size v d → Q v H' := po
          by_cases hl : xs.length + ys.length ≤ line
          · rw [if_pos hl] at po
            refine op_catA pins s σ H _ _ v u Q I rx ry ⟨a, b, vs, ws, rfl, rfl, sqT_H ab q1, sqT_H ab q2, ?_, fun z => ?_, fun _ z => ?_, fun _ _ p hp => ?_⟩
            · rw [t1.length, t2.length, ← line_eq]
              exact hl
            · subst z
              cases t1
              exact po.here ab _ (.tup q2 t2)
            · subst z
              cases t2
              rw [List.append_nil] at po
              exact po.here ab _ (.tup q1 t1)
            · exact po _ _ (ext_lay ab hp _) (abs_lay ab hp _) _ (rep_tup ab hp (t1.append t2))
          · rw [if_neg hl] at po
            exact po.elim
    | _ => exact lists r1 r2 po
  | str a =>
    cases e with
    | str b =>
      cases r1
      cases r2
      have po : Post ⟨X.K, cl, E, iv, TT⟩ H g st (if a.length + b.length ≤ line then .ok (.str (a ++ b)) st else .stuck) fun d s' g' H' => ∀ v, Rep X.K g' s'.size v d → Q v H' := po
      by_cases hl : a.length + b.length ≤ line
      · rw [if_pos hl] at po
        exact op_add_str pins s σ H _ _ v u Q I rx ry ⟨a, b, rfl, rfl, by rw [← line_eq]; exact hl, po.here ab _ (.str _)⟩
      · rw [if_neg hl] at po
        exact po.elim
    | _ => exact lists r1 r2 po
  | _ => exact lists r1 r2 po
theorem op_subD (hK : P.K = X.K) : OpR X (binaryOp .Sub) (rD P subD) := by
  refine opR_of hK fun pins s σ H x y v u Q I rx ry d e g st ab r1 r2 po => ?_
  cases d <;> cases e <;> first | exact po.elim | skip
  rename_i i j
  cases r1
  cases r2
  exact op_sub pins s σ H _ _ v u Q I rx ry ⟨i, j, rfl, rfl, po.here (by rw [hK]; exact ab) _ (.int _)⟩
theorem repl_eq (xs : List V) : ∀ n : Nat, (List.replicate n xs).flatten = (List.replicate n xs).flatten := fun _ => rfl
theorem rep_repl {K : PySem.W.Frag} {g : Gh} {n : Nat} {vs : List V} {ds : List D} (r : RepL K g n vs ds) : ∀ k : Nat, RepL K g n (List.replicate k vs).flatten (repl ds k)
  | 0 => .nil
  | k + 1 => by
    rw [List.replicate_succ, List.flatten_cons]
    exact r.append (rep_repl r k)
theorem op_mulD (hK : P.K = X.K) : OpR X (binaryOp .Mult) (rD P mulD) := by
  obtain ⟨K, cl, E, iv, TT⟩ := P
  have hK : K = X.K := hK
  subst hK
  refine opR_of rfl fun pins s σ H x y v u Q I rx ry d e g st ab r1 r2 po => ?_
  have lists : ∀ {d : D} {j : Int}, y = .int j → Rep X.K g st.size x d → (Post ⟨X.K, cl, E, iv, TT⟩ H g st (match lstOf st d with
      | some xs => if 0 ≤ j ∧ xs.length * j.toNat ≤ line ∧ j < 1000000 then .ok (.lst (repl xs j.toNat)) st else .stuck
      | none => .stuck) fun d s' g' H' => ∀ v, Rep X.K g' s'.size v d → Q v H') → wpAny (model X.prog X.w) X.A (binaryOp .Mult v u) (EP X pins σ Q) X.xe s := by
    intro d j hy r1 po
    cases h1 : lstOf st d with
    | none => rw [h1] at po; exact po.elim
    | some xs =>
      rw [h1] at po
      obtain ⟨a, vs, rfl, ha, ra⟩ := lst_at ab r1 h1
      have po : Post ⟨X.K, cl, E, iv, TT⟩ H g st (if 0 ≤ j ∧ xs.length * j.toNat ≤ line ∧ j < 1000000 then .ok (.lst (repl xs j.toNat)) st else .stuck) fun d s' g' H' => ∀ v, Rep X.K g' s'.size v d → Q v H' := po
      by_cases hl : 0 ≤ j ∧ xs.length * j.toNat ≤ line ∧ j < 1000000
      · rw [if_pos hl] at po
        refine op_rep pins s σ H _ _ v u Q I rx ry ⟨a, j, vs, rfl, hy, ha, by omega, by omega, ?_, fun p hp => ?_⟩
        · rw [ra.length, ← line_eq]
          exact hl.2.1
        · exact po _ _ (ext_lay ab hp _) (abs_lay ab hp _) _ (rep_lst ab hp (rep_repl ra _))
      · rw [if_neg hl] at po
        exact po.elim
  cases e with
  | int j =>
    cases r2
    cases d with
    | int i =>
      cases r1
      have po : Post ⟨X.K, cl, E, iv, TT⟩ H g st (if mulOk i j = true then .ok (.int (i * j)) st else .stuck) fun d s' g' H' => ∀ v, Rep X.K g' s'.size v d → Q v H' := po
      by_cases hm : mulOk i j = true
      · rw [if_pos hm] at po
        have fin := po.here ab _ (.int _)
        unfold mulOk at hm
        simp only [Bool.or_eq_true, Bool.and_eq_true, decide_eq_true_eq] at hm
        rcases hm with (h | h) | h
        · exact op_mul pins s σ H _ _ v u Q I rx ry ⟨i, j, rfl, rfl, .inl h, fin⟩
        · exact op_mul pins s σ H _ _ v u Q I rx ry ⟨i, j, rfl, rfl, .inr h, fin⟩
        · exact op_mulW pins s σ H _ _ v u Q I rx ry ⟨i, j, rfl, rfl, wide_mul h.1 h.2 (by omega) (by omega) (by omega), fin⟩
      · rw [if_neg hm] at po
        exact po.elim
    | tup xs =>
      cases r1 with
      | tup q1 t1 =>
        have po : Post ⟨X.K, cl, E, iv, TT⟩ H g st (if xs.isEmpty = false ∧ 2 ≤ j ∧ j ≤ 1000 ∧ xs.length ≤ 1000 then .ok (.tup (repl xs j.toNat)) st else .stuck) fun d s' g' H' => ∀ v, Rep X.K g' s'.size v d → Q v H' := po
        by_cases hl : xs.isEmpty = false ∧ 2 ≤ j ∧ j ≤ 1000 ∧ xs.length ≤ 1000
        · rw [if_pos hl] at po
          refine op_repT pins s σ H _ _ v u Q I rx ry ⟨_, j, _, rfl, rfl, sqT_H ab q1, fun z => ?_, hl.2.1, hl.2.2.1, by rw [t1.length]; exact hl.2.2.2, fun p hp => ?_⟩
          · subst z
            cases t1
            exact absurd hl.1 (by decide)
          · exact po _ _ (ext_lay ab hp _) (abs_lay ab hp _) _ (rep_tup ab hp (rep_repl t1 _))
        · rw [if_neg hl] at po
          exact po.elim
    | _ => exact lists rfl r1 po
  | _ => cases d <;> exact po.elim
theorem op_fdivD (hK : P.K = X.K) : OpR X (binaryOp .FloorDiv) (rD P fdivD) := by
  refine opR_of hK fun pins s σ H x y v u Q I rx ry d e g st ab r1 r2 po => ?_
  cases d <;> cases e <;> first | exact po.elim | skip
  rename_i i j
  cases r1
  cases r2
  have po : Post P H g st (if divOk j = true then .ok (.int (i.fdiv j)) st else .stuck) fun d s' g' H' => ∀ v, Rep P.K g' s'.size v d → Q v H' := po
  by_cases hm : divOk j = true
  · rw [if_pos hm] at po
    unfold divOk at hm
    simp only [Bool.and_eq_true, decide_eq_true_eq] at hm
    exact op_fdivN pins s σ H _ _ v u Q I rx ry ⟨i, j, rfl, rfl, hm, po.here (by rw [hK]; exact ab) _ (.int _)⟩
  · rw [if_neg hm] at po
    exact po.elim
theorem op_modD (hK : P.K = X.K) : OpR X (binaryOp .Mod) (rD P modD) := by
  refine opR_of hK fun pins s σ H x y v u Q I rx ry d e g st ab r1 r2 po => ?_
  cases d <;> cases e <;> first | exact po.elim | skip
  rename_i i j
  cases r1
  cases r2
  have po : Post P H g st (if j ≠ 0 then .ok (.int (i.fmod j)) st else .stuck) fun d s' g' H' => ∀ v, Rep P.K g' s'.size v d → Q v H' := po
  by_cases hm : j ≠ 0
  · rw [if_pos hm] at po
    exact op_modN pins s σ H _ _ v u Q I rx ry ⟨i, j, rfl, rfl, hm, po.here (by rw [hK]; exact ab) _ (.int _)⟩
  · rw [if_neg hm] at po
    exact po.elim
theorem op_powD (hK : P.K = X.K) : OpR X (binaryOp .Pow) (rD P powD) := by
  refine opR_of hK fun pins s σ H x y v u Q I rx ry d e g st ab r1 r2 po => ?_
  cases d <;> cases e <;> first | exact po.elim | skip
  rename_i i j
  cases r1
  cases r2
  have po : Post P H g st (if 0 ≤ j ∧ j ≤ 1000000 ∧ i.natAbs < 2 ^ 64 then .ok (.int (i ^ j.toNat)) st else .stuck) fun d s' g' H' => ∀ v, Rep P.K g' s'.size v d → Q v H' := po
  by_cases hm : 0 ≤ j ∧ j ≤ 1000000 ∧ i.natAbs < 2 ^ 64
  · rw [if_pos hm] at po
    exact op_pow pins s σ H _ _ v u Q I rx ry ⟨i, j, rfl, rfl, hm, po.here (by rw [hK]; exact ab) _ (.int _)⟩
  · rw [if_neg hm] at po
    exact po.elim
theorem opR_none {f : Value → Value → Sem Value} {r : D → D → S → Res D} (h : ∀ d e s, r d e s = .stuck) : OpR X f (rD P r) := by
  intro pins s σ H x y v u Q I rx ry q
  obtain ⟨d, e, g, st, ab, r1, r2, po⟩ := q
  rw [h] at po
  exact po.elim
theorem op_binop (hK : P.K = X.K) (op : Operator) : OpR X (binaryOp op) (rD P (binop op)) := by
  cases op <;> first | exact op_addD hK | exact op_subD hK | exact op_mulD hK | exact op_fdivD hK | exact op_modD hK | exact op_powD hK | exact opR_none fun _ _ _ => rfl
/-! ### comparisons -/
theorem rsv_K {K : PySem.W.Frag} {g : Gh} {H : Hp} {s : S} {v : V} {d e : D} (ab : AbsS K g H s) (r : Rep K g s.size v d) (h : rsv s deep d = some e) : Dp K H v e.pd := dp_of ab deep r h
theorem op_eqq (hK : P.K = X.K) (hu : X.A.units + 65 < cLine) : OpR X (compareOp .Eq) (rD P eqD) := by
  obtain ⟨K, cl, E, iv, TT⟩ := P
  have hK : K = X.K := hK
  subst hK
  refine opR_of rfl fun pins s σ H x y v u Q I rx ry d e g st ab r1 r2 po => ?_
  have rest : (Post ⟨X.K, cl, E, iv, TT⟩ H g st (match rsv st deep d, rsv st deep e with
      | some a, some b => .ok (.bl (eqd a b)) st
      | _, _ => .stuck) fun d s' g' H' => ∀ v, Rep X.K g' s'.size v d → Q v H') → wpAny (model X.prog X.w) X.A (compareOp .Eq v u) (EP X pins σ Q) X.xe s := by
    intro po
    cases h1 : rsv st deep d with
    | none => rw [h1] at po; exact po.elim
    | some a =>
      cases h2 : rsv st deep e with
      | none => rw [h1, h2] at po; exact po.elim
      | some b =>
        rw [h1, h2] at po
        have po : Post ⟨X.K, cl, E, iv, TT⟩ H g st (.ok (.bl (eqd a b)) st) fun d s' g' H' => ∀ v, Rep X.K g' s'.size v d → Q v H' := po
        exact op_eqD (by omega) pins s σ H x y v u Q I rx ry ⟨a.pd, b.pd, rsv_K ab r1 h1, rsv_K ab r2 h2, rsv_shaped h1, rsv_shaped h2, po.here ab _ (.bl _)⟩
  cases d with
  | str a =>
    cases e with
    | str b =>
      cases r1
      cases r2
      have z := po.here ab _ (.bl _)
      refine op_eq pins s σ H _ _ v u Q I rx ry ⟨rfl, ?_⟩
      have q : decide (V.str a = V.str b) = decide (a = b) := by
        by_cases c : a = b
        · rw [c]; simp
        · rw [decide_eq_false c, decide_eq_false (fun z => c (V.str.inj z))]
      rw [q]
      exact z
    | _ => exact rest po
  | _ => exact rest po
theorem op_neq (hK : P.K = X.K) (hu : X.A.units + 65 < cLine) : OpR X (compareOp .NotEq) (rD P fun d e s => notD (eqD d e s)) := by
  obtain ⟨K, cl, E, iv, TT⟩ := P
  have hK : K = X.K := hK
  subst hK
  refine opR_of rfl fun pins s σ H x y v u Q I rx ry d e g st ab r1 r2 po => ?_
  have rest : (Post ⟨X.K, cl, E, iv, TT⟩ H g st (notD (match rsv st deep d, rsv st deep e with
      | some a, some b => .ok (.bl (eqd a b)) st
      | _, _ => .stuck)) fun d s' g' H' => ∀ v, Rep X.K g' s'.size v d → Q v H') → wpAny (model X.prog X.w) X.A (compareOp .NotEq v u) (EP X pins σ Q) X.xe s := by
    intro po
    cases h1 : rsv st deep d with
    | none => rw [h1] at po; exact po.elim
    | some a =>
      cases h2 : rsv st deep e with
      | none => rw [h1, h2] at po; exact po.elim
      | some b =>
        rw [h1, h2] at po
        have po : Post ⟨X.K, cl, E, iv, TT⟩ H g st (.ok (.bl (!eqd a b)) st) fun d s' g' H' => ∀ v, Rep X.K g' s'.size v d → Q v H' := po
        exact op_neD (by omega) pins s σ H x y v u Q I rx ry ⟨a.pd, b.pd, rsv_K ab r1 h1, rsv_K ab r2 h2, rsv_shaped h1, rsv_shaped h2, po.here ab _ (.bl _)⟩
  cases d with
  | str a =>
    cases e with
    | str b =>
      cases r1
      cases r2
      have po : Post ⟨X.K, cl, E, iv, TT⟩ H g st (.ok (.bl (!decide (a = b))) st) fun d s' g' H' => ∀ v, Rep X.K g' s'.size v d → Q v H' := po
      have z := po.here ab _ (.bl _)
      refine op_ne pins s σ H _ _ v u Q I rx ry ⟨rfl, ?_⟩
      have q : decide (V.str a = V.str b) = decide (a = b) := by
        by_cases c : a = b
        · rw [c]; simp
        · rw [decide_eq_false c, decide_eq_false (fun z => c (V.str.inj z))]
      rw [q]
      exact z
    | _ => exact rest po
  | _ => exact rest po
theorem op_cmpI {op : CmpOp} {p : Int → Int → Bool} (hK : P.K = X.K) (ho : OpR X (compareOp op) (rI0 fun i j => .bl (p i j))) : OpR X (compareOp op) (rD P (cmpI p)) := by
  refine opR_of hK fun pins s σ H x y v u Q I rx ry d e g st ab r1 r2 po => ?_
  cases d <;> cases e <;> first | exact po.elim | skip
  rename_i i j
  cases r1
  cases r2
  exact ho pins s σ H _ _ v u Q I rx ry ⟨i, j, rfl, rfl, po.here (by rw [hK]; exact ab) _ (.bl _)⟩
theorem reads_of {pins : List (Addr × Obj)} {s : Shared} {σ : L2.St} {H : Hp} {g : Gh} {st : S} {x : V} {v : Value} {d a : D} (I : Inv X pins σ H s) (ab : AbsS X.K g H st) (r : Rep X.K g st.size x d) (h : rsv st deep d = some a) (rx : RelV x v) :
    ∃ as, Reads s.heap v a.pd as := Dp.reads I a.pd x v (dp_of ab deep r h) rx
theorem depth_in {A : Around} {da db : PyData} (h : SeqAt.shaped da = true) (hu : A.units + 65 < cLine) (k : Nat) : A.units + 1 + min k da.depth < cLine := by
  have h1 := SeqAt.depth_of_shaped h
  have h2 : min k da.depth ≤ da.depth := Nat.min_le_right _ _
  omega
theorem op_inn (hK : P.K = X.K) (hu : X.A.units + 65 < cLine) : OpR X (compareOp .In) (rD P inD) := by
  obtain ⟨K, cl, E, iv, TT⟩ := P
  have hK : K = X.K := hK
  subst hK
  refine opR_of rfl fun pins s σ H x y v u Q I rx ry d e g st ab r1 r2 po => ?_
  unfold inD at po
  cases h1 : rsv st deep d with
  | none => rw [h1] at po; exact po.elim
  | some a =>
    cases h2 : rsv st deep e with
    | none => rw [h1, h2] at po; exact po.elim
    | some b =>
      rw [h1, h2] at po
      obtain ⟨as, q1⟩ := reads_of I ab r1 h1 rx
      obtain ⟨bs, q2⟩ := reads_of I ab r2 h2 ry
      have s1 := rsv_shaped h1
      have s2 := rsv_shaped h2
      cases b with
      | tup es =>
        have po : Post ⟨X.K, cl, E, iv, TT⟩ H g st (.ok (.bl (es.any fun b => eqd b a)) st) fun d s' g' H' => ∀ v, Rep X.K g' s'.size v d → Q v H' := po
        refine SeqAt.in_tuple_reads (xs := D.pds es) q2 q1 (SeqAt.canLay_of_shaped s2) (SeqAt.canLay_of_shaped s1) (depth_in (db := a.pd) s1 hu _) ⟨.bl _, H, I, rfl, ?_⟩
        rw [any_pds]
        exact po.here ab _ (.bl _)
      | lst es =>
        have po : Post ⟨X.K, cl, E, iv, TT⟩ H g st (.ok (.bl (es.any fun b => eqd b a)) st) fun d s' g' H' => ∀ v, Rep X.K g' s'.size v d → Q v H' := po
        refine SeqAt.in_list_reads (xs := D.pds es) q2 q1 (SeqAt.canLay_of_shaped s2) (SeqAt.canLay_of_shaped s1) (depth_in (db := a.pd) s1 hu _) ⟨.bl _, H, I, rfl, ?_⟩
        rw [any_pds]
        exact po.here ab _ (.bl _)
      | _ => exact po.elim
theorem op_notin (hK : P.K = X.K) (hu : X.A.units + 65 < cLine) : OpR X (compareOp .NotIn) (rD P fun d e s => notD (inD d e s)) := by
  obtain ⟨K, cl, E, iv, TT⟩ := P
  have hK : K = X.K := hK
  subst hK
  refine opR_of rfl fun pins s σ H x y v u Q I rx ry d e g st ab r1 r2 po => ?_
  unfold inD at po
  cases h1 : rsv st deep d with
  | none => rw [h1] at po; exact po.elim
  | some a =>
    cases h2 : rsv st deep e with
    | none => rw [h1, h2] at po; exact po.elim
    | some b =>
      rw [h1, h2] at po
      obtain ⟨as, q1⟩ := reads_of I ab r1 h1 rx
      obtain ⟨bs, q2⟩ := reads_of I ab r2 h2 ry
      have s1 := rsv_shaped h1
      have s2 := rsv_shaped h2
      cases b with
      | tup es =>
        have po : Post ⟨X.K, cl, E, iv, TT⟩ H g st (.ok (.bl (!es.any fun b => eqd b a)) st) fun d s' g' H' => ∀ v, Rep X.K g' s'.size v d → Q v H' := po
        refine SeqAt.notIn_tuple_reads (xs := D.pds es) q2 q1 (SeqAt.canLay_of_shaped s2) (SeqAt.canLay_of_shaped s1) (depth_in (db := a.pd) s1 hu _) ⟨.bl _, H, I, rfl, ?_⟩
        rw [any_pds]
        exact po.here ab _ (.bl _)
      | lst es =>
        have po : Post ⟨X.K, cl, E, iv, TT⟩ H g st (.ok (.bl (!es.any fun b => eqd b a)) st) fun d s' g' H' => ∀ v, Rep X.K g' s'.size v d → Q v H' := po
        refine SeqAt.notIn_list_reads (xs := D.pds es) q2 q1 (SeqAt.canLay_of_shaped s2) (SeqAt.canLay_of_shaped s1) (depth_in (db := a.pd) s1 hu _) ⟨.bl _, H, I, rfl, ?_⟩
        rw [any_pds]
        exact po.here ab _ (.bl _)
      | _ => exact po.elim
end
end DL
set_option Elab.async false
set_option linter.all false
set_option maxRecDepth 100000
set_option maxHeartbeats 2000000
/-! The data layer, part 6: is, <, truth, items, slices. -/
namespace DL
open PySem PySem.Spec PyProof.Rows L2
section
variable {X : Cx} {P : Par}
theorem op_iss (hK : P.K = X.K) : OpR X (compareOp .Is) (rD P isD) := by
  refine opR_of hK fun pins s σ H x y v u Q I rx ry d e g st ab r1 r2 po => ?_
  cases e with
  | non =>
    cases r2
    refine op_isN pins s σ H _ _ v u Q I rx ry ⟨rfl, ?_⟩
    cases r1 with
    | non => exact po.here (by rw [hK]; exact ab) _ (.bl _)
    | _ => exact po.here (by rw [hK]; exact ab) _ (.bl _)
  | bl b =>
    cases r2
    cases (show u = Value.bool b from ry)
    cases r1 with
    | bl c =>
      have z := po.here (by rw [hK]; exact ab) _ (.bl _)
      refine op_is_bl pins s σ H (V.bl c) (V.bl b) v _ Q I rx (show RelV (V.bl b) (Value.bool b) from rfl) ⟨c, b, rfl, rfl, ?_⟩
      have q : decide (c = b) = (c == b) := by cases c <;> cases b <;> rfl
      rw [q]
      exact z
    | non =>
      cases (show v = Value.none from rx)
      exact wpAny_is_other rfl (fun z => nomatch z) ⟨.bl false, H, I, rfl, po.here (by rw [hK]; exact ab) _ (.bl _)⟩
    | int i =>
      obtain ⟨t, rfl⟩ := rx
      exact wpAny_is_other rfl (fun z => nomatch z) ⟨.bl false, H, I, rfl, po.here (by rw [hK]; exact ab) _ (.bl _)⟩
    | str x =>
      obtain ⟨t, rfl⟩ := rx
      exact wpAny_is_other rfl (fun z => nomatch z) ⟨.bl false, H, I, rfl, po.here (by rw [hK]; exact ab) _ (.bl _)⟩
    | tup q t =>
      cases (show v = Value.ref _ from rx)
      exact wpAny_is_other rfl (fun z => nomatch z) ⟨.bl false, H, I, rfl, po.here (by rw [hK]; exact ab) _ (.bl _)⟩
    | lst q t =>
      cases (show v = Value.ref _ from rx)
      exact wpAny_is_other rfl (fun z => nomatch z) ⟨.bl false, H, I, rfl, po.here (by rw [hK]; exact ab) _ (.bl _)⟩
    | fix q t =>
      cases (show v = Value.ref _ from rx)
      exact wpAny_is_other rfl (fun z => nomatch z) ⟨.bl false, H, I, rfl, po.here (by rw [hK]; exact ab) _ (.bl _)⟩
    | mref q =>
      cases (show v = Value.ref _ from rx)
      exact wpAny_is_other rfl (fun z => nomatch z) ⟨.bl false, H, I, rfl, po.here (by rw [hK]; exact ab) _ (.bl _)⟩
  | _ => exact po.elim
theorem op_isnt (hK : P.K = X.K) : OpR X (compareOp .IsNot) (rD P fun d e s => notD (isD d e s)) := by
  refine opR_of hK fun pins s σ H x y v u Q I rx ry d e g st ab r1 r2 po => ?_
  cases e with
  | non =>
    cases r2
    refine op_notN pins s σ H _ _ v u Q I rx ry ⟨rfl, ?_⟩
    cases r1 with
    | non => exact po.here (by rw [hK]; exact ab) _ (.bl _)
    | _ => exact po.here (by rw [hK]; exact ab) _ (.bl _)
  | bl b =>
    cases r2
    cases (show u = Value.bool b from ry)
    cases r1 with
    | bl c =>
      have z := po.here (by rw [hK]; exact ab) _ (.bl _)
      refine op_isnot_bl pins s σ H (V.bl c) (V.bl b) v _ Q I rx (show RelV (V.bl b) (Value.bool b) from rfl) ⟨c, b, rfl, rfl, ?_⟩
      have q : decide (c = b) = (c == b) := by cases c <;> cases b <;> rfl
      rw [q]
      exact z
    | non =>
      cases (show v = Value.none from rx)
      exact wpAny_isNot_other rfl (fun z => nomatch z) ⟨.bl true, H, I, rfl, po.here (by rw [hK]; exact ab) _ (.bl _)⟩
    | int i =>
      obtain ⟨t, rfl⟩ := rx
      exact wpAny_isNot_other rfl (fun z => nomatch z) ⟨.bl true, H, I, rfl, po.here (by rw [hK]; exact ab) _ (.bl _)⟩
    | str x =>
      obtain ⟨t, rfl⟩ := rx
      exact wpAny_isNot_other rfl (fun z => nomatch z) ⟨.bl true, H, I, rfl, po.here (by rw [hK]; exact ab) _ (.bl _)⟩
    | tup q t =>
      cases (show v = Value.ref _ from rx)
      exact wpAny_isNot_other rfl (fun z => nomatch z) ⟨.bl true, H, I, rfl, po.here (by rw [hK]; exact ab) _ (.bl _)⟩
    | lst q t =>
      cases (show v = Value.ref _ from rx)
      exact wpAny_isNot_other rfl (fun z => nomatch z) ⟨.bl true, H, I, rfl, po.here (by rw [hK]; exact ab) _ (.bl _)⟩
    | fix q t =>
      cases (show v = Value.ref _ from rx)
      exact wpAny_isNot_other rfl (fun z => nomatch z) ⟨.bl true, H, I, rfl, po.here (by rw [hK]; exact ab) _ (.bl _)⟩
    | mref q =>
      cases (show v = Value.ref _ from rx)
      exact wpAny_isNot_other rfl (fun z => nomatch z) ⟨.bl true, H, I, rfl, po.here (by rw [hK]; exact ab) _ (.bl _)⟩
  | _ => exact po.elim
theorem op_ltt (hK : P.K = X.K) (hu : X.A.units + 65 < cLine) : OpR X (compareOp .Lt) (rD P ltD) := by
  obtain ⟨K, cl, E, iv, TT⟩ := P
  have hK : K = X.K := hK
  subst hK
  refine opR_of rfl fun pins s σ H x y v u Q I rx ry d e g st ab r1 r2 po => ?_
  have rest : (Post ⟨X.K, cl, E, iv, TT⟩ H g st (match rsv st deep d, rsv st deep e with
    | some (.tup xs), some (.tup ys) => if PySem.W.alike (D.pd (.tup xs)) (D.pd (.tup ys)) = true then .ok (.bl (ltd (.tup xs) (.tup ys))) st else .stuck
    | _, _ => .stuck) fun d s' g' H' => ∀ v, Rep X.K g' s'.size v d → Q v H') → wpAny (model X.prog X.w) X.A (compareOp .Lt v u) (EP X pins σ Q) X.xe s := by
    intro po
    cases h1 : rsv st deep d with
    | none => rw [h1] at po; exact po.elim
    | some a =>
      cases h2 : rsv st deep e with
      | none => rw [h1, h2] at po; cases a <;> exact po.elim
      | some b =>
        rw [h1, h2] at po
        obtain ⟨as, q1⟩ := reads_of I ab r1 h1 rx
        obtain ⟨bs, q2⟩ := reads_of I ab r2 h2 ry
        have s1 := SeqAt.depth_of_shaped (rsv_shaped h1)
        cases a with
        | tup xs =>
          cases b with
          | tup ys =>
            have po : Post ⟨X.K, cl, E, iv, TT⟩ H g st (if PySem.W.alike (D.pd (.tup xs)) (D.pd (.tup ys)) = true then .ok (.bl (ltd (.tup xs) (.tup ys))) st else .stuck) fun d s' g' H' => ∀ v, Rep X.K g' s'.size v d → Q v H' := po
            by_cases ha : PySem.W.alike (D.pd (.tup xs)) (D.pd (.tup ys)) = true
            · rw [if_pos ha] at po
              have hm : min (D.pd (.tup xs)).depth (D.pd (.tup ys)).depth ≤ (D.pd (.tup xs)).depth := Nat.min_le_left _ _
              have z := PySem.W.rcLt_alike (D.pd (.tup xs)) (D.pd (.tup ys)) X.A s v u as bs q1 q2 ha (fun z => nomatch z) (by omega)
              exact z X.prog X.w X.xe (EP X pins σ Q) ⟨.bl _, H, I, rfl, po.here ab _ (.bl _)⟩
            · rw [if_neg ha] at po
              exact po.elim
          | _ => exact po.elim
        | _ => cases b <;> exact po.elim
  cases d with
  | int i =>
    cases e with
    | int j =>
      cases r1
      cases r2
      exact op_lt pins s σ H _ _ v u Q I rx ry ⟨i, j, rfl, rfl, po.here ab _ (.bl _)⟩
    | _ => exact rest po
  | _ => exact rest po
theorem op_cmpop (hK : P.K = X.K) (hu : X.A.units + 65 < cLine) (op : CmpOp) : OpR X (compareOp op) (rD P (cmpop op)) := by
  cases op with
  | Eq => exact op_eqq hK hu
  | NotEq => exact op_neq hK hu
  | Lt => exact op_ltt hK hu
  | LtE => exact op_cmpI (p := fun i j => decide (i ≤ j)) hK op_le
  | Gt => exact op_cmpI (p := fun i j => decide (j < i)) hK op_gt
  | GtE => exact op_cmpI (p := fun i j => decide (j ≤ i)) hK op_ge
  | Is => exact op_iss hK
  | IsNot => exact op_isnt hK
  | In => exact op_inn hK hu
  | NotIn => exact op_notin hK hu
/-! ### truth -/
theorem tru_of {K : PySem.W.Frag} {g : Gh} {H : Hp} {s : S} {v : V} {d : D} {b : Bool} (ab : AbsS K g H s) (r : Rep K g s.size v d) (h : truth d s = some b) : TruV K v H b := by
  have emp : ∀ {xs : List V} {ds : List D}, RepL K g s.size xs ds → (!ds.isEmpty) = (!xs.isEmpty) := by
    intro xs ds t
    cases t <;> rfl
  cases r with
  | non => cases h; rfl
  | bl c => cases h; rfl
  | int i => cases h; rfl
  | str x =>
    have h : (if x.length ≤ line then some ((x.length : Int) != 0) else none) = some b := h
    by_cases c : x.length ≤ line
    · rw [if_pos c] at h
      cases h
      exact ⟨by rw [← line_eq]; exact c, rfl⟩
    · rw [if_neg c] at h
      cases h
  | tup q t =>
    cases h
    exact .inr (.inl ⟨_, sqT_H ab q, emp t⟩)
  | lst q t =>
    cases h
    exact .inl ⟨_, .inl (.inl (ab.zH _ _ q)), emp t⟩
  | fix q t => cases h
  | mref hi =>
    rename_i i
    have h : (match s.get i with
      | some (.lst ds) => some (!ds.isEmpty)
      | _ => none) = some b := h
    cases q : s.get i with
    | none => rw [q] at h; cases h
    | some mo =>
      cases mo with
      | dct kvs => rw [q] at h; cases h
      | lst es =>
        rw [q] at h
        cases h
        obtain ⟨o, h1, h2, xs, rfl, t⟩ := ab.cell i _ q
        exact .inl ⟨_, .inl (.inl h1), emp t⟩
/-! ### items, slices -/
theorem pick_at {K : PySem.W.Frag} {g : Gh} {n : Nat} {xs : List V} {ds : List D} {i : Int} {d : D} (r : RepL K g n xs ds) (h : pick ds i = some d) : ∃ v, atI xs i = some v ∧ Rep K g n v d := by
  unfold pick at h
  unfold atI ixN
  rw [r.length]
  by_cases h0 : 0 ≤ i
  · rw [if_pos h0] at h
    rw [if_pos h0]
    obtain ⟨v, h1, h2⟩ := r.get h
    have hl : i.toNat < ds.length := (List.getElem?_eq_some_iff.mp h).1
    rw [if_pos (by omega)]
    exact ⟨v, h1, h2⟩
  · rw [if_neg h0] at h
    rw [if_neg h0]
    by_cases h1 : -(ds.length : Int) ≤ i
    · rw [if_pos h1] at h
      rw [if_pos h1]
      obtain ⟨v, a1, a2⟩ := r.get h
      exact ⟨v, a1, a2⟩
    · rw [if_neg h1] at h
      cases h
theorem ix_getD (hK : P.K = X.K) : IxR X (rD P getD) := by
  obtain ⟨K, cl, E, iv, TT⟩ := P
  have hK : K = X.K := hK
  subst hK
  intro value slice pins s σ H x y v u Q I rx ry q hs
  obtain ⟨d, e, g, st, ab, r1, r2, po⟩ := q
  cases e with
  | int i =>
    cases r2
    have po : Post ⟨X.K, cl, E, iv, TT⟩ H g st (match seqOf st d with
      | some xs => (match pick xs i with
        | some d => .ok d st
        | none => .stuck)
      | none => .stuck) fun d s' g' H' => ∀ v, Rep X.K g' s'.size v d → Q v H' := po
    cases h1 : seqOf st d with
    | none => rw [h1] at po; exact po.elim
    | some ds =>
      rw [h1] at po
      have po : Post ⟨X.K, cl, E, iv, TT⟩ H g st (match pick ds i with
        | some d => .ok d st
        | none => .stuck) fun d s' g' H' => ∀ v, Rep X.K g' s'.size v d → Q v H' := po
      cases h2 : pick ds i with
      | none => rw [h2] at po; exact po.elim
      | some z =>
        rw [h2] at po
        obtain ⟨a, xs, rfl, hq, t⟩ := seq_at ab r1 h1
        obtain ⟨w, p1, p2⟩ := pick_at t h2
        rcases hq with hq | hq
        · exact ix_list value slice pins s σ H _ _ v u Q I rx ry ⟨a, xs, i, w, rfl, rfl, hq, p1, po.here ab _ p2⟩ hs
        · exact ix_tup value slice pins s σ H _ _ v u Q I rx ry ⟨a, xs, i, w, rfl, rfl, hq, p1, po.here ab _ p2⟩ hs
  | _ => exact po.elim
theorem clip_eq (n : Nat) (i : Int) (d : Nat) : HT.sIx n d (some i) = clip n i := rfl
theorem cut_rep {K : PySem.W.Frag} {g : Gh} {n : Nat} {xs : List V} {ds : List D} (r : RepL K g n xs ds) (lo hi : Option Int) : RepL K g n (cutV xs lo hi) (cutL ds lo hi) := by
  unfold cutV cutL
  rw [r.length]
  cases lo with
  | none =>
    cases hi with
    | none => exact (r.drop _).take _
    | some j => exact (r.drop _).take _
  | some i =>
    cases hi with
    | none => exact (r.drop _).take _
    | some j => exact (r.drop _).take _
theorem cut_whole {ds : List D} {lo hi : Option Int} (h : HT.sIx ds.length 0 lo = 0 ∧ HT.sIx ds.length ds.length hi = ds.length) : cutL ds lo hi = ds := by
  unfold cutL
  cases lo with
  | none =>
    cases hi with
    | none => simp
    | some j =>
      have e2 : clip ds.length j = ds.length := h.2
      simp [e2]
  | some i =>
    have e1 : clip ds.length i = 0 := h.1
    cases hi with
    | none => simp [e1]
    | some j =>
      have e2 : clip ds.length j = ds.length := h.2
      simp [e1, e2]
/-- a slice's rule -/
def rCut (P : Par) : V → Option Int → Option Int → Hp → VK → Prop := fun x lo hi H Q => ∃ d g s, AbsS P.K g H s ∧ Rep P.K g s.size x d ∧ Post P H g s (cutD d lo hi s) fun d s' g' H' => ∀ v, Rep P.K g' s'.size v d → Q v H'
theorem sl_cutD (hK : P.K = X.K) : SlR X (rCut P) := by
  obtain ⟨K, cl, E, iv, TT⟩ := P
  have hK : K = X.K := hK
  subst hK
  intro pins s σ H x v vl vu lo hi sl Q I rx hs pl pu q
  obtain ⟨d, g, st, ab, r, po⟩ := q
  have lists : ∀ {d : D}, Rep X.K g st.size x d → (Post ⟨X.K, cl, E, iv, TT⟩ H g st (match lstOf st d with
      | some xs => .ok (.lst (cutL xs lo hi)) st
      | none => .stuck) fun d s' g' H' => ∀ v, Rep X.K g' s'.size v d → Q v H') → ∃ T id, typeLookup (.type T) "__getitem__" = pure (some (.builtin id)) ∧ s.TypeIs v T ∧ wpAny (model X.prog X.w) X.A (getItem v (.ref sl)) (EP X pins σ Q) X.xe s := by
    intro d r po
    cases h1 : lstOf st d with
    | none => rw [h1] at po; exact po.elim
    | some xs =>
      rw [h1] at po
      obtain ⟨a, vs, rfl, ha, ra⟩ := lst_at ab r h1
      exact sl_list pins s σ H _ v vl vu lo hi sl Q I rx hs pl pu ⟨a, vs, rfl, .inl (.inl ha), fun p hp => po _ _ (ext_lay ab hp _) (abs_lay ab hp _) _ (rep_lst ab hp (cut_rep ra _ _))⟩
  cases d with
  | tup ds =>
    cases r with
    | tup q t =>
      refine sl_tupA pins s σ H _ v vl vu lo hi sl Q I rx hs pl pu ⟨_, _, rfl, sqT_H ab q, fun hw => ?_, fun _ p hp => ?_⟩
      · rw [t.length] at hw
        have z := po.here ab
        have e : cutL ds lo hi = ds := cut_whole hw
        have z : ∀ v, Rep X.K g st.size v (.tup (cutL ds lo hi)) → Q v H := z
        rw [e] at z
        exact z _ (.tup q t)
      · exact po _ _ (ext_lay ab hp _) (abs_lay ab hp _) _ (rep_tup ab hp (cut_rep t _ _))
  | _ => exact lists r po
end
end DL
set_option Elab.async false
set_option linter.all false
set_option maxRecDepth 100000
set_option maxHeartbeats 2000000
/-! The data layer, part 7: built-ins by values. -/
namespace DL
open PySem PySem.Spec PyProof.Rows L2
section
variable {X : Cx} {P : Par}
theorem callR_of (hK : P.K = X.K) {f : Value} {r : Den}
    (h : ∀ (pins : List (Addr × Obj)) (s : Shared) (σ : L2.St) (H : Hp) (xs : List V) (us : List Value) (Q : VK), Inv X pins σ H s → Vals xs us →
      ∀ (ds : List D) (g : Gh) (st : S), AbsS X.K g H st → RepL X.K g st.size xs ds → (Post P H g st (r ds st) fun d s' g' H' => ∀ v, Rep P.K g' s'.size v d → Q v H') → wpAny (model X.prog X.w) X.A (call f us) (EP X pins σ Q) X.xe s) :
    CallR X f (rC P r) := by
  intro pins s σ H xs us Q I rx q
  obtain ⟨ds, g, st, ab, r1, po⟩ := q
  rw [hK] at ab r1
  exact h pins s σ H xs us Q I rx ds g st ab r1 po
theorem repL1 {K : PySem.W.Frag} {g : Gh} {n : Nat} {xs : List V} {d : D} (r : RepL K g n xs [d]) : ∃ v, xs = [v] ∧ Rep K g n v d := by
  cases r with
  | cons h t =>
    cases t
    exact ⟨_, rfl, h⟩
theorem repL2 {K : PySem.W.Frag} {g : Gh} {n : Nat} {xs : List V} {d e : D} (r : RepL K g n xs [d, e]) : ∃ v u, xs = [v, u] ∧ Rep K g n v d ∧ Rep K g n u e := by
  cases r with
  | cons h t =>
    obtain ⟨u, rfl, h2⟩ := repL1 t
    exact ⟨_, _, rfl, h, h2⟩
theorem ints_of {K : PySem.W.Frag} {g : Gh} {n : Nat} : ∀ {xs : List V} {ds : List D} {ns : List Int}, RepL K g n xs ds → intsO ds = some ns → xs = ns.map V.int
  | _, _, _, .nil, h => by
    cases h
    rfl
  | _, d :: ds, ns, .cons r t, h => by
    obtain ⟨b, u, rfl, q1, q2⟩ := mapO_cons h
    cases d with
    | int i =>
      cases q1
      cases r
      rw [ints_of t q2]
      rfl
    | _ => cases q1
theorem bls_of {K : PySem.W.Frag} {g : Gh} {n : Nat} : ∀ {xs : List V} {ds : List D} {ns : List Bool}, RepL K g n xs ds → blsO ds = some ns → xs = ns.map V.bl
  | _, _, _, .nil, h => by
    cases h
    rfl
  | _, d :: ds, ns, .cons r t, h => by
    obtain ⟨b, u, rfl, q1, q2⟩ := mapO_cons h
    cases d with
    | bl i =>
      cases q1
      cases r
      rw [bls_of t q2]
      rfl
    | _ => cases q1
theorem cb_len (hK : P.K = X.K) : CallR X (.builtin "len") (rC P lenB) := by
  refine callR_of hK fun pins s σ H xs us Q I rx ds g st ab r po => ?_
  rw [← hK] at ab r
  have seq : ∀ {d : D}, RepL P.K g st.size xs [d] → (Post P H g st (match seqOf st d with
      | some xs => .ok (.int xs.length) st
      | none => .stuck) fun d s' g' H' => ∀ v, Rep P.K g' s'.size v d → Q v H') → wpAny (model X.prog X.w) X.A (call (.builtin "len") us) (EP X pins σ Q) X.xe s := by
    intro d r po
    obtain ⟨v, rfl, r1⟩ := repL1 r
    cases h1 : seqOf st d with
    | none => rw [h1] at po; exact po.elim
    | some es =>
      rw [h1] at po
      obtain ⟨a, vs, rfl, ha, t⟩ := seq_at ab r1 h1
      have z := po.here ab _ (.int _)
      rw [hK] at ha
      refine call_len_seq pins s σ H _ us Q I rx ⟨a, vs, rfl, ha, ?_⟩
      rw [t.length]
      exact z
  match ds, r, po with
  | [], r, po => exact po.elim
  | [d], r, po =>
    cases d with
    | str x =>
      obtain ⟨v, rfl, r1⟩ := repL1 r
      cases r1
      have po : Post P H g st (if x.length ≤ line then .ok (.int x.length) st else .stuck) fun d s' g' H' => ∀ v, Rep P.K g' s'.size v d → Q v H' := po
      by_cases c : x.length ≤ line
      · rw [if_pos c] at po
        exact call_len pins s σ H _ us Q I rx ⟨V.str x, x.length, rfl, ⟨by rw [← line_eq]; exact c, rfl⟩, po.here ab _ (.int _)⟩
      · rw [if_neg c] at po
        exact po.elim
    | _ => exact seq r po
  | _ :: _ :: _, r, po => exact po.elim
theorem cb_abs (hK : P.K = X.K) : CallR X (.builtin "abs") (rC P absB) := by
  refine callR_of hK fun pins s σ H xs us Q I rx ds g st ab r po => ?_
  rw [← hK] at ab r
  match ds, r, po with
  | [], r, po => exact po.elim
  | [d], r, po =>
    cases d with
    | int i =>
      obtain ⟨v, rfl, r1⟩ := repL1 r
      cases r1
      exact call_abs pins s σ H _ us Q I rx ⟨i, rfl, po.here ab _ (.int _)⟩
    | _ => exact po.elim
  | _ :: _ :: _, r, po => exact po.elim
theorem maxL_in : ∀ (ns : List Int) (m : Int), (maxL m ns = m ∨ maxL m ns ∈ ns) ∧ m ≤ maxL m ns ∧ ∀ y ∈ ns, y ≤ maxL m ns
  | [], m => ⟨.inl rfl, Int.le_refl _, fun _ h => nomatch h⟩
  | x :: r, m => by
    obtain ⟨h1, h2, h3⟩ := maxL_in r (if m < x then x else m)
    show (maxL (if m < x then x else m) r = m ∨ maxL (if m < x then x else m) r ∈ x :: r) ∧ m ≤ maxL (if m < x then x else m) r ∧ ∀ y ∈ x :: r, y ≤ maxL (if m < x then x else m) r
    have e1 : m ≤ (if m < x then x else m) := by split <;> omega
    have e2 : x ≤ (if m < x then x else m) := by split <;> omega
    refine ⟨?_, by omega, fun y hy => ?_⟩
    · rcases h1 with h | h
      · rw [h]
        split
        · exact .inr (List.mem_cons_self ..)
        · exact .inl rfl
      · exact .inr (List.mem_cons_of_mem _ h)
    · rcases List.mem_cons.mp hy with rfl | hy
      · omega
      · exact h3 y hy
theorem minL_in : ∀ (ns : List Int) (m : Int), (minL m ns = m ∨ minL m ns ∈ ns) ∧ minL m ns ≤ m ∧ ∀ y ∈ ns, minL m ns ≤ y
  | [], m => ⟨.inl rfl, Int.le_refl _, fun _ h => nomatch h⟩
  | x :: r, m => by
    obtain ⟨h1, h2, h3⟩ := minL_in r (if x < m then x else m)
    show (minL (if x < m then x else m) r = m ∨ minL (if x < m then x else m) r ∈ x :: r) ∧ minL (if x < m then x else m) r ≤ m ∧ ∀ y ∈ x :: r, minL (if x < m then x else m) r ≤ y
    have e1 : (if x < m then x else m) ≤ m := by split <;> omega
    have e2 : (if x < m then x else m) ≤ x := by split <;> omega
    refine ⟨?_, by omega, fun y hy => ?_⟩
    · rcases h1 with h | h
      · rw [h]
        split
        · exact .inr (List.mem_cons_self ..)
        · exact .inl rfl
      · exact .inr (List.mem_cons_of_mem _ h)
    · rcases List.mem_cons.mp hy with rfl | hy
      · omega
      · exact h3 y hy
theorem max_uniq {n m : Int} {ns : List Int} (h : m ∈ n :: ns) (hle : ∀ y ∈ n :: ns, y ≤ m) : m = maxL n ns := by
  obtain ⟨h1, h2, h3⟩ := maxL_in ns n
  have a : maxL n ns ≤ m := by
    rcases h1 with q | q
    · rw [q]; exact hle n (List.mem_cons_self ..)
    · exact hle _ (List.mem_cons_of_mem _ q)
  have b : m ≤ maxL n ns := by
    rcases List.mem_cons.mp h with q | q
    · rw [q]; exact h2
    · exact h3 m q
  omega
theorem min_uniq {n m : Int} {ns : List Int} (h : m ∈ n :: ns) (hle : ∀ y ∈ n :: ns, m ≤ y) : m = minL n ns := by
  obtain ⟨h1, h2, h3⟩ := minL_in ns n
  have a : m ≤ minL n ns := by
    rcases h1 with q | q
    · rw [q]; exact hle n (List.mem_cons_self ..)
    · exact hle _ (List.mem_cons_of_mem _ q)
  have b : minL n ns ≤ m := by
    rcases List.mem_cons.mp h with q | q
    · rw [q]; exact h2
    · exact h3 m q
  omega
/-- a built-in of one list -/
theorem cb_list {id : String} {f : List D → S → Res D} (hK : P.K = X.K)
    (h : ∀ (pins : List (Addr × Obj)) (s : Shared) (σ : L2.St) (H : Hp) (a : Addr) (xs : List V) (us : List Value) (Q : VK), Inv X pins σ H s → Vals [.ref a] us → H a = some (.lst xs) →
      ∀ (es : List D) (g : Gh) (st : S), AbsS P.K g H st → RepL P.K g st.size xs es → (Post P H g st (f es st) fun d s' g' H' => ∀ v, Rep P.K g' s'.size v d → Q v H') → wpAny (model X.prog X.w) X.A (call (.builtin id) us) (EP X pins σ Q) X.xe s)
    {pins : List (Addr × Obj)} {s : Shared} {σ : L2.St} {H : Hp} {xs : List V} {us : List Value} {Q : VK} (I : Inv X pins σ H s) (rx : Vals xs us) {d : D} {g : Gh} {st : S} (ab : AbsS P.K g H st) (rr : RepL P.K g st.size xs [d])
    (po : Post P H g st (match lstOf st d with
      | some es => f es st
      | none => .stuck) fun d s' g' H' => ∀ v, Rep P.K g' s'.size v d → Q v H') : wpAny (model X.prog X.w) X.A (call (.builtin id) us) (EP X pins σ Q) X.xe s := by
  obtain ⟨v, rfl, r1⟩ := repL1 rr
  cases h1 : lstOf st d with
  | none => rw [h1] at po; exact po.elim
  | some es =>
    rw [h1] at po
    obtain ⟨a, vs, rfl, ha, t⟩ := lst_at ab r1 h1
    exact h pins s σ H a vs us Q I rx ha es g st ab t po
theorem cb_max (hK : P.K = X.K) (hc : X.calm = true) : CallR X (.builtin "max") (rC P maxB) := by
  refine callR_of hK fun pins s σ H xs us Q I rx ds g st ab r po => ?_
  rw [← hK] at ab r
  match ds, r, po with
  | [], r, po => exact po.elim
  | [d], r, po =>
    refine cb_list (f := fun es st => match intsO es with
      | some (n :: ns) => .ok (.int (maxL n ns)) st
      | _ => .stuck) hK (fun pins s σ H a xs us Q I rx ha es g st ab t po => ?_) I rx ab r ?_
    · cases h2 : intsO es with
      | none => rw [h2] at po; exact po.elim
      | some ns =>
        cases ns with
        | nil => rw [h2] at po; exact po.elim
        | cons n ns =>
          rw [h2] at po
          rw [ints_of t h2] at ha
          refine cr_max hc pins s σ H _ us Q I rx ⟨a, n :: ns, rfl, .inl (.inl ha), by simp, fun m hm hle => ?_⟩
          rw [max_uniq hm hle]
          exact po.here ab _ (.int _)
    · exact po
  | [d, e], r, po =>
    cases d <;> cases e <;> first | exact po.elim | skip
    rename_i i j
    obtain ⟨v, u, rfl, r1, r2⟩ := repL2 r
    cases r1
    cases r2
    exact call_max2 hc pins s σ H _ us Q I rx ⟨i, j, rfl, po.here ab _ (.int _)⟩
  | _ :: _ :: _ :: _, r, po => exact po.elim
theorem cb_min (hK : P.K = X.K) (hc : X.calm = true) : CallR X (.builtin "min") (rC P minB) := by
  refine callR_of hK fun pins s σ H xs us Q I rx ds g st ab r po => ?_
  rw [← hK] at ab r
  match ds, r, po with
  | [], r, po => exact po.elim
  | [d], r, po =>
    refine cb_list (f := fun es st => match intsO es with
      | some (n :: ns) => .ok (.int (minL n ns)) st
      | _ => .stuck) hK (fun pins s σ H a xs us Q I rx ha es g st ab t po => ?_) I rx ab r ?_
    · cases h2 : intsO es with
      | none => rw [h2] at po; exact po.elim
      | some ns =>
        cases ns with
        | nil => rw [h2] at po; exact po.elim
        | cons n ns =>
          rw [h2] at po
          rw [ints_of t h2] at ha
          refine cr_min hc pins s σ H _ us Q I rx ⟨a, n :: ns, rfl, .inl (.inl ha), by simp, fun m hm hle => ?_⟩
          rw [min_uniq hm hle]
          exact po.here ab _ (.int _)
    · exact po
  | [d, e], r, po =>
    cases d <;> cases e <;> first | exact po.elim | skip
    rename_i i j
    obtain ⟨v, u, rfl, r1, r2⟩ := repL2 r
    cases r1
    cases r2
    exact call_min2 hc pins s σ H _ us Q I rx ⟨i, j, rfl, po.here ab _ (.int _)⟩
  | _ :: _ :: _ :: _, r, po => exact po.elim
theorem cb_sum (hK : P.K = X.K) (hc : X.calm = true) : CallR X (.builtin "sum") (rC P sumB) := by
  refine callR_of hK fun pins s σ H xs us Q I rx ds g st ab r po => ?_
  rw [← hK] at ab r
  match ds, r, po with
  | [], r, po => exact po.elim
  | [d], r, po =>
    refine cb_list (f := fun es st => match intsO es with
      | some ns => .ok (.int ns.sum) st
      | _ => .stuck) hK (fun pins s σ H a xs us Q I rx ha es g st ab t po => ?_) I rx ab r po
    cases h2 : intsO es with
    | none => rw [h2] at po; exact po.elim
    | some ns =>
      rw [h2] at po
      rw [ints_of t h2] at ha
      exact cr_sum hc pins s σ H _ us Q I rx ⟨a, ns, rfl, .inl (.inl ha), po.here ab _ (.int _)⟩
  | _ :: _ :: _, r, po => exact po.elim
theorem cb_all (hK : P.K = X.K) (hc : X.calm = true) : CallR X (.builtin "all") (rC P allB) := by
  refine callR_of hK fun pins s σ H xs us Q I rx ds g st ab r po => ?_
  rw [← hK] at ab r
  match ds, r, po with
  | [], r, po => exact po.elim
  | [d], r, po =>
    refine cb_list (f := fun es st => match blsO es with
      | some ns => .ok (.bl (ns.all id)) st
      | _ => .stuck) hK (fun pins s σ H a xs us Q I rx ha es g st ab t po => ?_) I rx ab r po
    cases h2 : blsO es with
    | none => rw [h2] at po; exact po.elim
    | some ns =>
      rw [h2] at po
      rw [bls_of t h2] at ha
      exact cr_all hc pins s σ H _ us Q I rx ⟨a, ns, rfl, .inl (.inl ha), po.here ab _ (.bl _)⟩
  | _ :: _ :: _, r, po => exact po.elim
theorem cb_any (hK : P.K = X.K) (hc : X.calm = true) : CallR X (.builtin "any") (rC P anyB) := by
  refine callR_of hK fun pins s σ H xs us Q I rx ds g st ab r po => ?_
  rw [← hK] at ab r
  match ds, r, po with
  | [], r, po => exact po.elim
  | [d], r, po =>
    refine cb_list (f := fun es st => match blsO es with
      | some ns => .ok (.bl (ns.any id)) st
      | _ => .stuck) hK (fun pins s σ H a xs us Q I rx ha es g st ab t po => ?_) I rx ab r po
    cases h2 : blsO es with
    | none => rw [h2] at po; exact po.elim
    | some ns =>
      rw [h2] at po
      rw [bls_of t h2] at ha
      exact cr_any hc pins s σ H _ us Q I rx ⟨a, ns, rfl, .inl (.inl ha), po.here ab _ (.bl _)⟩
  | _ :: _ :: _, r, po => exact po.elim
theorem cb_int (hK : P.K = X.K) : CallR X (.type "int") (rC P intB) := by
  refine callR_of hK fun pins s σ H xs us Q I rx ds g st ab r po => ?_
  rw [← hK] at ab r
  match ds, r, po with
  | [], r, po => exact po.elim
  | [d], r, po =>
    obtain ⟨v, rfl, r1⟩ := repL1 r
    cases d with
    | int i =>
      cases r1
      exact call_int1 pins s σ H _ us Q I rx (.inl ⟨i, rfl, po.here ab _ (.int _)⟩)
    | bl i =>
      cases r1
      exact call_int1 pins s σ H _ us Q I rx (.inr ⟨i, rfl, po.here ab _ (.int _)⟩)
    | _ => exact po.elim
  | _ :: _ :: _, r, po => exact po.elim
/-- calls that give a list that nobody else holds -/
def rCN (P : Par) (f : List D → S → Res (List D)) : List V → Hp → VK → Prop := fun xs H Q => ∃ ds g s, AbsS P.K g H s ∧ RepL P.K g s.size xs ds ∧ Post P H g s (f ds s) fun es s' g' H' => ∀ p ys, H' p = none → RepL P.K g' s'.size ys es → Q (.ref p) (upd H' p (.lst ys))
theorem post_lay {H : Hp} {g : Gh} {s : S} {r : Res (List D)} {Q : VK} (h : Post P H g s (asLst r) fun d s' g' H' => ∀ v, Rep P.K g' s'.size v d → Q v H') :
    Post P H g s r fun es s' g' H' => ∀ p ys, H' p = none → RepL P.K g' s'.size ys es → Q (.ref p) (upd H' p (.lst ys)) :=
  (Post.bind (f := fun ds s => Res.ok (D.lst ds) s) (k := fun d s' g' H' => ∀ v, Rep P.K g' s'.size v d → Q v H') h).imp fun es s' g' H' e ab q p ys hp ry => q _ _ (ext_lay ab hp _) (abs_lay ab hp _) _ (rep_lst ab hp ry)
theorem cb_lay {f : Value} {r : List D → S → Res (List D)} (h : CallR X f (rCN P r)) : CallR X f (rC P fun ds s => asLst (r ds s)) := fun pins s σ H xs us Q I rx ⟨ds, g, st, ab, r1, po⟩ => h pins s σ H xs us Q I rx ⟨ds, g, st, ab, r1, post_lay po⟩
theorem callN_of (hK : P.K = X.K) {f : Value} {r : List D → S → Res (List D)}
    (h : ∀ (pins : List (Addr × Obj)) (s : Shared) (σ : L2.St) (H : Hp) (xs : List V) (us : List Value) (Q : VK), Inv X pins σ H s → Vals xs us →
      ∀ (ds : List D) (g : Gh) (st : S), AbsS X.K g H st → RepL X.K g st.size xs ds → (Post P H g st (r ds st) fun es s' g' H' => ∀ p ys, H' p = none → RepL P.K g' s'.size ys es → Q (.ref p) (upd H' p (.lst ys))) → wpAny (model X.prog X.w) X.A (call f us) (EP X pins σ Q) X.xe s) :
    CallR X f (rCN P r) := by
  intro pins s σ H xs us Q I rx q
  obtain ⟨ds, g, st, ab, r1, po⟩ := q
  rw [hK] at ab r1
  exact h pins s σ H xs us Q I rx ds g st ab r1 po
theorem cbN_list (hK : P.K = X.K) : CallR X (.type "list") (rCN P listN) := by
  refine callN_of hK fun pins s σ H xs us Q I rx ds g st ab r po => ?_
  rw [← hK] at ab r
  match ds, r, po with
  | [], r, po => exact po.elim
  | [d], r, po =>
    obtain ⟨v, rfl, r1⟩ := repL1 r
    have po : Post P H g st (match seqOf st d with
      | some xs => .ok xs st
      | none => .stuck) fun es s' g' H' => ∀ p ys, H' p = none → RepL P.K g' s'.size ys es → Q (.ref p) (upd H' p (.lst ys)) := po
    cases h1 : seqOf st d with
    | none => rw [h1] at po; exact po.elim
    | some es =>
      rw [h1] at po
      obtain ⟨a, vs, rfl, ha, t⟩ := seq_at ab r1 h1
      rw [hK] at ha
      exact call_list_of pins s σ H _ us Q I rx ⟨a, vs, rfl, ha, fun l hl => po.here ab l vs hl t⟩
  | _ :: _ :: _, r, po => exact po.elim
theorem cb_listOf (hK : P.K = X.K) : CallR X (.type "list") (rC P listB) := cb_lay (cbN_list hK)
theorem cb_tuple (hK : P.K = X.K) : CallR X (.type "tuple") (rC P tupleB) := by
  refine callR_of hK fun pins s σ H xs us Q I rx ds g st ab r po => ?_
  rw [← hK] at ab r
  match ds, r, po with
  | [], r, po => exact po.elim
  | [d], r, po =>
    obtain ⟨v, rfl, r1⟩ := repL1 r
    have po : Post P H g st (match seqOf st d with
      | some xs => .ok (.tup xs) st
      | none => .stuck) fun d s' g' H' => ∀ v, Rep P.K g' s'.size v d → Q v H' := po
    have lists : ∀ {d : D}, Rep P.K g st.size v d → (∀ q, d ≠ .tup q) → (Post P H g st (match seqOf st d with
      | some xs => .ok (.tup xs) st
      | none => .stuck) fun d s' g' H' => ∀ v, Rep P.K g' s'.size v d → Q v H') → wpAny (model X.prog X.w) X.A (call (.type "tuple") us) (EP X pins σ Q) X.xe s := by
      intro d r hn po
      cases h1 : seqOf st d with
      | none => rw [h1] at po; exact po.elim
      | some es =>
        rw [h1] at po
        have fin : ∀ {a : Addr} {vs : List V}, v = .ref a → SqL X.K H a vs → RepL P.K g st.size vs es → wpAny (model X.prog X.w) X.A (call (.type "tuple") us) (EP X pins σ Q) X.xe s := by
          intro a vs e ha t
          subst e
          exact call_tuple_of pins s σ H _ us Q I rx ⟨a, vs, rfl, .inl ⟨ha, fun l hl => po _ _ (ext_lay ab hl _) (abs_lay ab hl _) _ (rep_tup ab hl t)⟩⟩
        cases r with
        | tup q t => exact absurd rfl (hn _)
        | lst q t =>
          cases h1
          exact fin rfl (.inl (.inl (ab.zH _ _ q))) t
        | fix q t =>
          cases h1
          refine fin rfl ?_ t
          have z := sqL_H ab q
          rw [hK] at z
          exact z
        | @mref i hi =>
          cases q : st.get i with
          | none =>
            have h1 : (match st.get i with
              | some (.lst ds) => some ds
              | _ => none) = some es := h1
            rw [q] at h1; cases h1
          | some mo =>
            have h1 : (match st.get i with
              | some (.lst ds) => some ds
              | _ => none) = some es := h1
            cases mo with
            | dct kvs => rw [q] at h1; cases h1
            | lst fs =>
              rw [q] at h1
              cases h1
              obtain ⟨o, a1, a2, xs, rfl, t⟩ := ab.cell i _ q
              exact fin rfl (.inl (.inl a1)) t
        | non => cases h1
        | bl b => cases h1
        | int i => cases h1
        | str x => cases h1
    cases d with
    | tup es =>
      cases r1 with
      | tup q t =>
        have z := sqT_H ab q
        rw [hK] at z
        exact call_tuple_of pins s σ H _ us Q I rx ⟨_, _, rfl, .inr ⟨z, po.here ab _ (.tup q t)⟩⟩
    | _ => exact lists r1 (fun _ z => nomatch z) po
  | _ :: _ :: _, r, po => exact po.elim
theorem cb_divmod (hK : P.K = X.K) : CallR X (.builtin "divmod") (rC P divmodB) := by
  refine callR_of hK fun pins s σ H xs us Q I rx ds g st ab r po => ?_
  rw [← hK] at ab r
  match ds, r, po with
  | [], r, po => exact po.elim
  | [d], r, po => exact po.elim
  | [d, e], r, po =>
    cases d <;> cases e <;> first | exact po.elim | skip
    rename_i i j
    obtain ⟨v, u, rfl, r1, r2⟩ := repL2 r
    cases r1
    cases r2
    have po : Post P H g st (if 0 < j ∧ j < 1073741824 then .ok (.tup [.int (i / j), .int (i % j)]) st else .stuck) fun d s' g' H' => ∀ v, Rep P.K g' s'.size v d → Q v H' := po
    by_cases c : 0 < j ∧ j < 1073741824
    · rw [if_pos c] at po
      exact call_divmod pins s σ H _ us Q I rx ⟨i, j, rfl, c, fun p hp => po _ _ (ext_lay ab hp _) (abs_lay ab hp _) _ (rep_tup ab hp (.cons (.int _) (.cons (.int _) .nil)))⟩
    · rw [if_neg c] at po
      exact po.elim
  | d :: e :: _ :: _, r, po => exact po.elim
end
end DL
set_option Elab.async false
set_option linter.all false
set_option maxRecDepth 100000
set_option maxHeartbeats 2000000
/-! The data layer, part 8: repr, sorted. -/
namespace DL
open PySem PySem.Spec PyProof.Rows L2
theorem len_int (i : Int) : (PyData.shown (.int i)).length ≤ i.natAbs.log2 + 2 := by
  have h := int_text_length_le (a := i) (k := i.natAbs.log2 + 1) (Nat.succ_pos _) (Nat.lt_succ_self _)
  show (Str.ofString (toString i)).length ≤ _
  rw [PySem.ofString_length]
  omega
theorem strOk_lt {x : Str} (h : PyData.strOk x = true) : ∀ c ∈ x.cps.toList, c < 16 ^ 8 := by
  intro c hc
  unfold PyData.strOk at h
  rw [Array.all_eq_true_iff_forall_mem] at h
  have z := h c (by simpa using hc)
  have z : c < 0x110000 := by simpa using z
  exact Nat.lt_trans z (by decide)
theorem plain_rsv (s : S) : ∀ (n : Nat) {d e : D}, d.plain = true → rsv s n d = some e → e = d
  | 0, _, _, _, h => by cases h
  | n + 1, d, e, hp, h => by
    have all : ∀ {ds es : List D}, D.plains ds = true → mapO (rsv s n) ds = some es → es = ds := by
      intro ds
      induction ds with
      | nil =>
        intro es _ q
        cases q
        rfl
      | cons a l ih =>
        intro es hp q
        have hp : (a.plain && D.plains l) = true := hp
        rw [Bool.and_eq_true] at hp
        obtain ⟨b, u, rfl, q1, q2⟩ := mapO_cons q
        rw [plain_rsv s n hp.1 q1, ih hp.2 q2]
    cases d with
    | non => cases h; rfl
    | bl b => cases h; rfl
    | int i => cases h; rfl
    | str x =>
      have h : (if PyData.strOk x = true then some (D.str x) else none) = some e := h
      by_cases c : PyData.strOk x = true
      · rw [if_pos c] at h
        cases h
        rfl
      · rw [if_neg c] at h
        cases h
    | tup ds =>
      have h : (match mapO (rsv s n) ds with
        | some es => some (D.tup es)
        | none => none) = some e := h
      cases z : mapO (rsv s n) ds with
      | none => rw [z] at h; cases h
      | some es =>
        rw [z] at h
        cases h
        rw [all hp z]
    | lst ds =>
      have h : (match mapO (rsv s n) ds with
        | some es => some (D.lst es)
        | none => none) = some e := h
      cases z : mapO (rsv s n) ds with
      | none => rw [z] at h; cases h
      | some es =>
        rw [z] at h
        cases h
        rw [all hp z]
    | fix ds => cases h
    | mref i => cases hp
    | clo i => cases h
theorem mapO_mem {α β : Type} {f : α → Option β} : ∀ {l : List α} {bs : List β}, mapO f l = some bs → ∀ a ∈ l, ∃ b, f a = some b
  | [], _, _, a, h => nomatch h
  | x :: r, bs, h, a, ha => by
    obtain ⟨b, u, rfl, q1, q2⟩ := mapO_cons h
    rcases List.mem_cons.mp ha with rfl | ha
    · exact ⟨b, q1⟩
    · exact mapO_mem q2 a ha
/-- the text of a plain tree is no longer than told -/
theorem shown_wide (s : S) : ∀ (n : Nat) {d e : D}, rsv s n d = some e → e.pd.shown.length ≤ wide n e
  | 0, _, _, h => by cases h
  | n + 1, d, e, h => by
    have all : ∀ {ds es : List D}, mapO (rsv s n) ds = some es → ((PyData.shownAll (D.pds es)).map (·.length)).sum + 2 * (PyData.shownAll (D.pds es)).length ≤ nodesL (fun d => wide n d + 2) es := by
      intro ds
      induction ds with
      | nil =>
        intro es q
        cases q
        exact Nat.le_refl _
      | cons a l ih =>
        intro es q
        obtain ⟨b, u, rfl, q1, q2⟩ := mapO_cons q
        have a1 := shown_wide s n q1
        have a2 := ih q2
        show ((b.pd.shown :: PyData.shownAll (D.pds u)).map (·.length)).sum + 2 * (b.pd.shown :: PyData.shownAll (D.pds u)).length ≤ (wide n b + 2) + nodesL (fun d => wide n d + 2) u
        rw [List.map_cons, List.sum_cons, List.length_cons]
        omega
    cases d with
    | non => cases h; show (PyData.shown .none).length ≤ 5; decide +kernel
    | bl b => cases h; show (PyData.shown (.bool b)).length ≤ 5; cases b <;> decide +kernel
    | int i => cases h; exact len_int i
    | str x =>
      have h : (if PyData.strOk x = true then some (D.str x) else none) = some e := h
      by_cases c : PyData.strOk x = true
      · rw [if_pos c] at h
        cases h
        have z := StrLaws.reprText_len x (strOk_lt c)
        show (reprText x).length ≤ 12 * x.length + 2
        omega
      · rw [if_neg c] at h
        cases h
    | tup ds =>
      have h : (match mapO (rsv s n) ds with
        | some es => some (D.tup es)
        | none => none) = some e := h
      cases z : mapO (rsv s n) ds with
      | none => rw [z] at h; cases h
      | some es =>
        rw [z] at h
        cases h
        have a := all z
        have b := tupleText_len_le (PyData.shownAll (D.pds es))
        show (tupleText (PyData.shownAll (D.pds es))).length ≤ 3 + nodesL (fun d => wide n d + 2) es
        omega
    | lst ds =>
      have h : (match mapO (rsv s n) ds with
        | some es => some (D.lst es)
        | none => none) = some e := h
      cases z : mapO (rsv s n) ds with
      | none => rw [z] at h; cases h
      | some es =>
        rw [z] at h
        cases h
        have a := all z
        have b := listText_len_le (PyData.shownAll (D.pds es))
        show (listText (PyData.shownAll (D.pds es))).length ≤ 3 + nodesL (fun d => wide n d + 2) es
        omega
    | fix ds => cases h
    | clo i => cases h
    | mref i =>
      have h : (match s.get i with
        | some (.lst ds) => (match mapO (rsv s n) ds with
          | some es => some (D.lst es)
          | none => none)
        | _ => none) = some e := h
      cases q : s.get i with
      | none => rw [q] at h; cases h
      | some mo =>
        cases mo with
        | dct kvs => rw [q] at h; cases h
        | lst ds =>
          rw [q] at h
          have h : (match mapO (rsv s n) ds with
            | some es => some (D.lst es)
            | none => none) = some e := h
          cases z : mapO (rsv s n) ds with
          | none => rw [z] at h; cases h
          | some es =>
            rw [z] at h
            cases h
            have a := all z
            have b := listText_len_le (PyData.shownAll (D.pds es))
            show (listText (PyData.shownAll (D.pds es))).length ≤ 3 + nodesL (fun d => wide n d + 2) es
            omega
theorem small_show : ∀ (n : Nat) (e : D), small n e = true → e.pd.showable = true
  | 0, _, h => by cases h
  | n + 1, e, h => by
    have all : ∀ ds : List D, smallL (small n) ds = true → PyData.showableAll (D.pds ds) = true := by
      intro ds
      induction ds with
      | nil => intro _; rfl
      | cons a l ih =>
        intro q
        have q : (small n a && smallL (small n) l) = true := q
        rw [Bool.and_eq_true] at q
        show (a.pd.showable && PyData.showableAll (D.pds l)) = true
        rw [small_show n a q.1, ih q.2]
        rfl
    cases e with
    | non => rfl
    | bl b => rfl
    | int i => exact h
    | str x => rfl
    | tup ds => exact all ds h
    | lst ds => exact all ds h
    | fix ds => cases h
    | mref i => cases h
    | clo i => cases h
section
variable {X : Cx} {P : Par}
theorem cb_repr (hK : P.K = X.K) (hu : X.A.units + 65 < cLine) (hg : X.A.guards = some []) : CallR X (.builtin "repr") (rC P reprB) := by
  obtain ⟨K, cl, E, iv, TT⟩ := P
  have hK : K = X.K := hK
  subst hK
  refine callR_of rfl fun pins s σ H xs us Q I rx ds g st ab r po => ?_
  match ds, r, po with
  | [], r, po => exact po.elim
  | [d], r, po =>
    obtain ⟨v, rfl, r1⟩ := repL1 r
    obtain ⟨u, rfl, ru⟩ := vals1 rx
    have po : Post ⟨X.K, cl, E, iv, TT⟩ H g st (match rsv st deep d with
      | some e => if small deep e = true ∧ wide deep e ≤ line then .ok (.str (shown e)) st else .stuck
      | none => .stuck) fun d s' g' H' => ∀ v, Rep X.K g' s'.size v d → Q v H' := po
    cases h1 : rsv st deep d with
    | none => rw [h1] at po; exact po.elim
    | some e =>
      rw [h1] at po
      have po : Post ⟨X.K, cl, E, iv, TT⟩ H g st (if small deep e = true ∧ wide deep e ≤ line then .ok (.str (shown e)) st else .stuck) fun d s' g' H' => ∀ v, Rep X.K g' s'.size v d → Q v H' := po
      by_cases c : small deep e = true ∧ wide deep e ≤ line
      · rw [if_pos c] at po
        have z := po.here ab _ (.str _)
        have sz : e.pd.shown.length ≤ sizeLine := by
          rw [← line_eq]
          exact Nat.le_trans (shown_wide st deep h1) c.2
        have sh := small_show deep e c.1
        have sp := rsv_shaped h1
        have refs : ∀ {a : Addr}, v = .ref a → wpAny (model X.prog X.w) X.A (call (.builtin "repr") [u]) (EP X pins σ Q) X.xe s := by
          intro a hv
          obtain ⟨as, q1⟩ := reads_of I ab r1 h1 ru
          subst hv
          cases (show u = Value.ref a from ru)
          have dp := SeqAt.depth_of_shaped sp
          have hd := PyData.hasDict_of_canLay _ (SeqAt.canLay_of_shaped sp)
          refine repr_of_reads' q1 sh (fun q => by rw [hd] at q; cases q) hg (by omega) (fun _ _ q => q) (fun h' t tk k => ?_) sz
          exact ⟨.str (shown e), H, I.kept k, ⟨t, rfl⟩, z⟩
        cases d with
        | non =>
          cases r1
          cases h1
          cases (show u = Value.none from ru)
          exact P.repr_of_none ⟨.str "None", H, I.tok _, ⟨_, rfl⟩, z⟩
        | bl b =>
          cases r1
          cases h1
          cases (show u = Value.bool b from ru)
          exact P.repr_of_bool ⟨.str (shown (.bl b)), H, I.tok _, ⟨_, by cases b <;> rfl⟩, z⟩
        | int i =>
          cases r1
          cases h1
          obtain ⟨t, rfl⟩ := ru
          have c1 : i.natAbs.log2 < 1920 := by
            have q : decide (i.natAbs.log2 < 1920) = true := c.1
            simpa using q
          exact P.repr_of_int c1 ⟨.str (toString i), H, I.tok _, ⟨_, rfl⟩, z⟩
        | str x =>
          cases r1
          have h1 : (if PyData.strOk x = true then some (D.str x) else none) = some e := h1
          by_cases k : PyData.strOk x = true
          · rw [if_pos k] at h1
            cases h1
            obtain ⟨t, rfl⟩ := ru
            exact P.repr_of_str ⟨.str (reprText x), H, I.tok _, ⟨_, rfl⟩, z⟩ sz
          · rw [if_neg k] at h1
            cases h1
        | tup es =>
          cases r1 with
          | tup q t => exact refs rfl
        | lst es =>
          cases r1 with
          | lst q t => exact refs rfl
        | fix es => cases h1
        | clo i => cases h1
        | mref i =>
          cases r1 with
          | mref q => exact refs rfl
      · rw [if_neg c] at po
        exact po.elim
  | _ :: _ :: _, r, po => exact po.elim
end
end DL
set_option Elab.async false
set_option linter.all false
set_option maxRecDepth 100000
set_option maxHeartbeats 2000000
/-! The data layer, part 9: sorted. -/
namespace DL
open PySem PySem.Spec PyProof.Rows L2
section
open PySem.W PySem.Calls
variable {prog : Program} {w : World} {A : Around} {E : Value → Shared → Prop} {s : Shared}
/-- what is collected from a list, a tuple; the heap only grows -/
theorem collect_grows {it : Addr} {T : String} {o : Obj} {items : Array Value} {n : Nat} {Q : List Value → Shared → Prop} (hT : T = "list" ∨ T = "tuple") (ho : s.heap.get? it = some o) (hc : o.cls = .type T) (hd : o.data = .seq items n) (hsz : items.size ≤ sizeLine)
    (hQ : ∀ g, (∀ b u, s.heap.get? b = some u → g.get? b = some u) → s.heap.objs.size ≤ g.objs.size → Q items.toList { s with heap := g }) : wpAny (model prog w) A (collect (.ref it)) Q E s := by
  have kS : (s.heap.push (seqObj "list" #[] 0)).get? s.heap.objs.size = some (seqObj "list" #[] 0) := Heap.get?_push_size _ rfl
  have kS2 := Heap.get?_update_self (Obj.mapSeq (· ++ items)) kS rfl
  have last : wpAny (model prog w) A (do
      let o ← load s.heap.objs.size
      match o.data with
      | .seq xs _ => pure xs.toList
      | _ => unsupported "internal:collect") Q E { s with heap := (s.heap.push (seqObj "list" #[] 0)).update s.heap.objs.size (Obj.mapSeq (· ++ items)) } := by
    refine wpAny_bind (wpAny_load kS2 (wpAny_pure ?_))
    have z : Q items.toList { s with heap := (s.heap.push (seqObj "list" #[] 0)).update s.heap.objs.size (Obj.mapSeq (· ++ items)) } := by
      refine hQ _ (fun b u q => ?_) ?_
      · have lt := Heap.lt_size q
        exact (Heap.get?_update_other _ _ (Nat.ne_of_gt lt)).trans (Heap.get?_push_of_some _ q)
      · rw [Heap.size_update, Heap.size_push]
        omega
    simpa using z
  unfold collect
  refine wpAny_bind (wpAny_runValue (codeAny_builtin (F.entry_proto_collect) ?_))
  rw [Around.under_plainId (F.plain_proto_collect) _]
  show wpAny _ A.in1 (do again (.builtin "list.__iadd__" ⟨[← newList [], .ref it], []⟩)) _ _ s
  refine wpAny_bind (wpAny_newObj_type (wpAny_pure ⟨plainId_quiet (F.plain_list_iadd) _, codeAny_builtin (F.entry_list_iadd) ?_⟩))
  rw [Around.under_plainId (F.plain_list_iadd) _]
  refine wpAny_mono (wpAny_extend_seq (hsz := hsz) (A := A) (R := fun r s' => r = .ok (.ret (.ref s.heap.objs.size)) ∧ s' = { s with heap := (s.heap.push (seqObj "list" #[] 0)).update s.heap.objs.size (Obj.mapSeq (· ++ items)) })
    (s := { s with heap := s.heap.push (seqObj "list" #[] 0) }) _ it _ 0 hT kS (Heap.get?_push_of_some _ ho) hc hd ⟨rfl, rfl⟩) (fun fin s' h => ?_) (fun e s' h => absurd h.1 (by simp))
  cases fin with
  | done f =>
    obtain ⟨e, rfl⟩ := h
    cases e
    exact last
  | again c' =>
    exact ⟨h.1, codeAny_mono h.2 fun r s'' hr => by
      obtain ⟨rfl, rfl⟩ := hr
      exact last⟩
/-- sorted(v), v whatever its items are collected from -/
theorem sorted_from {β : Type} {v : Value} {vs : List Value} {bs : List β} {enc : β → PyData} {R : Value → β → Prop} {Q : Value → Shared → Prop}
    (col : ∀ (A' : Around) (Q' : List Value → Shared → Prop), (∀ h', (∀ b o, s.heap.get? b = some o → h'.get? b = some o) → s.heap.objs.size ≤ h'.objs.size → Q' vs { s with heap := h' }) → wpAny (model prog w) A' (collect v) Q' E s)
    (e : EachIs R vs bs) (er : EachIs (fun v b => ∃ as, Reads s.heap v (enc b) as) vs bs) (hal : AllAlike (bs.map enc)) (hk : Sortable (bs.map enc)) (hL : bs.length ≤ sizeLine)
    (hu : ∀ b, b ∈ bs → A.units + 2 + (enc b).depth < cLine)
    (h : ∀ out h' p n, (∀ b o, s.heap.get? b = some o → h'.get? b = some o) → s.heap.objs.size ≤ p → h'.get? p = some (seqObj "list" (List.toArray out) n) → out.length = bs.length → EachIs R out (bs.mergeSort (dataLe false enc)) → Q (.ref p) { s with heap := h' }) :
    wpAny (model prog w) A (call (.builtin "sorted") [v]) Q E s := by
  refine call_function_entry_kw (kw := []) kind_sorted plain_sorted entry_sorted (args_sorted1 _) ?_
  unfold Builtin.«sorted»
  refine wpAny_bind (m := checkCount "sorted" 1 1 _) (wpAny_pure (wpAny_bind (col _ _ fun g kg big => ?_)))
  refine wpAny_bind (wpAny_newList ?_ (by rw [e.length]; exact hL))
  have kg2 : ∀ b o, s.heap.get? b = some o → (g.push (seqObj "list" vs.toArray 0)).get? b = some o := fun b o q => Heap.get?_push_of_some _ (kg b o q)
  have at2 : (g.push (seqObj "list" vs.toArray 0)).get? g.objs.size = some (seqObj "list" vs.toArray 0) := Heap.get?_push_size _ rfl
  have er2 : EachIs (fun v b => ∃ as, Reads (sortingHeap (g.push (seqObj "list" vs.toArray 0)) g.objs.size vs) v (enc b) as) vs bs :=
    er.mono fun _ _ ⟨as, r⟩ => ⟨as, PyProof.Rows.Reads.keeps (fun b o q => sortingHeap_old (Nat.ne_of_lt (Nat.lt_of_lt_of_le (Heap.lt_size q) big)) (kg2 b o q)) r⟩
  refine wpAny_bind (wpAny_holding (wpAny_call_entry_kw (kw := []) slot_list_sort ⟨_, at2, rfl⟩ entry_list_sort ?bd (args_list_sort _)))
  case bd =>
    refine list_sort_vals (s := { s with heap := g.push (seqObj "list" vs.toArray 0) }) at2 (SortsAt.data (s := { s with heap := sortingHeap (g.push (seqObj "list" vs.toArray 0)) g.objs.size vs })
      (each_map (R := fun v d => ∃ as, Reads (sortingHeap (g.push (seqObj "list" vs.toArray 0)) g.objs.size vs) v d as) enc er2) hal hk (bound_map hu)) (by rw [e.length]; exact hL) ?_
    refine ⟨_, rfl, wpAny_pure ⟨_, rfl, ?_⟩⟩
    obtain ⟨n, hn⟩ := sortedHeap_at (vs := vs) (out := (sortVals (dataKind (sortingHeap (g.push (seqObj "list" vs.toArray 0)) g.objs.size vs) (bs.map enc)) false vs vs).toArray) at2
    refine h _ _ _ n (fun b o q => ?_) big hn ?_ (sortVals_data false e er2 hal)
    · have q1 := Heap.lt_size q
      have q2 := kg2 b o q
      have ne : b ≠ g.objs.size := Nat.ne_of_lt (Nat.lt_of_lt_of_le q1 big)
      exact (sortedHeap_old ne (Heap.lt_size q2)).trans q2
    · rw [sortVals_length false rfl]
      exact e.length
end
section
variable {X : Cx} {P : Par}
theorem pdall {es : List D} : ∀ {d : PyData}, d ∈ es.map D.pd → ∃ e ∈ es, e.pd = d := fun h => List.mem_map.mp h
theorem alike_of {es : List D} (h : alikeB es = true) : PySem.W.AllAlike (es.map D.pd) := by
  intro d hd d' hd'
  obtain ⟨a, ha, rfl⟩ := pdall hd
  obtain ⟨b, hb, rfl⟩ := pdall hd'
  unfold alikeB at h
  rw [List.all_eq_true] at h
  have z := h a ha
  rw [List.all_eq_true] at z
  exact z b hb
theorem sortable_of {es : List D} (h : sortableB es = true) : PySem.W.Sortable (es.map D.pd) := by
  unfold sortableB at h
  rw [Bool.or_eq_true, List.all_eq_true, List.all_eq_true] at h
  rcases h with h | h
  · refine .inl fun d hd => ?_
    obtain ⟨a, ha, rfl⟩ := pdall hd
    have z := h a ha
    cases a with
    | tup ds =>
      cases ds with
      | nil => cases z
      | cons x r => exact ⟨x.pd, D.pds r, rfl⟩
    | _ => cases z
  · refine .inr fun d hd => ?_
    obtain ⟨a, ha, rfl⟩ := pdall hd
    have z := h a ha
    cases a with
    | bl b => exact ⟨(fun q => nomatch q), (fun xs q => nomatch q)⟩
    | int b => exact ⟨(fun q => nomatch q), (fun xs q => nomatch q)⟩
    | str b => exact ⟨(fun q => nomatch q), (fun xs q => nomatch q)⟩
    | lst b => exact ⟨(fun q => nomatch q), (fun xs q => nomatch q)⟩
    | _ => cases z
theorem each_zip {α β γ : Type} {R : α → β × γ → Prop} : ∀ {us : List α} {vs : List β} {ds : List γ}, us.length = vs.length → vs.length = ds.length → (∀ (i : Nat) u v d, us[i]? = some u → vs[i]? = some v → ds[i]? = some d → R u (v, d)) → PySem.W.EachIs R us (vs.zip ds)
  | [], [], [], _, _, _ => .nil
  | u :: us, v :: vs, d :: ds, h1, h2, h => .cons (h 0 u v d rfl rfl rfl) (each_zip (by simpa using h1) (by simpa using h2) fun i u v d a b c => h (i + 1) u v d a b c)
  | [], _ :: _, _, h, _, _ => by simp at h
  | _ :: _, [], _, h, _, _ => by simp at h
  | _, [], _ :: _, _, h, _ => by simp at h
  | _, _ :: _, [], _, h, _ => by simp at h
theorem repL_each {K : PySem.W.Frag} {g : Gh} {n : Nat} : ∀ {zs : List (V × D)}, (∀ p ∈ zs, Rep K g n p.1 p.2) → RepL K g n (zs.map (·.1)) (zs.map (·.2))
  | [], _ => .nil
  | z :: zs, h => .cons (h z (List.mem_cons_self ..)) (repL_each fun p hp => h p (List.mem_cons_of_mem _ hp))
theorem vals_each : ∀ {us : List Value} {zs : List (V × D)}, PySem.W.EachIs (fun u (p : V × D) => RelV p.1 u) us zs → Vals (zs.map (·.1)) us
  | _, _, .nil => .nil
  | _, _, .cons h t => .cons h (vals_each t)
theorem zip_fst {α β : Type} : ∀ {vs : List α} {ds : List β}, vs.length = ds.length → (vs.zip ds).map (·.1) = vs
  | [], [], _ => rfl
  | v :: vs, d :: ds, h => by
    rw [List.zip_cons_cons, List.map_cons, zip_fst (by simpa using h)]
  | [], _ :: _, h => by simp at h
  | _ :: _, [], h => by simp at h
theorem zip_snd {α β : Type} : ∀ {vs : List α} {ds : List β}, vs.length = ds.length → (vs.zip ds).map (·.2) = ds
  | [], [], _ => rfl
  | v :: vs, d :: ds, h => by
    rw [List.zip_cons_cons, List.map_cons, zip_snd (by simpa using h)]
  | [], _ :: _, h => by simp at h
  | _ :: _, [], h => by simp at h
theorem cbN_sorted (hK : P.K = X.K) (hu : X.A.units + 80 < cLine) : CallR X (.builtin "sorted") (rCN P sortedN) := by
  obtain ⟨K, cl, E, iv, TT⟩ := P
  have hK : K = X.K := hK
  subst hK
  refine callN_of rfl fun pins s σ H xs us Q I rx ds g st ab r po => ?_
  match ds, r, po with
  | [], r, po => exact po.elim
  | [d], r, po =>
    obtain ⟨v, rfl, r1⟩ := repL1 r
    obtain ⟨u, rfl, ru⟩ := vals1 rx
    have po : Post ⟨X.K, cl, E, iv, TT⟩ H g st (match seqOf st d with
      | some xs => if D.plains xs = true ∧ (mapO (rsv st deep) xs).isSome = true ∧ alikeB xs = true ∧ sortableB xs = true then .ok (xs.mergeSort dle) st else .stuck
      | none => .stuck) fun es s' g' H' => ∀ p ys, H' p = none → RepL X.K g' s'.size ys es → Q (.ref p) (upd H' p (.lst ys)) := po
    cases h1 : seqOf st d with
    | none => rw [h1] at po; exact po.elim
    | some es =>
      rw [h1] at po
      have po : Post ⟨X.K, cl, E, iv, TT⟩ H g st (if D.plains es = true ∧ (mapO (rsv st deep) es).isSome = true ∧ alikeB es = true ∧ sortableB es = true then .ok (es.mergeSort dle) st else .stuck) fun es s' g' H' => ∀ p ys, H' p = none → RepL X.K g' s'.size ys es → Q (.ref p) (upd H' p (.lst ys)) := po
      by_cases c : D.plains es = true ∧ (mapO (rsv st deep) es).isSome = true ∧ alikeB es = true ∧ sortableB es = true
      · rw [if_pos c] at po
        obtain ⟨c1, c2, c3, c4⟩ := c
        obtain ⟨fs, hf⟩ := Option.isSome_iff_exists.mp c2
        obtain ⟨a, vs, rfl, ha, t⟩ := seq_at ab r1 h1
        have hp : ∀ e ∈ es, e.plain = true := by
          have gen : ∀ l : List D, D.plains l = true → ∀ e ∈ l, e.plain = true := by
            intro l
            induction l with
            | nil => intro _ e h; cases h
            | cons x r ih =>
              intro hp e he
              have hp : (x.plain && D.plains r) = true := hp
              rw [Bool.and_eq_true] at hp
              rcases List.mem_cons.mp he with rfl | he
              · exact hp.1
              · exact ih hp.2 e he
          exact gen es c1
        have rsvd : ∀ e ∈ es, rsv st deep e = some e := fun e he => by
          obtain ⟨b, hb⟩ := mapO_mem hf e he
          rw [plain_rsv st deep (hp e he) hb] at hb
          exact hb
        have hlen := t.length
        have main : ∀ (its : List Value) (o : Obj) (T : String) (n : Nat), (T = "list" ∨ T = "tuple") → s.heap.get? a = some o → o.cls = .type T → o.data = .seq its.toArray n → Vals vs its → vs.length ≤ sizeLine → wpAny (model X.prog X.w) X.A (call (.builtin "sorted") [.ref a]) (EP X pins σ Q) X.xe s := by
          intro its o T n hT ho hc hd rv hz
          have il := rv.length
          have ea : PySem.W.EachIs (fun u (p : V × D) => RelV p.1 u ∧ Rep X.K g st.size p.1 p.2 ∧ p.2 ∈ es) its (vs.zip es) := by
            refine each_zip il.symm hlen fun i u v d a1 a2 a3 => ?_
            obtain ⟨v', b1, b2⟩ := t.get a3
            rw [a2] at b1
            cases b1
            obtain ⟨u', b3, b4⟩ := rv.get a2
            rw [a1] at b3
            cases b3
            exact ⟨b4, b2, List.mem_of_getElem? a3⟩
          have zl : (vs.zip es).length = es.length := by rw [List.length_zip]; omega
          have em : (vs.zip es).map (fun p => p.2.pd) = es.map D.pd := by
            have q := congrArg (List.map D.pd) (zip_snd hlen)
            rw [List.map_map] at q
            exact q
          refine sorted_from (bs := vs.zip es) (enc := fun p => p.2.pd) (R := fun u (p : V × D) => RelV p.1 u ∧ Rep X.K g st.size p.1 p.2 ∧ p.2 ∈ es) ?g1 ea ?g2 (by rw [em]; exact alike_of c3) (by rw [em]; exact sortable_of c4) (by rw [zl, ← hlen]; exact hz) ?g3 ?g4
          case g1 =>
            intro A' Q' hq
            refine collect_grows hT ho hc hd (by rw [List.size_toArray, ← il]; exact hz) fun g' k1 k2 => ?_
            have z := hq g' k1 k2
            simpa using z
          case g2 =>
            refine ea.mono fun u p h => ?_
            obtain ⟨q1, q2, q3⟩ := h
            exact Dp.reads I p.2.pd p.1 u (dp_of ab deep q2 (rsvd _ q3)) q1
          case g3 =>
            intro p hp
            have q3 : p.2 ∈ es := (List.of_mem_zip hp).2
            have q := SeqAt.depth_of_shaped (rsv_shaped (rsvd _ q3))
            omega
          case g4 =>
            intro out h' p n' k big hat hl hs
            have hn : H p = none := I.hok.fresh big
            have srt : ((vs.zip es).mergeSort (PySem.W.dataLe false fun p => p.2.pd)).map (·.2) = es.mergeSort dle := by
              have q := PySem.W.sort_maps (r := PySem.W.dataLe false fun p : V × D => p.2.pd) (s := dle) (fun p : V × D => p.2) (l := vs.zip es) fun a _ b _ => rfl
              rw [q, zip_snd hlen]
            have rl : RepL X.K g st.size (((vs.zip es).mergeSort (PySem.W.dataLe false fun p => p.2.pd)).map (·.1)) (es.mergeSort dle) := by
              rw [← srt]
              refine repL_each fun q hq => ?_
              have hq : q ∈ vs.zip es := (List.mergeSort_perm _ _).mem_iff.mp hq
              obtain ⟨i, hi⟩ := List.getElem?_of_mem hq
              rw [List.getElem?_zip_eq_some] at hi
              obtain ⟨v', b1, b2⟩ := t.get hi.2
              rw [hi.1] at b1
              cases b1
              exact b2
            have vl := vals_each (hs.mono fun u q hq => hq.1)
            have ln : (((vs.zip es).mergeSort (PySem.W.dataLe false fun p => p.2.pd)).map (·.1)).length ≤ sizeLine := by
              rw [List.length_map, List.length_mergeSort, zl, ← hlen]
              exact hz
            refine ⟨.ref p, upd H p (.lst (((vs.zip es).mergeSort (PySem.W.dataLe false fun p => p.2.pd)).map (·.1))), I.laid (t' := s.toks) k big ⟨ln, out, n', vl, hat⟩, rfl, ?_⟩
            exact po.here ab p _ hn rl
        cases (show u = Value.ref a from ru)
        rcases ha with ha | ha
        · obtain ⟨its, q1, ⟨o, n, q2, q3, q4, q5⟩, q6⟩ := I.list ha
          exact main its o "list" n (.inl rfl) q2 q3 q5 q1 q6
        · obtain ⟨its, q1, ⟨o, q2, q3, q4⟩, q6⟩ := I.tuple ha
          obtain ⟨n, q4⟩ := q4
          exact main its o "tuple" n (.inr rfl) q2 q3 q4 q1 q6
      · rw [if_neg c] at po
        exact po.elim
  | _ :: _ :: _, r, po => exact po.elim
theorem cb_sorted (hK : P.K = X.K) (hu : X.A.units + 80 < cLine) : CallR X (.builtin "sorted") (rC P sortedB) := cb_lay (cbN_sorted hK hu)
end
end DL
set_option Elab.async false
set_option linter.all false
set_option maxRecDepth 100000
set_option maxHeartbeats 2000000
/-! The data layer, part 10: expressions. -/
namespace L2
open PySem
theorem PE.ofD {X : Cx} {e : Expr} {t t' : TE} (h : PE X e t) (i : ∀ σ H Q, t' σ H Q → t σ H Q) : PE X e t' := DL.PE.of h i
theorem PT.ofD {X : Cx} {e : Expr} {t t' : TT} (h : PT X e t) (i : ∀ σ H Q, t' σ H Q → t σ H Q) : PT X e t' := DL.PT.of h i
theorem PA.ofD {X : Cx} {es : List Expr} {t t' : TA} (h : PA X es t) (i : ∀ σ H Q, t' σ H Q → t σ H Q) : PA X es t' := DL.PA.of h i
theorem PS.ofD {X : Cx} {st : Stmt} {t t' : TS} (h : PS X st t) (i : ∀ D σ H, t' D σ H → t D σ H) : PS X st t' := DL.PS.of h i
theorem PSs.ofD {X : Cx} {st : List Stmt} {t t' : TS} (h : PSs X st t) (i : ∀ D σ H, t' D σ H → t D σ H) : PSs X st t' := DL.PSs.of h i
end L2
namespace DL
open PySem PySem.Spec PyProof.Rows L2
section
variable {X : Cx} {P : Par} {a b c e : Expr} {pos : Pos} {fa fb fc : Rho → S → Res D} {ft : Rho → S → Res Bool}
theorem tR_bind {f : Rho → S → Res D} {k : Rho → D → S → Res D} {σ : L2.St} {H : Hp} {Q : VK} {R : V → Hp → Prop} (h : tR P (fun ρ s => (f ρ s).bind (k ρ)) σ H Q)
    (n : ∀ v H1 ρ d g1 s1, AbsS P.K g1 H1 s1 → EnvOk P g1 s1.size σ ρ → Rep P.K g1 s1.size v d → (Post P H1 g1 s1 (k ρ d s1) fun d s' g' H' => ∀ v, Rep P.K g' s'.size v d → Q v H') → R v H1) : tR P f σ H R := by
  obtain ⟨ρ, g, s, ab, en, po⟩ := h
  exact ⟨ρ, g, s, ab, en, po.bind.imp fun d s1 g1 H1 e1 ab1 p1 v rv => n v H1 ρ d g1 s1 ab1 (en.ext e1) rv p1⟩
theorem se_stuck : PE X e (tR P fun _ _ => .stuck) := ⟨fun pins s σ H Q I h => by
  obtain ⟨_, _, _, _, _, po⟩ := h
  exact po.elim⟩
theorem st_stuck : PT X e (tRT P fun _ _ => .stuck) := ⟨fun pins s σ H Q I h => by
  obtain ⟨_, _, _, _, _, po⟩ := h
  exact po.elim⟩
theorem se_const {k : Const} {j : Nat} : PE X (.Constant k j pos) (tR P fun _ s => evConst k s) := by
  cases k with
  | none => exact pe_non.ofD fun σ H Q ⟨ρ, g, s, ab, en, po⟩ => po.here ab _ .non
  | bool b => exact pe_bl.ofD fun σ H Q ⟨ρ, g, s, ab, en, po⟩ => po.here ab _ (.bl b)
  | int i => exact pe_int.ofD fun σ H Q ⟨ρ, g, s, ab, en, po⟩ => po.here ab _ (.int i)
  | str x => exact pe_str.ofD fun σ H Q ⟨ρ, g, s, ab, en, po⟩ => po.here ab _ (.str x)
  | _ => exact se_stuck
theorem se_loc {i : Nat} {x : Str} (hN : X.N[i]? = some x) (hv : Vis X.env.scope x) (hd : (x == ("__debug__" : Str)) = false) (hcd : (x == ("__classdict__" : Str)) = false) :
    PE X (.Name x pos) (tR P fun ρ s => match rget ρ i with
      | some d => .ok d s
      | none => .stuck) := (pe_var hN hv hd hcd).ofD fun σ H Q ⟨ρ, g, s, ab, en, po⟩ => by
  dsimp only at po
  cases h : rget ρ i with
  | none => rw [h] at po; exact po.elim
  | some d =>
    rw [h] at po
    obtain ⟨v, h1, h2⟩ := en.at_ i d h
    exact ⟨v, h1, po.here ab _ h2⟩
theorem se_bin {op : Operator} {r : D → D → S → Res D} (ho : OpR X (binaryOp op) (rD P r)) (ha : PE X a (tR P fa)) (hb : PE X b (tR P fb)) :
    PE X (.BinOp a op b pos) (tR P fun ρ s => (fa ρ s).bind fun x s => (fb ρ s).bind fun y s => r x y s) := (pe_op ho ha hb).ofD fun σ H Q h =>
  tR_bind h fun v H1 ρ d g1 s1 ab1 en1 rv p1 => ⟨ρ, g1, s1, ab1, en1, p1.bind.imp fun d2 s2 g2 H2 e2 ab2 p2 u ru => ⟨d, d2, g2, s2, ab2, e2.rep rv, ru, p2⟩⟩
theorem se_cmp1 {op : CmpOp} {r : D → D → S → Res D} (ho : OpR X (compareOp op) (rD P r)) (hm : behindInMarks op b = false) (ha : PE X a (tR P fa)) (hb : PE X b (tR P fb)) :
    PE X (.Compare a [op] [b] pos) (tR P fun ρ s => (fa ρ s).bind fun x s => (fb ρ s).bind fun y s => r x y s) := (pe_cmpR ho ha hb hm).ofD fun σ H Q h =>
  tR_bind h fun v H1 ρ d g1 s1 ab1 en1 rv p1 => ⟨ρ, g1, s1, ab1, en1, p1.bind.imp fun d2 s2 g2 H2 e2 ab2 p2 u ru => ⟨d, d2, g2, s2, ab2, e2.rep rv, ru, p2⟩⟩
theorem toB_post {H : Hp} {g : Gh} {s : S} {d : D} {Q : Bool → Hp → Prop} {v : V} (ab : AbsS P.K g H s) (r : Rep P.K g s.size v d) (po : Post P H g s (toB d s) fun b s' g' H' => Q b H') : ∃ k, v = .bl k ∧ Q k H := by
  cases r with
  | bl b => exact ⟨b, rfl, po.here ab⟩
  | _ => exact po.elim
theorem tR_of_T {f : Rho → S → Res D} {k : D → S → Res Bool} {σ : L2.St} {H : Hp} {Q : Bool → Hp → Prop} {R : V → Hp → Prop} (h : tRT P (fun ρ s => (f ρ s).bind k) σ H Q)
    (n : ∀ v H1 ρ d g1 s1, AbsS P.K g1 H1 s1 → EnvOk P g1 s1.size σ ρ → Rep P.K g1 s1.size v d → (Post P H1 g1 s1 (k d s1) fun b s' g' H' => Q b H') → R v H1) : tR P f σ H R := by
  obtain ⟨ρ, g, s, ab, en, po⟩ := h
  exact ⟨ρ, g, s, ab, en, po.bind.imp fun d s1 g1 H1 e1 ab1 p1 v rv => n v H1 ρ d g1 s1 ab1 (en.ext e1) rv p1⟩
theorem st_cmp1 {op : CmpOp} {r : D → D → S → Res D} (ho : OpR X (compareOp op) (rD P r)) (hm : behindInMarks op b = false) (ha : PE X a (tR P fa)) (hb : PE X b (tR P fb)) :
    PT X (.Compare a [op] [b] pos) (tRT P fun ρ s => ((fa ρ s).bind fun x s => (fb ρ s).bind fun y s => r x y s).bind toB) := (pt_cmpR ho ha hb hm).ofD fun σ H Q h => by
  obtain ⟨ρ, g, s, ab, en, po⟩ := h
  refine ⟨ρ, g, s, ab, en, (po.bind.bind).imp fun d s1 g1 H1 e1 ab1 p1 v rv => ⟨ρ, g1, s1, ab1, en.ext e1, p1.bind.imp fun d2 s2 g2 H2 e2 ab2 p2 u ru => ⟨d, d2, g2, s2, ab2, e2.rep rv, ru, p2.imp fun d3 s3 g3 H3 e3 ab3 p3 w rw' => ?_⟩⟩⟩
  exact toB_post ab3 rw' p3
theorem chain_in {r r' : D → D → S → Res D} {σ : L2.St} {H2 : Hp} {ρ : Rho} {g2 : Gh} {s2 : S} {d d2 : D} {v u : V} {Q : VK} (ab2 : AbsS P.K g2 H2 s2) (en2 : EnvOk P g2 s2.size σ ρ) (rv : Rep P.K g2 s2.size v d) (ru : Rep P.K g2 s2.size u d2)
    (p2 : Post P H2 g2 s2 ((r d d2 s2).bind fun z s => match z with
      | .bl k => (match k with
        | true => (fc ρ s).bind fun w s => r' d2 w s
        | false => .ok (.bl false) s)
      | _ => .stuck) fun d s' g' H' => ∀ v, Rep P.K g' s'.size v d → Q v H') :
    rD P r v u H2 fun z H3 => ∃ k, z = .bl k ∧ (if k = true then tR P fc σ H3 fun w' H4 => rD P r' u w' H4 Q else Q (.bl false) H3) := by
  refine ⟨d, d2, g2, s2, ab2, rv, ru, p2.bind.imp fun d3 s3 g3 H3 e3 ab3 p3 w rw' => ?_⟩
  cases rw' with
  | bl k =>
    refine ⟨k, rfl, ?_⟩
    cases k with
    | true =>
      refine iteT ⟨ρ, g3, s3, ab3, en2.ext e3, ?_⟩
      have p3 : Post P H3 g3 s3 ((fc ρ s3).bind fun w s => r' d2 w s) fun d s' g' H' => ∀ v, Rep P.K g' s'.size v d → Q v H' := p3
      exact p3.bind.imp fun d4 s4 g4 H4 e4 ab4 p4 x rx => ⟨d2, d4, g4, s4, ab4, e4.rep (e3.rep ru), rx, p4⟩
    | false =>
      refine iteF ?_
      have p3 : Post P H3 g3 s3 (.ok (.bl false) s3) fun d s' g' H' => ∀ v, Rep P.K g' s'.size v d → Q v H' := p3
      exact p3.here ab3 _ (.bl _)
  | _ => exact p3.elim
theorem se_cmp2 {op op' : CmpOp} {r r' : D → D → S → Res D} (ho : OpR X (compareOp op) (rD P r)) (ho' : OpR X (compareOp op') (rD P r')) (hm : lastMarks [op, op'] [b, c] = false) (ha : PE X a (tR P fa)) (hb : PE X b (tR P fb)) (hc : PE X c (tR P fc)) :
    PE X (.Compare a [op, op'] [b, c] pos) (tR P fun ρ s => (fa ρ s).bind fun x s => (fb ρ s).bind fun y s => (r x y s).bind fun z s => match z with
      | .bl k => (match k with
        | true => (fc ρ s).bind fun w s => r' y w s
        | false => .ok (.bl false) s)
      | _ => .stuck) := (pe_chain ho ho' ha hb hc hm).ofD fun σ H Q h =>
  tR_bind h fun v H1 ρ d g1 s1 ab1 en1 rv p1 => ⟨ρ, g1, s1, ab1, en1, p1.bind.imp fun d2 s2 g2 H2 e2 ab2 p2 u ru => chain_in ab2 (en1.ext e2) (e2.rep rv) ru p2⟩
theorem bind_assoc {α β γ : Type} (r : Res α) (f : α → S → Res β) (k : β → S → Res γ) : (r.bind f).bind k = r.bind fun a s => (f a s).bind k := by cases r <;> rfl
theorem st_cmp2 {op op' : CmpOp} {r r' : D → D → S → Res D} (ho : OpR X (compareOp op) (rD P r)) (ho' : OpR X (compareOp op') (rD P r')) (hm : lastMarks [op, op'] [b, c] = false) (ha : PE X a (tR P fa)) (hb : PE X b (tR P fb)) (hc : PE X c (tR P fc)) :
    PT X (.Compare a [op, op'] [b, c] pos) (tRT P fun ρ s => ((fa ρ s).bind fun x s => (fb ρ s).bind fun y s => (r x y s).bind fun z s => match z with
      | .bl k => (match k with
        | true => (fc ρ s).bind fun w s => r' y w s
        | false => .ok (.bl false) s)
      | _ => .stuck).bind toB) := (pt_chain ho ho' ha hb hc hm).ofD fun σ H Q h => by
  obtain ⟨ρ, g, s, ab, en, po⟩ := h
  refine ⟨ρ, g, s, ab, en, (po.bind.bind).imp fun d s1 g1 H1 e1 ab1 p1 v rv => ⟨ρ, g1, s1, ab1, en.ext e1, p1.bind.imp fun d2 s2 g2 H2 e2 ab2 p2 u ru => chain_in ab2 ((en.ext e1).ext e2) (e2.rep rv) ru (p2.imp fun d3 s3 g3 H3 e3 ab3 p3 w rw' => ?_)⟩⟩
  exact toB_post ab3 rw' p3
theorem un_negD (hK : P.K = X.K) : UnR X (unaryOp .USub) (rU1 P negD) := by
  intro pins s σ H x v Q I rx q
  obtain ⟨d, g, st, ab, r, po⟩ := q
  cases r with
  | int i => exact un_neg pins s σ H _ v Q I rx ⟨i, rfl, po.here ab _ (.int _)⟩
  | _ => exact po.elim
theorem se_neg (hK : P.K = X.K) (ha : PE X a (tR P fa)) : PE X (.UnaryOp .USub a pos) (tR P fun ρ s => (fa ρ s).bind fun x s => negD x s) := (pe_un (un_negD hK) ha).ofD fun σ H Q h =>
  tR_bind h fun v H1 ρ d g1 s1 ab1 en1 rv p1 => ⟨d, g1, s1, ab1, rv, p1⟩
theorem truth_post {H : Hp} {g : Gh} {s : S} {d : D} {Q : Bool → Hp → Prop} {v : V} (ab : AbsS P.K g H s) (r : Rep P.K g s.size v d) (po : Post P H g s (evTruth d s) fun b s' g' H' => Q b H') : ∃ k, TruV P.K v H k ∧ Q k H := by
  unfold evTruth at po
  cases h : truth d s with
  | none => rw [h] at po; exact po.elim
  | some b =>
    rw [h] at po
    exact ⟨b, tru_of ab r h, po.here ab⟩
theorem se_not (hK : P.K = X.K) (ha : PE X a (tR P fa)) : PE X (.UnaryOp .Not a pos) (tR P fun ρ s => (fa ρ s).bind fun x s => (evTruth x s).bind fun b s => .ok (.bl !b) s) := (pe_notT ha).ofD fun σ H Q h =>
  tR_bind h fun v H1 ρ d g1 s1 ab1 en1 rv p1 => by
    obtain ⟨k, h1, h2⟩ := truth_post ab1 rv (p1.bind.imp fun b s2 g2 H2 e2 ab2 p2 => (p2.here ab2 _ (.bl _) : Q (.bl !b) H2))
    rw [hK] at h1
    exact ⟨k, h1, h2⟩
theorem st_not {ft : Rho → S → Res Bool} (ha : PT X a (tRT P ft)) : PT X (.UnaryOp .Not a pos) (tRT P fun ρ s => (ft ρ s).bind fun b s => .ok (!b) s) := (pt_not ha).ofD fun σ H Q h => by
  obtain ⟨ρ, g, s, ab, en, po⟩ := h
  exact ⟨ρ, g, s, ab, en, po.bind.imp fun b s1 g1 H1 e1 ab1 p1 => p1.here ab1⟩
/-- a test by truth -/
theorem st_truth (hK : P.K = X.K) (ha : PE X a (tR P fa)) (he : ∀ whole, isTrue a X.env whole = (do let v ← whole; standAt a.pos; holding [v] (truthy v))) : PT X a (tRT P fun ρ s => (fa ρ s).bind evTruth) := (pt_truth ha he).ofD fun σ H Q h => by
  obtain ⟨ρ, g, s, ab, en, po⟩ := h
  refine ⟨ρ, g, s, ab, en, po.bind.imp fun d s1 g1 H1 e1 ab1 p1 v rv => ?_⟩
  obtain ⟨k, h1, h2⟩ := truth_post ab1 rv p1
  rw [hK] at h1
  exact ⟨k, h1, h2⟩
theorem se_if {ft : Rho → S → Res Bool} (ht : PT X c (tRT P ft)) (ha : PE X a (tR P fa)) (hb : PE X b (tR P fb)) : PE X (.IfExp c a b pos) (tR P fun ρ s => (ft ρ s).bind fun q s => match q with
    | true => fa ρ s
    | false => fb ρ s) := (pe_ifExp ht ha hb).ofD fun σ H Q h => by
  obtain ⟨ρ, g, s, ab, en, po⟩ := h
  refine ⟨ρ, g, s, ab, en, po.bind.imp fun q s1 g1 H1 e1 ab1 p1 => ?_⟩
  cases q with
  | true => exact iteT ⟨ρ, g1, s1, ab1, en.ext e1, p1⟩
  | false => exact iteF ⟨ρ, g1, s1, ab1, en.ext e1, p1⟩
/-- and, or as values -/
theorem se_and {E : Expr → Rho → S → Res D} : ∀ {es : List Expr}, (∀ e ∈ es, PE X e (tR P (E e))) → PE X (.BoolOp .And es pos) (tR P (evAnd E es))
  | [], _ => se_stuck
  | [e], h => pe_one (h e (List.mem_cons_self ..))
  | e :: e2 :: r, h => (pe_and (h e (List.mem_cons_self ..)) (se_and fun x hx => h x (List.mem_cons_of_mem _ hx))).ofD fun σ H Q q =>
    tR_bind (k := fun ρ d s => match d with
      | .bl true => evAnd E (e2 :: r) ρ s
      | .bl false => .ok (.bl false) s
      | _ => .stuck) q fun v H1 ρ d g1 s1 ab1 en1 rv p1 => by
      cases rv with
      | bl k =>
        refine ⟨k, rfl, ?_⟩
        cases k with
        | true => exact iteT ⟨ρ, g1, s1, ab1, en1, p1⟩
        | false => exact iteF (p1.here ab1 _ (.bl _))
      | _ => exact p1.elim
theorem se_or {E : Expr → Rho → S → Res D} : ∀ {es : List Expr}, (∀ e ∈ es, PE X e (tR P (E e))) → PE X (.BoolOp .Or es pos) (tR P (evOr E es))
  | [], _ => se_stuck
  | [e], h => pe_one (h e (List.mem_cons_self ..))
  | e :: e2 :: r, h => (pe_or (h e (List.mem_cons_self ..)) (se_or fun x hx => h x (List.mem_cons_of_mem _ hx))).ofD fun σ H Q q =>
    tR_bind (k := fun ρ d s => match d with
      | .bl true => .ok (.bl true) s
      | .bl false => evOr E (e2 :: r) ρ s
      | _ => .stuck) q fun v H1 ρ d g1 s1 ab1 en1 rv p1 => by
      cases rv with
      | bl k =>
        refine ⟨k, rfl, ?_⟩
        cases k with
        | true => exact iteT (p1.here ab1 _ (.bl _))
        | false => exact iteF ⟨ρ, g1, s1, ab1, en1, p1⟩
      | _ => exact p1.elim
theorem sw_and {T : Expr → Rho → S → Res Bool} : ∀ {es : List Expr}, es ≠ [] → (∀ e ∈ es, PT X e (tRT P (T e))) → PW X (.BoolOp .And es pos) (tRT P (evAndT T es))
  | [], h, _ => absurd rfl h
  | [e], _, h => pw_and1 (h e (List.mem_cons_self ..))
  | e :: e2 :: r, _, h => ⟨fun whole pins s σ H Q I q => (pw_and (h e (List.mem_cons_self ..)) (sw_and (List.cons_ne_nil _ _) fun x hx => h x (List.mem_cons_of_mem _ hx))).run whole pins s σ H Q I (by
    obtain ⟨ρ, g, st, ab, en, po⟩ := q
    refine ⟨ρ, g, st, ab, en, (Post.bind (f := fun b s => match b with
      | true => evAndT T (e2 :: r) ρ s
      | false => .ok false s) po).imp fun b s1 g1 H1 e1 ab1 p1 => ?_⟩
    cases b with
    | true => exact iteT ⟨ρ, g1, s1, ab1, en.ext e1, p1⟩
    | false => exact iteF (p1.here ab1))⟩
theorem sw_or {T : Expr → Rho → S → Res Bool} : ∀ {es : List Expr}, es ≠ [] → (∀ e ∈ es, PT X e (tRT P (T e))) → PW X (.BoolOp .Or es pos) (tRT P (evOrT T es))
  | [], h, _ => absurd rfl h
  | [e], _, h => pw_or1 (h e (List.mem_cons_self ..))
  | e :: e2 :: r, _, h => ⟨fun whole pins s σ H Q I q => (pw_or (h e (List.mem_cons_self ..)) (sw_or (List.cons_ne_nil _ _) fun x hx => h x (List.mem_cons_of_mem _ hx))).run whole pins s σ H Q I (by
    obtain ⟨ρ, g, st, ab, en, po⟩ := q
    refine ⟨ρ, g, st, ab, en, (Post.bind (f := fun b s => match b with
      | true => .ok true s
      | false => evOrT T (e2 :: r) ρ s) po).imp fun b s1 g1 H1 e1 ab1 p1 => ?_⟩
    cases b with
    | true => exact iteT (p1.here ab1)
    | false => exact iteF ⟨ρ, g1, s1, ab1, en.ext e1, p1⟩)⟩
/-- arguments -/
theorem sa_args {E : Expr → Rho → S → Res D} : ∀ {es : List Expr}, (∀ e ∈ es, PE X e (tR P (E e))) → (∀ e es', e ∈ es → starEach (e :: es') X.env = (false, eval e X.env) :: starEach es' X.env) → PA X es (tRA P (evArgs E es))
  | [], _, _ => pa_nil.ofD fun σ H Q ⟨ρ, g, s, ab, en, po⟩ => po.here ab _ .nil
  | e :: r, h, hs => (pa_cons (h e (List.mem_cons_self ..)) (sa_args (fun x hx => h x (List.mem_cons_of_mem _ hx)) fun x es' hx => hs x es' (List.mem_cons_of_mem _ hx)) (hs e r (List.mem_cons_self ..))).ofD fun σ H Q ⟨ρ, g, s, ab, en, po⟩ =>
    ⟨ρ, g, s, ab, en, (Post.bind (f := fun d s => (evArgs E r ρ s).bind fun ds s => .ok (d :: ds) s) po).imp fun d s1 g1 H1 e1 ab1 p1 v rv =>
      ⟨ρ, g1, s1, ab1, en.ext e1, p1.bind.imp fun ds s2 g2 H2 e2 ab2 p2 vs rvs => p2.here ab2 _ (.cons (e2.rep rv) rvs)⟩⟩
theorem len_args {E : Expr → Rho → S → Res D} : ∀ {es : List Expr} {ρ : Rho} {s s' : S} {ds : List D}, evArgs E es ρ s = .ok ds s' → ds.length = es.length
  | [], _, _, _, _, h => by
    cases h
    rfl
  | e :: r, ρ, s, s', ds, h => by
    have h : (E e ρ s).bind (fun d s => (evArgs E r ρ s).bind fun ds s => .ok (d :: ds) s) = .ok ds s' := h
    cases q : E e ρ s with
    | stuck => rw [q] at h; cases h
    | err x t => rw [q] at h; cases h
    | ok d t =>
      rw [q] at h
      have h : (evArgs E r ρ t).bind (fun ds s => .ok (d :: ds) s) = .ok ds s' := h
      cases z : evArgs E r ρ t with
      | stuck => rw [z] at h; cases h
      | err x t2 => rw [z] at h; cases h
      | ok fs t2 =>
        rw [z] at h
        cases h
        rw [List.length_cons, List.length_cons, len_args z]
theorem post_ok {α : Type} {H : Hp} {g : Gh} {s : S} {r : Res α} {k : α → S → Gh → Hp → Prop} (h : Post P H g s r k) : Post P H g s r fun a s' g' H' => r = .ok a s' ∧ k a s' g' H' := by
  cases r with
  | ok a s' => exact fun g' H' e ab => ⟨rfl, h g' H' e ab⟩
  | err x s' => exact h
  | stuck => exact h
theorem se_tup {E : Expr → Rho → S → Res D} {es : List Expr} {x1 : Nat} (h : PA X es (tRA P (evArgs E es))) (hl : es.length ≤ line) : PE X (.Tuple es x1 pos) (tR P fun ρ s => (evArgs E es ρ s).bind fun ds s => .ok (.tup ds) s) := (pe_tup h).ofD fun σ H Q ⟨ρ, g, s, ab, en, po⟩ =>
  ⟨ρ, g, s, ab, en, (post_ok po.bind).imp fun ds s1 g1 H1 e1 ab1 p1 vs rvs => ⟨by rw [rvs.length, len_args p1.1, ← line_eq]; exact hl, fun p hp => p1.2 _ _ (ext_lay ab1 hp _) (abs_lay ab1 hp _) _ (rep_tup ab1 hp rvs)⟩⟩
theorem se_lst {E : Expr → Rho → S → Res D} {es : List Expr} (h : PA X es (tRA P (evArgs E es))) (hl : es.length ≤ line) : PE X (.List es pos) (tR P fun ρ s => (evArgs E es ρ s).bind fun ds s => .ok (.lst ds) s) := (pe_lst h).ofD fun σ H Q ⟨ρ, g, s, ab, en, po⟩ =>
  ⟨ρ, g, s, ab, en, (post_ok po.bind).imp fun ds s1 g1 H1 e1 ab1 p1 vs rvs => ⟨by rw [rvs.length, len_args p1.1, ← line_eq]; exact hl, fun p hp => p1.2 _ _ (ext_lay ab1 hp _) (abs_lay ab1 hp _) _ (rep_lst ab1 hp rvs)⟩⟩
theorem se_ix (hK : P.K = X.K) (hs : PlainIx b) (ha : PE X a (tR P fa)) (hb : PE X b (tR P fb)) : PE X (.Subscript a b pos) (tR P fun ρ s => (fa ρ s).bind fun x s => (fb ρ s).bind fun y s => getD x y s) := (pe_ix (ix_getD hK) ha hb hs).ofD fun σ H Q h =>
  tR_bind h fun v H1 ρ d g1 s1 ab1 en1 rv p1 => ⟨ρ, g1, s1, ab1, en1, p1.bind.imp fun d2 s2 g2 H2 e2 ab2 p2 u ru => ⟨d, d2, g2, s2, ab2, e2.rep rv, ru, p2⟩⟩
/-- a part of a slice -/
def tRO (P : Par) (f : Rho → S → Res (Option Int)) : TO := fun σ H Q => ∃ ρ g s, AbsS P.K g H s ∧ EnvOk P g s.size σ ρ ∧ Post P H g s (f ρ s) fun o s' g' H' => Q o H'
theorem POof {e : Option Expr} {t t' : TO} (h : PO X e t) (i : ∀ σ H Q, t' σ H Q → t σ H Q) : PO X e t' := ⟨fun pins s σ H Q I q => h.run pins s σ H Q I (i σ H Q q)⟩
theorem so_part {v : Ev} {o : Option Expr} (h : ∀ e, o = some e → PE X e (tR P (v.E e))) : PO X o (tRO P (evOpt v o)) := by
  cases o with
  | none => exact POof po_none fun σ H Q ⟨ρ, g, s, ab, en, po⟩ => Post.here po ab
  | some e =>
    refine POof (po_some (h e rfl)) fun σ H Q ⟨ρ, g, s, ab, en, po⟩ => ⟨ρ, g, s, ab, en, (Post.bind (f := fun d s => match d with
      | .int i => .ok (some i) s
      | _ => .stuck) po).imp fun d s1 g1 H1 e1 ab1 p1 u ru => ?_⟩
    cases ru with
    | int i => exact ⟨i, rfl, Post.here p1 ab1⟩
    | _ => exact p1.elim
theorem se_cut (hK : P.K = X.K) {v : Ev} {lo hi : Option Expr} {p2 : Pos} (ha : PE X a (tR P fa)) (hl : PO X lo (tRO P (evOpt v lo))) (hh : PO X hi (tRO P (evOpt v hi))) :
    PE X (.Subscript a (.Slice lo hi none p2) pos) (tR P fun ρ s => (fa ρ s).bind fun x s => (evOpt v lo ρ s).bind fun i s => (evOpt v hi ρ s).bind fun j s => cutD x i j s) := (pe_slice (sl_cutD hK) ha hl hh).ofD fun σ H Q h =>
  tR_bind h fun v H1 ρ d g1 s1 ab1 en1 rv p1 => ⟨ρ, g1, s1, ab1, en1, p1.bind.imp fun i s2 g2 H2 e2 ab2 p2 => ⟨ρ, g2, s2, ab2, en1.ext e2, p2.bind.imp fun j s3 g3 H3 e3 ab3 p3 => ⟨d, g3, s3, ab3, e3.rep (e2.rep rv), p3⟩⟩⟩
end
end DL
set_option Elab.async false
set_option linter.all false
set_option maxRecDepth 100000
set_option maxHeartbeats 2000000
/-! The data layer, part 10a: enumerate over a tuple. -/
namespace DL
open PySem
open AutoSeq1 (wpAny_loadPart')
open PySem.Sem (wp)
theorem meets_enumT (tu : Addr) (ys : Array Value) :
    Meets (Builtin.«enumerate.__new__» ⟨[.type "enumerate", .ref tu], []⟩) (fun _ R s => s.heap.IsTuple tu ys ∧
      R (.ok (.ret (.ref (s.heap.push { cls := .type "tuple_iterator", data := .fields #[.ref tu, .int 0 0] }).objs.size)))
        { s with heap := (s.heap.push { cls := .type "tuple_iterator", data := .fields #[.ref tu, .int 0 0] }).push { cls := .type "enumerate", data := .fields #[.none, .bool false, .ref s.heap.objs.size, rawInt 0, .none, .none] } }) :=
  .of_wp fun prog w A R s h => by
    obtain ⟨hq, g, d, tq, os⟩ := s; obtain ⟨gl, h⟩ := h
    have hsub := sub_enumerate
    have gL : Heap.IsTuple (Shared.heap ⟨hq, g, d, tq, os⟩) tu ys := gl
    wp_walk
    refine wpAny_stack_any fun st => wpAny_pure ?_
    split
    · rename_i c _ _ _ _ _
      cases (c == Value.type "enumerate")
      · wp_walk using wpAny_pyIter_tuple gL
        exact ⟨_, rfl, h⟩
      · wp_walk using wpAny_pyIter_tuple gL
        exact ⟨_, rfl, h⟩
    · wp_walk using wpAny_pyIter_tuple gL
      exact ⟨_, rfl, h⟩
section
variable {prog : Program} {w : World} {A : Around} {E : Value → Shared → Prop} {s : Shared}
theorem enumT_next {ee ti tu : Addr} {n : Nat} {ys : Array Value} {y was : Value} {Q : Value → Shared → Prop}
    (ge : IsEnum s.heap ee ti n was) (gi : s.heap.IsTupleIter ti tu n) (gl : s.heap.IsTuple tu ys) (gx : ys[n]? = some y) (gn : ee ≠ ti)
    (gQ : ∀ h', IsEnumOut h' ee ti ((n : Int) + 1) y s.heap.objs.size → h'.IsTupleIter ti tu (n + 1) →
      h'.get? s.heap.objs.size = some { cls := .type "tuple", data := .seq #[.int n s.toks, y] } → h'.objs.size = s.heap.objs.size + 1 →
      (∀ b o, b ≠ ee → b ≠ ti → s.heap.get? b = some o → h'.get? b = some o) → Q (.ref s.heap.objs.size) { s with heap := h', toks := s.toks + 1 }) :
    wpAny (model prog w) A (Builtin.«enumerate.__next__» ⟨[.ref ee], []⟩) (fun fin s' => ∃ v, fin = .done (.ret v) ∧ Q v s') E s := by
  obtain ⟨hq, g, d, tq, os⟩ := s
  show wpAny _ _ (field (.ref ee) 2 >>= _) _ _ _
  refine wpAny_bind (wpAny_field ge rfl (x := .ref ti) rfl ?_)
  refine wpAny_bind (RZ.nextOf_tuple_item gi gl gx fun k₁ hit₁ hs₁ => ?_)
  replace hs₁ : Heap.SameBut ti hq k₁ := hs₁
  have he₁ : IsEnum k₁ ee ti n was := (hs₁.2 ee gn).trans ge
  show wpAny _ _ (field (.ref ee) 3 >>= _) _ _ ⟨k₁, g, d, tq, os⟩
  refine wpAny_bind (wpAny_field he₁ rfl (x := rawInt n) rfl ?_)
  show wpAny _ _ (field (.ref ee) 4 >>= _) _ _ ⟨k₁, g, d, tq, os⟩
  refine wpAny_bind (wpAny_field he₁ rfl (x := .none) rfl ?_)
  show wpAny _ _ (mkInt n >>= _) _ _ ⟨k₁, g, d, tq, os⟩
  refine wpAny_bind (wpAny_mkInt ?_)
  show wpAny _ _ (setField (.ref ee) 3 (rawInt ((n : Int) + 1)) >>= _) _ _ ⟨k₁, g, d, tq + 1, os⟩
  refine wpAny_bind (wpAny_setField_rec he₁ (by simp) fun k₂ he₂ hs₂ => ?_)
  replace hs₂ : Heap.SameBut ee k₁ k₂ := hs₂
  replace he₂ : IsEnum k₂ ee ti ((n : Int) + 1) was := he₂
  show wpAny _ _ (setField (.ref ee) 4 .none >>= _) _ _ ⟨k₂, g, d, tq + 1, os⟩
  refine wpAny_bind (wpAny_setField_rec he₂ (by simp) fun k₃ he₃ hs₃ => ?_)
  replace hs₃ : Heap.SameBut ee k₂ k₃ := hs₃
  replace he₃ : IsEnum k₃ ee ti ((n : Int) + 1) was := he₃
  show wpAny _ _ (newTuple [.int n tq, y] >>= _) _ _ ⟨k₃, g, d, tq + 1, os⟩
  refine wpAny_bind (wpAny_newTuple ?_)
  have he₄ : IsEnum (k₃.push { cls := .type "tuple", data := .seq #[.int n tq, y] }) ee ti ((n : Int) + 1) was := Heap.get?_push_of_some _ he₃
  generalize hh₄ : k₃.push { cls := .type "tuple", data := .seq #[.int n tq, y] } = k₄ at he₄
  have hsz : k₃.objs.size = hq.objs.size := by rw [hs₃.1, hs₂.1, hs₁.1]
  have hel : ee < hq.objs.size := Heap.lt_size ge
  have ht₄ : k₄.get? hq.objs.size = some { cls := .type "tuple", data := .seq #[.int n tq, y] } := by rw [← hh₄, ← hsz]; exact Heap.get?_push_size _ rfl
  have hz₄ : k₄.objs.size = hq.objs.size + 1 := by rw [← hh₄, Heap.size_push, hsz]
  have hk₄ : ∀ b o, b ≠ ee → b ≠ ti → hq.get? b = some o → k₄.get? b = some o := fun b o hbe hbi hb => by
    rw [← hh₄]; exact Heap.get?_push_of_some _ (hs₃.extBut b o hbe (hs₂.extBut b o hbe (hs₁.extBut b o hbi hb)))
  have hit₄ : k₄.IsTupleIter ti tu (n + 1) := by
    rw [← hh₄]; obtain ⟨o, ho, r⟩ := (hit₁.extBut hs₂.extBut (Ne.symm gn)).extBut hs₃.extBut (Ne.symm gn); exact ⟨o, Heap.get?_push_of_some _ ho, r⟩
  show wpAny _ _ (Builtin.SmallTypes.ownedTupleIsFree (.ref ee) >>= _) _ _ ⟨k₄, g, d, tq + 1, os⟩
  rw [hsz]
  clear hh₄ he₃ hs₃ he₂ hs₂ he₁ hs₁ hit₁ hsz k₃ k₂ k₁
  refine wpAny_bind ?_
  · unfold Builtin.SmallTypes.ownedTupleIsFree
    refine wpAny_bind (wpAny_field he₄ rfl (x := .none) rfl (wpAny_pure ?_))
    simp only [if_true]
    refine wpAny_bind (wpAny_rule ?_)
    refine wpAny_bind (wpAny_field he₄ rfl (x := was) rfl ?_)
    refine wpAny_bind (wpAny_setField_rec he₄ (by simp) fun k₅ he₅ hs₅ => ?_)
    replace hs₅ : Heap.SameBut ee k₄ k₅ := hs₅
    replace he₅ : IsEnum k₅ ee ti ((n : Int) + 1) y := he₅
    show wpAny _ _ (Builtin.SmallTypes.ownedTupleHandOut (.ref ee) (.ref hq.objs.size) >>= _) _ _ ⟨k₅, g, d, tq + 1, os⟩
    refine wpAny_bind ?_
    · unfold Builtin.SmallTypes.ownedTupleHandOut
      refine wpAny_bind (wpAny_setField_rec he₅ (by simp) fun k₆ he₆ hs₆ => ?_)
      replace hs₆ : Heap.SameBut ee k₅ k₆ := hs₆
      replace he₆ : IsEnumOut k₆ ee ti ((n : Int) + 1) y hq.objs.size := he₆
      refine wpAny_setField_rec he₆ (by simp) fun k₇ he₇ hs₇ => ?_
      replace hs₇ : Heap.SameBut ee k₆ k₇ := hs₇
      replace he₇ : IsEnumOut k₇ ee ti ((n : Int) + 1) y hq.objs.size := he₇
      refine wpAny_bind (wpAny_letGo (wpAny_pure ⟨_, rfl, gQ k₇ he₇ ?_ ?_ ?_ ?_⟩))
      · exact ((hit₄.extBut hs₅.extBut (Ne.symm gn)).extBut hs₆.extBut (Ne.symm gn)).extBut hs₇.extBut (Ne.symm gn)
      · exact hs₇.extBut _ _ (Nat.ne_of_gt hel) (hs₆.extBut _ _ (Nat.ne_of_gt hel) (hs₅.extBut _ _ (Nat.ne_of_gt hel) ht₄))
      · rw [hs₇.1, hs₆.1, hs₅.1, hz₄]
      · exact fun b o hbe hbi hb => hs₇.extBut b o hbe (hs₆.extBut b o hbe (hs₅.extBut b o hbe (hk₄ b o hbe hbi hb)))
theorem pyNext_enumT {ee ti tu : Addr} {n : Nat} {ys : Array Value} {y was : Value} {Q : Option Value → Shared → Prop}
    (ge : IsEnum s.heap ee ti n was) (gi : s.heap.IsTupleIter ti tu n) (gl : s.heap.IsTuple tu ys) (gx : ys[n]? = some y) (gn : ee ≠ ti)
    (gQ : ∀ h', IsEnumOut h' ee ti ((n : Int) + 1) y s.heap.objs.size → h'.IsTupleIter ti tu (n + 1) →
      h'.get? s.heap.objs.size = some { cls := .type "tuple", data := .seq #[.int n s.toks, y] } → h'.objs.size = s.heap.objs.size + 1 →
      (∀ b o, b ≠ ee → b ≠ ti → s.heap.get? b = some o → h'.get? b = some o) → Q (some (.ref s.heap.objs.size)) { s with heap := h', toks := s.toks + 1 }) :
    wpAny (model prog w) A (pyNext (.ref ee)) Q E s := by
  have hT : s.TypeIs (.ref ee) "enumerate" := ⟨_, ge, rfl⟩
  unfold pyNext
  exact wpAny_bind (wpAny_attempt (wpAny_callSpecial?_slot (name := Str.ofString "__next__") hT F.slot_enumerate_next
    (wpAny_call_entry F.slot_enumerate_next hT F.entry_enumerate_next
      (enumT_next ge gi gl gx gn fun h' a b c d k => wpAny_pure (gQ h' a b c d k)) (F.args_enumerate_next_1 _))))
theorem pyNext_enumT_end {ee ti tu : Addr} {n : Nat} {ys : Array Value} {was : Value} {Q : Option Value → Shared → Prop} (hh : A.handled = none)
    (ge : IsEnum s.heap ee ti n was) (gi : s.heap.IsTupleIter ti tu n) (gl : s.heap.IsTuple tu ys) (gx : ys[n]? = none)
    (gQ : ∀ h', Heap.ExtBut ti s.heap h' → Q none { s with heap := h' }) : wpAny (model prog w) A (pyNext (.ref ee)) Q E s := by
  have hT : s.TypeIs (.ref ee) "enumerate" := ⟨_, ge, rfl⟩
  unfold pyNext
  refine wpAny_bind (wpAny_attempt (wpAny_callSpecial?_slot (name := Str.ofString "__next__") hT F.slot_enumerate_next
    (wpAny_call_entry F.slot_enumerate_next hT F.entry_enumerate_next ?_ (F.args_enumerate_next_1 _))))
  show wpAny _ _ (field (.ref ee) 2 >>= _) _ _ _
  refine wpAny_bind (wpAny_field ge rfl (x := .ref ti) rfl ?_)
  refine wpAny_bind (RZ.nextOf_tuple_end hh gi gl gx fun h' y ge' gx' => ?_)
  obtain ⟨o, ho, hc⟩ := gx'
  refine wpAny_bind (wpAny_isInstance (T := "StopIteration") (b := true) ⟨o, ho, hc⟩ isSubtype_stop ?_)
  exact wpAny_pure (gQ _ ge')
theorem call_enumT {tu : Addr} {ys : Array Value} {Q : Value → Shared → Prop} (gL : s.heap.IsTuple tu ys)
    (h : ∀ h', IsEnum h' (s.heap.objs.size + 1) s.heap.objs.size 0 .none → h'.IsTupleIter s.heap.objs.size tu 0 → h'.objs.size = s.heap.objs.size + 2 →
      (∀ bb ob, s.heap.get? bb = some ob → h'.get? bb = some ob) → Q (.ref (s.heap.objs.size + 1)) { s with heap := h' }) :
    wpAny (model prog w) A (call (.type "enumerate") [.ref tu]) Q E s := by
  refine callType_new F.called_enumerate (by decide) (F.typeCall_enumerate_1 _) (F.newCall_enumerate_1 _) (fun obj => F.args_object_init_2 obj _) F.entry_enumerate_new
    (meets_enumT tu ys) ⟨gL, ?_⟩
  have gz : (s.heap.push { cls := .type "tuple_iterator", data := .fields #[.ref tu, .int 0 0] }).objs.size = s.heap.objs.size + 1 := Heap.size_push ..
  show _ ∧ _
  rw [gz]
  have ge : IsEnum ((s.heap.push { cls := .type "tuple_iterator", data := .fields #[.ref tu, .int 0 0] }).push
      { cls := .type "enumerate", data := .fields #[.none, .bool false, .ref s.heap.objs.size, rawInt 0, .none, .none] }) (s.heap.objs.size + 1) s.heap.objs.size 0 .none := by
    have := Heap.get?_push_size (s.heap.push { cls := .type "tuple_iterator", data := .fields #[.ref tu, .int 0 0] })
      (o := { cls := .type "enumerate", data := .fields #[.none, .bool false, .ref s.heap.objs.size, rawInt 0, .none, .none] }) rfl
    rw [gz] at this; exact this
  refine ⟨⟨_, ge, rfl⟩, h _ ge ⟨_, Heap.get?_push_of_some _ (Heap.get?_push_size _ rfl), rfl, rfl⟩ (by rw [Heap.size_push, gz]) fun bb ob x => Heap.get?_push_of_some _ (Heap.get?_push_of_some _ x)⟩
end
end DL
namespace DL
open PySem PySem.Spec PyProof.Rows L2
/-- the tuple at a, each item in a new pair -/
def IteT (K : PySem.W.Frag) (a : Addr) : It :=
  ⟨fun i H => ∃ (ys : List V) (y : V), SqT K H a ys ∧ ys[i]? = some y, fun i H v H' => ∃ T y, v = .ref T ∧ H T = none ∧ H' = upd H T (.tup [.int (i : Nat), y]) ∧ ∀ ys, SqT K H a ys → ys[i]? = some y, fun i H => ∃ ys : List V, SqT K H a ys ∧ ys.length ≤ i⟩
theorem turn_enumT {P : Program} {w : World} {K : PySem.W.Frag} {elts : List Expr} {kk : Nat} {tpos : Pos} (a en ti : Addr) :
    Turn P w K (.Tuple elts kk tpos) (IteT K a) [en, ti] en (fun i h => (∃ was, IsEnum h en ti ((i : Nat) : Int) was) ∧ h.IsTupleIter ti a i ∧ en ≠ ti) where
  mem := by simp
  obj := fun i h st b gb => by
    obtain ⟨⟨was, ge⟩, ⟨o, ho, hc, hd⟩, _⟩ := st
    have en' : b = en ∨ b = ti := by simpa using gb
    rcases en' with z | z
    · rw [z]; exact ⟨_, ge, fun v q => nomatch q⟩
    · rw [z]; exact ⟨o, ho, fun v q => by rw [hd] at q; cases q⟩
  keep := fun i h h' st k => let ⟨⟨was, ge⟩, hi, gn⟩ := st; ⟨⟨was, k en (by simp) _ ge⟩, hi.at fun o q => k ti (by simp) o q, gn⟩
  item := by
    intro X hP hw hK hc i pins s σ H E I hf st hg
    subst hP hw hK
    obtain ⟨⟨was, ge⟩, gi, gn⟩ := st
    obtain ⟨ys, y, gq, gx⟩ := hg
    obtain ⟨its, rw_, p, hz⟩ := I.tuple gq
    obtain ⟨u, hu, ru⟩ := rw_.get gx
    have lte : en < s.heap.objs.size := Heap.lt_size ge
    have lti : ti < s.heap.objs.size := by obtain ⟨_, q, _⟩ := gi; exact Heap.lt_size q
    refine pyNext_enumT ge gi (show s.heap.IsTuple a its.toArray from p) (y := u) (by simpa using hu) gn fun h' ho gi' gT gz gk => ?_
    refine ⟨_, rfl, wpAny_letOwnedTupleGo_enum (s := { s with heap := h', toks := s.toks + 1 }) ho fun h'' ge' sb => ?_⟩
    have gT2 : h''.get? s.heap.objs.size = some { cls := .type "tuple", data := .seq #[.int i s.toks, u] } := (sb.2 _ (Nat.ne_of_gt lte)).trans gT
    have new : ObjOk X.prog X.w (upd H s.heap.objs.size (.tup [.int (i : Nat), y])) h'' s.heap.objs.size (.tup [.int (i : Nat), y]) :=
      ⟨by show 2 ≤ sizeLine; decide, [.int i s.toks, u], .cons ⟨_, rfl⟩ (.cons ru .nil), ⟨_, gT2, rfl, _, rfl⟩⟩
    have J1 : Inv X pins σ (upd H s.heap.objs.size (.tup [.int (i : Nat), y])) { s with heap := h'', toks := s.toks + 1 } :=
      I.turnedNew (ch := [en, ti]) (fun b ob gb q => (sb.2 b (fun z => gb (by simp [z]))).trans (gk b ob (fun z => gb (by simp [z])) (fun z => gb (by simp [z])) q)) hf (Nat.le_refl _) new
    refine ⟨.ref s.heap.objs.size, _, J1, rfl, ⟨_, y, rfl, I.hok.fresh (Nat.le_refl _), rfl, fun ys hy => by rw [I.tuple_inj hy gq]; exact gx⟩, ⟨⟨u, ?_⟩, gi'.at fun o q => (sb.2 ti (Ne.symm gn)).trans q, gn⟩, fun b gb => ?_⟩
    · have e1 : ((i + 1 : Nat) : Int) = (i : Int) + 1 := by omega
      rw [e1]; exact ge'
    · have gb' : b < s.heap.objs.size := by
        have en' : b = en ∨ b = ti := by simpa using gb
        rcases en' with z | z
        · rw [z]; exact lte
        · rw [z]; exact lti
      rw [upd_ne (Nat.ne_of_lt gb')]
      exact (hf b gb).1
  done := by
    intro X hP hw hK hc i pins s σ H E I hf st hg
    subst hP hw hK
    obtain ⟨⟨was, ge⟩, gi, gn⟩ := st
    obtain ⟨ys, gq, gx⟩ := hg
    obtain ⟨its, rw_, p, hz⟩ := I.tuple gq
    obtain ⟨f0, f1, f2, f3, f4, f5⟩ := hf ti (by simp)
    have hl := rw_.length
    exact pyNext_enumT_end (I.ok.hd hc) ge gi (show s.heap.IsTuple a its.toArray from p) (by simp; omega) fun h' eb => ⟨rfl, I.turned (t' := s.toks) (fun b o gb q => eb b o gb q) f0 f1 f3 f4 f5⟩
  self := fun A i s Q E st h => let ⟨⟨_, ge⟩, _⟩ := st; wpAny_pyIter_enum ge h
def iEnumA (K : PySem.W.Frag) (ta : TA) : TI := fun σ H R => ta σ H fun vs H1 => ∃ a xs, vs = [.ref a] ∧ ((SqL K H1 a xs ∧ R (Ite K a) H1) ∨ (SqT K H1 a xs ∧ R (IteT K a) H1))
theorem pi_enumA {X : Cx} {e : Expr} {ta : TA} {p pos tpos : Pos} {elts : List Expr} {kk : Nat} (hg : Gl X "enumerate") (hm : X.mg "enumerate" = none) (ha : PA X [e] ta) (hs : starEach [e] X.env = [(false, eval e X.env)] := by rfl) :
    PI X (.Tuple elts kk tpos) (.Call (.Name "enumerate" p) [e] [] pos) (iEnumA X.K ta) := by
  refine ⟨fun pins s σ H R I h => ?_⟩
  refine Call_ (ld_blt I hg hm boot_enumerate (PyProof.Rows.callWith_type1 (thn (ha.run pos pins s σ H _ I h) fun us s1 ⟨vs, H1, I1, r1, q1⟩ => ?_) hs rfl))
  obtain ⟨a, ys, ex, q1⟩ := q1
  subst ex
  cases r1 with
  | cons r rr =>
    cases rr
    cases r
    have two : ∀ bb, bb ∈ [s1.heap.objs.size + 1, s1.heap.objs.size] → FpOk X pins H1 bb := fun bb gb => by
      have z0 : bb = s1.heap.objs.size + 1 ∨ bb = s1.heap.objs.size := by simpa using gb
      have le : s1.heap.objs.size ≤ bb := by
        rcases z0 with z | z
        · rw [z]; exact Nat.le_add_right ..
        · rw [z]; exact Nat.le_refl ..
      exact I1.fpOk le (I1.hok.fresh le)
    rcases q1 with ⟨gq, q⟩ | ⟨gq, q⟩
    · obtain ⟨its, _, pl, _⟩ := I1.list gq
      refine call_enumerate_list pl.isList fun h1 ge gi gz gk => wpAny_pyIter_enum ge ?_
      have I2 : Inv X pins σ H1 { s1 with heap := h1 } := I1.kept (t' := s1.toks) gk
      exact ⟨s1.heap.objs.size + 1, [s1.heap.objs.size + 1, s1.heap.objs.size], _, _, H1, rfl, I2, turn_enum a (s1.heap.objs.size + 1) s1.heap.objs.size, ⟨⟨.none, ge⟩, gi, Nat.succ_ne_self _⟩, two, q⟩
    · obtain ⟨its, _, pl, _⟩ := I1.tuple gq
      refine call_enumT (show s1.heap.IsTuple a its.toArray from pl) fun h1 ge gi gz gk => wpAny_pyIter_enum ge ?_
      have I2 : Inv X pins σ H1 { s1 with heap := h1 } := I1.kept (t' := s1.toks) gk
      exact ⟨s1.heap.objs.size + 1, [s1.heap.objs.size + 1, s1.heap.objs.size], _, _, H1, rfl, I2, turn_enumT a (s1.heap.objs.size + 1) s1.heap.objs.size, ⟨⟨.none, ge⟩, gi, Nat.succ_ne_self _⟩, two, q⟩
end DL
set_option Elab.async false
set_option linter.all false
set_option maxRecDepth 100000
set_option maxHeartbeats 2000000
/-! The data layer, part 11: what is walked. -/
namespace L2
open PySem
theorem PI.ofD {X : Cx} {tg e : Expr} {w w' : TI} (h : PI X tg e w) (i : ∀ σ H R, w' σ H R → w σ H R) : PI X tg e w' := ⟨fun pins s σ H R I q => h.run pins s σ H R I (i σ H R q)⟩
end L2
namespace DL
open PySem PySem.Spec PyProof.Rows L2
section
variable {K : PySem.W.Frag} {g g' : Gh} {s s' : S} {H H' : Hp} {v : V} {d : D} {ds : List D}
theorem still_get {src : List (Nat × List D)} (h : still src s = true) {i : Nat} {ds : List D} (hm : (i, ds) ∈ src) : s.get i = some (.lst ds) := by
  unfold still at h
  rw [List.all_eq_true] at h
  have q := h _ hm
  dsimp only at q
  split at q
  · assumption
  · cases q
theorem still_app {a b : List (Nat × List D)} (h : still (a ++ b) s = true) : still a s = true ∧ still b s = true := by
  unfold still at h ⊢
  rw [List.all_append, Bool.and_eq_true] at h
  exact h
theorem seq_later (h : seqOf s d = some ds) (st : still (srcOf d ds) s' = true) : seqOf s' d = some ds := by
  cases d with
  | mref i =>
    have q := still_get (i := i) (ds := ds) st (List.mem_cons_self ..)
    show (match s'.get i with
      | some (.lst ds) => some ds
      | _ => none) = some ds
    rw [q]
  | _ => exact h
theorem seqL_at (ab : AbsS K g H s) (r : Rep K g s.size v d) (h : seqOf s d = some ds) (hk : kindL d = true) : ∃ a xs, v = .ref a ∧ SqL K H a xs ∧ RepL K g s.size xs ds := by
  cases r with
  | tup q t => cases hk
  | lst q t =>
    cases h
    exact ⟨_, _, rfl, .inl (.inl (ab.zH _ _ q)), t⟩
  | fix q t =>
    cases h
    exact ⟨_, _, rfl, sqL_H ab q, t⟩
  | mref hi =>
    obtain ⟨a, xs, e, q, t⟩ := lst_at (d := .mref _) (ds := ds) ab (.mref hi) h
    exact ⟨a, xs, e, .inl (.inl q), t⟩
  | non => cases h
  | bl b => cases h
  | int i => cases h
  | str x => cases h
theorem seqT_at (ab : AbsS K g H s) (r : Rep K g s.size v d) (h : seqOf s d = some ds) (hk : kindL d = false) : ∃ a xs, v = .ref a ∧ SqT K H a xs ∧ RepL K g s.size xs ds := by
  cases r with
  | tup q t =>
    cases h
    exact ⟨_, _, rfl, sqT_H ab q, t⟩
  | _ => cases hk
end
/-- an iterator gives these -/
structure JOk (K : PySem.W.Frag) (g : Gh) (s : S) (H : Hp) (J : It) (t : Itm) : Prop where
  stop : ∀ g' s' H', Ext g s H g' s' H' → AbsS K g' H' s' → still t.src s' = true → J.stop t.items.length H'
  item : ∀ i d g' s' H', Ext g s H g' s' H' → AbsS K g' H' s' → still t.src s' = true → t.items[i]? = some d → J.go i H' ∧ ∀ x H2, J.yld i H' x H2 → ∃ g2, Ext g' s' H' g2 s' H2 ∧ AbsS K g2 H2 s' ∧ Rep K g2 s'.size x d
def tRI (P : Par) (f : Rho → S → Res Itm) : TI := fun σ H R => ∃ ρ g s, AbsS P.K g H s ∧ EnvOk P g s.size σ ρ ∧ Post P H g s (f ρ s) fun t s' g' H' => ∀ J, JOk P.K g' s' H' J t → R J H'
section
variable {K : PySem.W.Frag} {g : Gh} {s : S} {H : Hp} {a b : Addr} {d e : D} {ds es : List D}
theorem jok_list (r : Rep K g s.size (.ref a) d) (h : seqOf s d = some ds) (hk : kindL d = true) : JOk K g s H (Itl K a) ⟨ds, srcOf d ds⟩ where
  stop := fun g' s' H' ex ab st => by
    obtain ⟨_, xs, e, q, t⟩ := seqL_at ab (ex.rep r) (seq_later h st) hk
    cases e
    exact ⟨xs, q, Nat.le_of_eq t.length⟩
  item := fun i y g' s' H' ex ab st hy => by
    obtain ⟨_, xs, e, q, t⟩ := seqL_at ab (ex.rep r) (seq_later h st) hk
    cases e
    obtain ⟨v, hv, rv⟩ := t.get hy
    refine ⟨⟨xs, v, q, hv⟩, fun x H2 ⟨e1, e2⟩ => ?_⟩
    subst e1
    have z := e2 xs q
    rw [hv] at z
    cases z
    exact ⟨g', Ext.refl .., ab, rv⟩
theorem jok_tup (r : Rep K g s.size (.ref a) d) (h : seqOf s d = some ds) (hk : kindL d = false) : JOk K g s H (Itt K a) ⟨ds, srcOf d ds⟩ where
  stop := fun g' s' H' ex ab st => by
    obtain ⟨_, xs, e, q, t⟩ := seqT_at ab (ex.rep r) (seq_later h st) hk
    cases e
    exact ⟨xs, q, Nat.le_of_eq t.length⟩
  item := fun i y g' s' H' ex ab st hy => by
    obtain ⟨_, xs, e, q, t⟩ := seqT_at ab (ex.rep r) (seq_later h st) hk
    cases e
    obtain ⟨v, hv, rv⟩ := t.get hy
    refine ⟨⟨xs, v, q, hv⟩, fun x H2 ⟨e1, e2⟩ => ?_⟩
    subst e1
    have z := e2 xs q
    rw [hv] at z
    cases z
    exact ⟨g', Ext.refl .., ab, rv⟩
theorem rangeI_len (lo hi : Int) : (rangeI lo hi).length = (hi - lo).toNat := by
  unfold rangeI
  rw [List.length_map, List.length_range]
theorem rangeI_at {lo hi : Int} {i : Nat} {d : D} (h : (rangeI lo hi)[i]? = some d) : i < (hi - lo).toNat ∧ d = .int (lo + i) := by
  unfold rangeI at h
  rw [List.getElem?_map] at h
  cases q : (List.range (hi - lo).toNat)[i]? with
  | none => rw [q] at h; cases h
  | some k =>
    rw [q] at h
    obtain ⟨h1, h2⟩ := List.getElem?_eq_some_iff.mp q
    rw [List.length_range] at h1
    rw [List.getElem_range] at h2
    subst h2
    cases h
    exact ⟨h1, rfl⟩
theorem jok_range (lo hi : Int) : JOk K g s H (Itr lo (hi - lo).toNat) ⟨rangeI lo hi, []⟩ where
  stop := fun g' s' H' ex ab st => Nat.le_of_eq (rangeI_len lo hi).symm
  item := fun i y g' s' H' ex ab st hy => by
    obtain ⟨h1, h2⟩ := rangeI_at hy
    subst h2
    refine ⟨h1, fun x H2 ⟨e1, e2⟩ => ?_⟩
    subst e1
    subst e2
    exact ⟨g', Ext.refl .., ab, .int _⟩
theorem enumF_len : ∀ (k : Nat) (ds : List D), (enumF k ds).length = ds.length
  | _, [] => rfl
  | k, _ :: r => by
    show (enumF (k + 1) r).length + 1 = r.length + 1
    rw [enumF_len (k + 1) r]
theorem enumF_at : ∀ {k : Nat} {ds : List D} {i : Nat} {d : D}, (enumF k ds)[i]? = some d → ∃ e, ds[i]? = some e ∧ d = .tup [.int ((k + i : Nat) : Int), e]
  | _, [], _, _, h => by simp [enumF] at h
  | k, a :: r, 0, d, h => by
    simp [enumF] at h
    exact ⟨a, rfl, by rw [← h]; rfl⟩
  | k, a :: r, i + 1, d, h => by
    obtain ⟨e, h1, h2⟩ := enumF_at (k := k + 1) (ds := r) (i := i) (d := d) (by simpa [enumF] using h)
    refine ⟨e, by simpa using h1, ?_⟩
    rw [h2, show k + 1 + i = k + (i + 1) from by omega]
theorem rep_pair {H : Hp} {p : Addr} {x y : V} {d e : D} (ab : AbsS K g H s) (hp : H p = none) (r1 : Rep K g s.size x d) (r2 : Rep K g s.size y e) :
    ∃ g2, Ext g s H g2 s (upd H p (.tup [x, y])) ∧ AbsS K g2 (upd H p (.tup [x, y])) s ∧ Rep K g2 s.size (.ref p) (.tup [d, e]) :=
  ⟨g.lay p (.tup [x, y]), ext_lay ab hp _, abs_lay ab hp _, rep_tup ab hp (.cons r1 (.cons r2 .nil))⟩
theorem jok_enum (r : Rep K g s.size (.ref a) d) (h : seqOf s d = some ds) (hk : kindL d = true) : JOk K g s H (Ite K a) ⟨enumF 0 ds, srcOf d ds⟩ where
  stop := fun g' s' H' ex ab st => by
    obtain ⟨_, xs, e, q, t⟩ := seqL_at ab (ex.rep r) (seq_later h st) hk
    cases e
    exact ⟨xs, q, by rw [t.length]; exact Nat.le_of_eq (enumF_len 0 ds).symm⟩
  item := fun i y g' s' H' ex ab st hy => by
    obtain ⟨_, xs, e, q, t⟩ := seqL_at ab (ex.rep r) (seq_later h st) hk
    cases e
    obtain ⟨w, h1, h2⟩ := enumF_at hy
    obtain ⟨v, hv, rv⟩ := t.get h1
    refine ⟨⟨xs, v, q, hv⟩, fun x H2 ⟨T, z, e1, hT, e2, e3⟩ => ?_⟩
    have e3 := e3 xs q
    rw [hv] at e3
    cases e3
    subst e1
    subst e2
    subst h2
    rw [Nat.zero_add]
    exact rep_pair ab hT (.int _) rv
theorem jok_enumT (r : Rep K g s.size (.ref a) d) (h : seqOf s d = some ds) (hk : kindL d = false) : JOk K g s H (IteT K a) ⟨enumF 0 ds, srcOf d ds⟩ where
  stop := fun g' s' H' ex ab st => by
    obtain ⟨_, xs, e, q, t⟩ := seqT_at ab (ex.rep r) (seq_later h st) hk
    cases e
    exact ⟨xs, q, by rw [t.length]; exact Nat.le_of_eq (enumF_len 0 ds).symm⟩
  item := fun i y g' s' H' ex ab st hy => by
    obtain ⟨_, xs, e, q, t⟩ := seqT_at ab (ex.rep r) (seq_later h st) hk
    cases e
    obtain ⟨w, h1, h2⟩ := enumF_at hy
    obtain ⟨v, hv, rv⟩ := t.get h1
    refine ⟨⟨xs, v, q, hv⟩, fun x H2 ⟨T, z, e1, hT, e2, e3⟩ => ?_⟩
    have e3 := e3 xs q
    rw [hv] at e3
    cases e3
    subst e1
    subst e2
    subst h2
    rw [Nat.zero_add]
    exact rep_pair ab hT (.int _) rv
theorem zip2_len : ∀ (ds es : List D), (zip2 ds es).length = min ds.length es.length
  | [], _ => by simp [zip2]
  | _ :: _, [] => by simp [zip2]
  | _ :: r, _ :: t => by
    show (zip2 r t).length + 1 = min (r.length + 1) (t.length + 1)
    rw [zip2_len r t]
    omega
theorem zip2_at : ∀ {ds es : List D} {i : Nat} {d : D}, (zip2 ds es)[i]? = some d → ∃ a b, ds[i]? = some a ∧ es[i]? = some b ∧ d = .tup [a, b]
  | [], _, _, _, h => by simp [zip2] at h
  | _ :: _, [], _, _, h => by simp [zip2] at h
  | a :: r, b :: t, 0, d, h => by
    simp [zip2] at h
    exact ⟨a, b, rfl, rfl, h.symm⟩
  | a :: r, b :: t, i + 1, d, h => by
    obtain ⟨x, y, h1, h2, h3⟩ := zip2_at (ds := r) (es := t) (i := i) (d := d) (by simpa [zip2] using h)
    exact ⟨x, y, by simpa using h1, by simpa using h2, h3⟩
theorem min_alt {a b n : Nat} (h : n = min a b) : a ≤ n ∨ b ≤ n := by omega
theorem jok_zipL (r : Rep K g s.size (.ref a) d) (r' : Rep K g s.size (.ref b) e) (h : seqOf s d = some ds) (h' : seqOf s e = some es) (hk : kindL d = true) (hk' : kindL e = true) : JOk K g s H (Itz K a b) ⟨zip2 ds es, srcOf d ds ++ srcOf e es⟩ where
  stop := fun g' s' H' ex ab st => by
    obtain ⟨st1, st2⟩ := still_app st
    obtain ⟨_, xs, e1, q, t⟩ := seqL_at ab (ex.rep r) (seq_later h st1) hk
    obtain ⟨_, ys, e2, q', t'⟩ := seqL_at ab (ex.rep r') (seq_later h' st2) hk'
    cases e1
    cases e2
    exact ⟨xs, ys, q, q', by rw [t.length, t'.length]; exact min_alt (zip2_len ds es)⟩
  item := fun i y g' s' H' ex ab st hy => by
    obtain ⟨st1, st2⟩ := still_app st
    obtain ⟨_, xs, e1, q, t⟩ := seqL_at ab (ex.rep r) (seq_later h st1) hk
    obtain ⟨_, ys, e2, q', t'⟩ := seqL_at ab (ex.rep r') (seq_later h' st2) hk'
    cases e1
    cases e2
    obtain ⟨w1, w2, h1, h2, h3⟩ := zip2_at hy
    obtain ⟨v, hv, rv⟩ := t.get h1
    obtain ⟨u, hu, ru⟩ := t'.get h2
    refine ⟨⟨xs, ys, v, u, q, q', hv, hu⟩, fun x H2 ⟨T, z1, z2, e1, hT, e2, e3, e4⟩ => ?_⟩
    have e3 := e3 xs q
    have e4 := e4 ys q'
    rw [hv] at e3
    rw [hu] at e4
    cases e3
    cases e4
    subst e1
    subst e2
    subst h3
    exact rep_pair ab hT rv ru
theorem jok_zipT (r : Rep K g s.size (.ref a) d) (r' : Rep K g s.size (.ref b) e) (h : seqOf s d = some ds) (h' : seqOf s e = some es) (hk : kindL d = false) (hk' : kindL e = false) : JOk K g s H (RZ.ItzT K a b) ⟨zip2 ds es, srcOf d ds ++ srcOf e es⟩ where
  stop := fun g' s' H' ex ab st => by
    obtain ⟨st1, st2⟩ := still_app st
    obtain ⟨_, xs, e1, q, t⟩ := seqT_at ab (ex.rep r) (seq_later h st1) hk
    obtain ⟨_, ys, e2, q', t'⟩ := seqT_at ab (ex.rep r') (seq_later h' st2) hk'
    cases e1
    cases e2
    exact ⟨xs, ys, q, q', by rw [t.length, t'.length]; exact min_alt (zip2_len ds es)⟩
  item := fun i y g' s' H' ex ab st hy => by
    obtain ⟨st1, st2⟩ := still_app st
    obtain ⟨_, xs, e1, q, t⟩ := seqT_at ab (ex.rep r) (seq_later h st1) hk
    obtain ⟨_, ys, e2, q', t'⟩ := seqT_at ab (ex.rep r') (seq_later h' st2) hk'
    cases e1
    cases e2
    obtain ⟨w1, w2, h1, h2, h3⟩ := zip2_at hy
    obtain ⟨v, hv, rv⟩ := t.get h1
    obtain ⟨u, hu, ru⟩ := t'.get h2
    refine ⟨⟨xs, ys, v, u, q, q', hv, hu⟩, fun x H2 ⟨T, z1, z2, e1, hT, e2, e3, e4⟩ => ?_⟩
    have e3 := e3 xs q
    have e4 := e4 ys q'
    rw [hv] at e3
    rw [hu] at e4
    cases e3
    cases e4
    subst e1
    subst e2
    subst h3
    exact rep_pair ab hT rv ru
end
section
variable {X : Cx} {P : Par} {tg a b e : Expr} {pos p tpos : Pos} {fa fb : Rho → S → Res D} {elts : List Expr} {kk : Nat}
theorem si_stuck : PI X tg e (tRI P fun _ _ => .stuck) := ⟨fun pins s σ H Q I h => by
  obtain ⟨_, _, _, _, _, po⟩ := h
  exact po.elim⟩
/-- the list or tuple that an expression gives -/
theorem si_seq (hK : P.K = X.K) (ha : PE X e (tR P fa)) : PI X tg e (tRI P fun ρ s => (fa ρ s).bind fun d s => match seqOf s d with
    | some ds => .ok ⟨ds, srcOf d ds⟩ s
    | none => .stuck) := ⟨fun pins st σ H R I h => by
  obtain ⟨ρ, g, s, ab, en, po⟩ := h
  dsimp only at po
  cases q : fa ρ s with
  | stuck => rw [q] at po; exact po.elim
  | err x s' =>
    rw [q] at po
    exact (pi_list ha).run pins st σ H R I ⟨ρ, g, s, ab, en, by rw [q]; exact po⟩
  | ok d s' =>
    rw [q] at po
    have po : Post P H g s (match seqOf s' d with
      | some ds => .ok ⟨ds, srcOf d ds⟩ s'
      | none => .stuck) fun t s' g' H' => ∀ J, JOk P.K g' s' H' J t → R J H' := po
    cases h1 : seqOf s' d with
    | none => rw [h1] at po; exact po.elim
    | some ds =>
      rw [h1] at po
      cases hk : kindL d with
      | true =>
        refine (pi_list ha).run pins st σ H R I ⟨ρ, g, s, ab, en, ?_⟩
        rw [q]
        intro g' H' ex ab' v rv
        obtain ⟨a, xs, e1, h2, h3⟩ := seqL_at ab' rv h1 hk
        subst e1
        rw [← hK]
        exact ⟨a, rfl, ⟨xs, h2⟩, po g' H' ex ab' _ (jok_list rv h1 hk)⟩
      | false =>
        refine (pi_tup ha).run pins st σ H R I ⟨ρ, g, s, ab, en, ?_⟩
        rw [q]
        intro g' H' ex ab' v rv
        obtain ⟨a, xs, e1, h2, h3⟩ := seqT_at ab' rv h1 hk
        subst e1
        rw [← hK]
        exact ⟨a, rfl, ⟨xs, h2⟩, po g' H' ex ab' _ (jok_tup rv h1 hk)⟩⟩
theorem rng_in {i : Int} (h : rngOk i = true) : -(2 ^ 62) ≤ i ∧ i < 2 ^ 62 := by
  unfold rngOk at h
  rw [Bool.and_eq_true, decide_eq_true_eq, decide_eq_true_eq] at h
  exact h
theorem tRI_bind {f : Rho → S → Res D} {k : Rho → D → S → Res Itm} {σ : L2.St} {H : Hp} {R : It → Hp → Prop} {W : V → Hp → Prop} (h : tRI P (fun ρ s => (f ρ s).bind (k ρ)) σ H R)
    (n : ∀ v H1 ρ d g1 s1, AbsS P.K g1 H1 s1 → EnvOk P g1 s1.size σ ρ → Rep P.K g1 s1.size v d → (Post P H1 g1 s1 (k ρ d s1) fun t s' g' H' => ∀ J, JOk P.K g' s' H' J t → R J H') → W v H1) : tR P f σ H W := by
  obtain ⟨ρ, g, s, ab, en, po⟩ := h
  exact ⟨ρ, g, s, ab, en, po.bind.imp fun d s1 g1 H1 e1 ab1 p1 v rv => n v H1 ρ d g1 s1 ab1 (en.ext e1) rv p1⟩
theorem tRI_eq {f f' : Rho → S → Res Itm} {σ : L2.St} {H : Hp} {R : It → Hp → Prop} (h : tRI P f σ H R) (e : ∀ ρ s, f ρ s = f' ρ s) : tRI P f' σ H R := by
  obtain ⟨ρ, g, s, ab, en, po⟩ := h
  exact ⟨ρ, g, s, ab, en, by rw [← e]; exact po⟩
theorem rng_ok {i j : Int} {H : Hp} {g : Gh} {s : S} {R : It → Hp → Prop} (ab : AbsS P.K g H s) (po : Post P H g s (if rngOk i = true ∧ rngOk j = true then .ok ⟨rangeI i j, []⟩ s else .stuck) fun t s' g' H' => ∀ J, JOk P.K g' s' H' J t → R J H') :
    (-(2 ^ 62) ≤ i ∧ i < 2 ^ 62 ∧ -(2 ^ 62) ≤ j ∧ j < 2 ^ 62) ∧ R (Itr i (j - i).toNat) H := by
  by_cases hj : rngOk i = true ∧ rngOk j = true
  · rw [if_pos hj] at po
    exact ⟨⟨(rng_in hj.1).1, (rng_in hj.1).2, (rng_in hj.2).1, (rng_in hj.2).2⟩, Post.here po ab _ (jok_range i j)⟩
  · rw [if_neg hj] at po
    exact po.elim
theorem si_range1 {v : Ev} (hg : Gl X "range") (hm : X.mg "range" = none) (ha : PE X a (tR P (v.E a))) (hs : starEach [a] X.env = (false, eval a X.env) :: starEach [] X.env) : PI X tg (.Call (.Name "range" p) [a] [] pos) (tRI P fun ρ s => (evRng v [a] ρ s).bind fun r s => if rngOk r.1 = true ∧ rngOk r.2 = true then .ok ⟨rangeI r.1 r.2, []⟩ s else .stuck) :=
  (pi_range1 hg hm (pa_cons ha pa_nil hs) hs).ofD fun σ H R h => tRI_bind (tRI_eq h fun ρ s => bind_assoc _ _ _) fun w H1 ρ d g1 s1 ab1 en1 rv p1 => by
  cases rv with
  | int j =>
    obtain ⟨⟨_, _, h3, h4⟩, z⟩ := rng_ok ab1 p1
    rw [Int.sub_zero] at z
    exact ⟨j, rfl, h3, h4, z⟩
  | _ => exact p1.elim
theorem si_range2 {v : Ev} (hg : Gl X "range") (hm : X.mg "range" = none) (ha : PE X a (tR P (v.E a))) (hb : PE X b (tR P (v.E b))) (hs : starEach [a, b] X.env = [(false, eval a X.env), (false, eval b X.env)]) (hs2 : starEach [b] X.env = (false, eval b X.env) :: starEach [] X.env) :
    PI X tg (.Call (.Name "range" p) [a, b] [] pos) (tRI P fun ρ s => (evRng v [a, b] ρ s).bind fun r s => if rngOk r.1 = true ∧ rngOk r.2 = true then .ok ⟨rangeI r.1 r.2, []⟩ s else .stuck) :=
  (pi_range2 hg hm (pa_cons ha (pa_cons hb pa_nil hs2) (hs.trans (by rw [hs2]; rfl))) hs hs2).ofD fun σ H R h => tRI_bind (tRI_eq h fun ρ s => bind_assoc _ _ _) fun w H1 ρ d g1 s1 ab1 en1 rv p1 => ⟨ρ, g1, s1, ab1, en1, (Post.bind (bind_assoc _ _ _ ▸ p1)).imp fun d2 s2 g2 H2 e2 ab2 p2 u ru => by
  have rv2 := e2.rep rv
  cases rv2 with
  | int i =>
    cases ru with
    | int j =>
      obtain ⟨h1, z⟩ := rng_ok ab2 p2
      exact ⟨i, j, rfl, h1, z⟩
    | _ => exact p2.elim
  | _ => exact p2.elim⟩
theorem si_enum (hK : P.K = X.K) (hg : Gl X "enumerate") (hm : X.mg "enumerate" = none) (ha : PE X a (tR P fa)) (hs : starEach [a] X.env = (false, eval a X.env) :: starEach [] X.env) :
    PI X (.Tuple elts kk tpos) (.Call (.Name "enumerate" p) [a] [] pos) (tRI P fun ρ s => (fa ρ s).bind fun x s => match seqOf s x with
        | some xs => .ok ⟨enumF 0 xs, srcOf x xs⟩ s
        | none => .stuck) := (pi_enumA hg hm (pa_cons ha pa_nil hs) hs).ofD fun σ H R h => tRI_bind h fun v H1 ρ d g1 s1 ab1 en1 rv p1 => by
  cases h1 : seqOf s1 d with
  | none => rw [h1] at p1; exact p1.elim
  | some ds =>
    rw [h1] at p1
    dsimp only at p1
    rw [← hK]
    cases hk : kindL d with
    | true =>
      obtain ⟨a, xs, e1, h2, h3⟩ := seqL_at ab1 rv h1 hk
      subst e1
      exact ⟨a, xs, rfl, .inl ⟨h2, Post.here p1 ab1 _ (jok_enum rv h1 hk)⟩⟩
    | false =>
      obtain ⟨a, xs, e1, h2, h3⟩ := seqT_at ab1 rv h1 hk
      subst e1
      exact ⟨a, xs, rfl, .inr ⟨h2, Post.here p1 ab1 _ (jok_enumT rv h1 hk)⟩⟩
theorem si_zip (hK : P.K = X.K) (hg : Gl X "zip") (hm : X.mg "zip" = none) (ha : PE X a (tR P fa)) (hb : PE X b (tR P fb)) (hs : starEach [a, b] X.env = (false, eval a X.env) :: starEach [b] X.env) (hs2 : starEach [b] X.env = (false, eval b X.env) :: starEach [] X.env) (hpl : (backTo pos (starEach [b] X.env)).any (·.1) = false) :
    PI X (.Tuple elts kk tpos) (.Call (.Name "zip" p) [a, b] [] pos) (tRI P fun ρ s => (fa ρ s).bind fun x s => (fb ρ s).bind fun y s => match seqOf s x, seqOf s y with
        | some xs, some ys => if kindL x = kindL y then .ok ⟨zip2 xs ys, srcOf x xs ++ srcOf y ys⟩ s else .stuck
        | _, _ => .stuck) := (RZ.pi_zipA hg hm (pa_cons ha (pa_cons hb pa_nil hs2) hs) hs hpl).ofD fun σ H R h => tRI_bind h fun v H1 ρ d g1 s1 ab1 en1 rv p1 => ⟨ρ, g1, s1, ab1, en1, p1.bind.imp fun d2 s2 g2 H2 e2 ab2 p2 u ru => by
  have rv2 := e2.rep rv
  cases h1 : seqOf s2 d with
  | none => rw [h1] at p2; exact p2.elim
  | some ds =>
    cases h2 : seqOf s2 d2 with
    | none => rw [h1, h2] at p2; exact p2.elim
    | some es =>
      rw [h1, h2] at p2
      dsimp only at p2
      by_cases hk : kindL d = kindL d2
      · rw [if_pos hk] at p2
        rw [← hK]
        cases hk1 : kindL d with
        | true =>
          obtain ⟨a, xs, e1, q1, _⟩ := seqL_at ab2 rv2 h1 hk1
          obtain ⟨b, ys, e2, q2, _⟩ := seqL_at ab2 ru h2 (hk ▸ hk1)
          subst e1
          subst e2
          exact ⟨a, b, xs, ys, rfl, .inl ⟨q1, q2, Post.here p2 ab2 _ (jok_zipL rv2 ru h1 h2 hk1 (hk ▸ hk1))⟩⟩
        | false =>
          obtain ⟨a, xs, e1, q1, _⟩ := seqT_at ab2 rv2 h1 hk1
          obtain ⟨b, ys, e2, q2, _⟩ := seqT_at ab2 ru h2 (hk ▸ hk1)
          subst e1
          subst e2
          exact ⟨a, b, xs, ys, rfl, .inr ⟨q1, q2, Post.here p2 ab2 _ (jok_zipT rv2 ru h1 h2 hk1 (hk ▸ hk1))⟩⟩
      · rw [if_neg hk] at p2
        exact p2.elim⟩
end
end DL
set_option Elab.async false
set_option linter.all false
set_option maxRecDepth 100000
set_option maxHeartbeats 2000000
/-! The data layer, part 12: targets by names, comprehensions. -/
namespace L2
open PySem
theorem PG.ofD {X : Cx} {tg : Expr} {t t' : TG} (h : PG X tg t) (i : ∀ v σ H Q, t' v σ H Q → t v σ H Q) : PG X tg t' := ⟨fun pins s σ H v u Q I r q => h.run pins s σ H v u Q I r (i v σ H Q q)⟩
theorem PGs.ofD {X : Cx} {tg : List Expr} {t t' : TGs} (h : PGs X tg t) (i : ∀ v σ H Q, t' v σ H Q → t v σ H Q) : PGs X tg t' := ⟨fun pins s σ H v u Q I r q => h.run pins s σ H v u Q I r (i v σ H Q q)⟩
theorem PTs.ofD {X : Cx} {es : List Expr} {t t' : TT} (h : PTs X es t) (i : ∀ σ H Q, t' σ H Q → t σ H Q) : PTs X es t' := ⟨fun pins s σ H Q I q => h.run pins s σ H Q I (i σ H Q q)⟩
end L2
namespace DL
open PySem PySem.Spec PyProof.Rows L2
/-! ### a cell that is not of the store -/
structure Own (g : Gh) (s : S) (H : Hp) (p : Addr) (o : HO) : Prop where
  at_ : H p = some o
  zn : g.Z p = none
  no : ∀ i, (s.get i).isSome = true → g.α i ≠ p
  ls : ∃ xs, o = .lst xs
theorem Own.nt {g : Gh} {s : S} {H : Hp} {p : Addr} {o : HO} (w : Own g s H p o) : NT o := fun ps z => by
  obtain ⟨xs, h⟩ := w.ls
  rw [h] at z
  cases z
section
variable {K : PySem.W.Frag} {g g' g0 : Gh} {s s' s0 : S} {H H' H0 : Hp} {p : Addr} {o o' : HO}
theorem Own.ext (w : Own g s H p o) (e : Ext g s H g' s' H') : Own g' s' H' p o := by
  obtain ⟨h1, h2⟩ := e.keep p o w.at_ w.nt w.no
  refine ⟨h1, h2 w.zn, fun i hi => ?_, w.ls⟩
  by_cases hl : i < s.size
  · rw [e.al i hl]
    exact w.no i (e.live hl hi)
  · intro q
    exact e.new i (Nat.le_of_not_lt hl) hi o (by rw [q]; exact w.at_) w.nt
theorem ext_own (e : Ext g0 s0 H0 g s H) (hp : H0 p = none) (o' : HO) : Ext g0 s0 H0 g s (upd H p o') where
  le := e.le
  al := e.al
  zz := e.zz
  keep := fun b u hb nt hn => by
    obtain ⟨h1, h2⟩ := e.keep b u hb nt hn
    exact ⟨by rw [upd_ne (ne_of_none hb hp)]; exact h1, h2⟩
  dead := e.dead
  new := e.new
  there := fun b u hb nt => by
    obtain ⟨o1, h1, h2⟩ := e.there b u hb nt
    exact ⟨o1, by rw [upd_ne (ne_of_none hb hp)]; exact h1, h2⟩
  tt := e.tt
theorem abs_own (ab : AbsS K g H s) (hz : g.Z p = none) (hn : ∀ i, (s.get i).isSome = true → g.α i ≠ p) (ho : H p = none ∨ ∃ xs, H p = some (.lst xs)) (o' : HO) : AbsS K g (upd H p o') s where
  zH := fun b u hb => by
    by_cases q : b = p
    · rw [q, hz] at hb
      cases hb
    · rw [upd_ne q]
      exact ab.zH b u hb
  cell := fun i mo h => by
    obtain ⟨u, h1, h2, h3⟩ := ab.cell i mo h
    exact ⟨u, by rw [upd_ne (hn i (by rw [h]; rfl))]; exact h1, h2, h3⟩
  inj := ab.inj
  tabs := by
    rcases ho with h | ⟨xs, h⟩
    · exact tabs_new ab.tabs h
    · exact tabs_put ab.tabs h
  zt := ab.zt
theorem own_new (ab : AbsS K g H s) (hp : H p = none) (xs' : List V) : Own g s (upd H p (.lst xs')) p (.lst xs') := by
  refine ⟨upd_same, ab.zn hp, fun i hi q => ?_, xs', rfl⟩
  cases h : s.get i with
  | none => rw [h] at hi; cases hi
  | some mo =>
    obtain ⟨u, h1, _, _⟩ := ab.cell i mo h
    rw [q, hp] at h1
    cases h1
theorem own_put (w : Own g s H p o) (xs' : List V) : Own g s (upd H p (.lst xs')) p (.lst xs') := ⟨upd_same, w.zn, w.no, xs', rfl⟩
theorem Own.is (w : Own g s H p o) : H p = none ∨ ∃ xs, H p = some (.lst xs) := by
  obtain ⟨xs, h⟩ := w.ls
  exact .inr ⟨xs, by rw [← h]; exact w.at_⟩
end
/-- it is taken away -/
def cutH (H : Hp) (p : Addr) : Hp := fun b => if b = p then none else H b
section
variable {K : PySem.W.Frag} {g g0 : Gh} {s s0 : S} {H H0 : Hp} {p : Addr} {o : HO}
theorem cutH_ne {b : Addr} (h : b ≠ p) : cutH H p b = H b := if_neg h
theorem cutH_same : cutH H p p = none := if_pos rfl
theorem upd_cut (h : H p = some o) : upd (cutH H p) p o = H := by
  funext b
  by_cases q : b = p
  · rw [q, upd_same, h]
  · rw [upd_ne q, cutH_ne q]
theorem ext_cut (e : Ext g0 s0 H0 g s H) (hp : H0 p = none) : Ext g0 s0 H0 g s (cutH H p) where
  le := e.le
  al := e.al
  zz := e.zz
  keep := fun b u hb nt hn => by
    obtain ⟨h1, h2⟩ := e.keep b u hb nt hn
    exact ⟨by rw [cutH_ne (ne_of_none hb hp)]; exact h1, h2⟩
  dead := e.dead
  new := e.new
  there := fun b u hb nt => by
    obtain ⟨o1, h1, h2⟩ := e.there b u hb nt
    exact ⟨o1, by rw [cutH_ne (ne_of_none hb hp)]; exact h1, h2⟩
  tt := e.tt
theorem abs_cut (ab : AbsS K g H s) (w : Own g s H p o) : AbsS K g (cutH H p) s where
  zH := fun b u hb => by
    have q : b ≠ p := fun q => by
      rw [q, w.zn] at hb
      cases hb
    rw [cutH_ne q]
    exact ab.zH b u hb
  cell := fun i mo h => by
    obtain ⟨u, h1, h2, h3⟩ := ab.cell i mo h
    exact ⟨u, by rw [cutH_ne (w.no i (by rw [h]; rfl))]; exact h1, h2, h3⟩
  inj := ab.inj
  tabs := tabs_keep ab.tabs fun b u e n => by
    rw [cutH_ne fun q => by
      obtain ⟨xs, hx⟩ := w.ls
      rw [q, w.at_] at e
      cases e
      exact n xs hx]
    exact e
  zt := ab.zt
end
/-! ### targets -/
/-- the places that a target writes -/
def tgIx (N : List Str) (tg : Expr) : List Nat := match tg with
  | .Name x _ => (match ix x N with
    | some i => [i]
    | none => [])
  | .Tuple es _ _ => es.filterMap fun e => match e with
    | .Name x _ => ix x N
    | _ => none
  | _ => []
def tRG (P : Par) (N : List Str) (tg : Expr) : TG := fun v σ H Q => ∃ ρ g s d ρ', AbsS P.K g H s ∧ EnvOk P g s.size σ ρ ∧ Rep P.K g s.size v d ∧ bindT N tg d ρ = some ρ' ∧
  ∀ σ', EnvOk P g s.size σ' ρ' → (∀ vs : List Nat, (∀ i ∈ tgIx N tg, i ∈ vs) → wipe σ' vs = wipe σ vs) → Q σ' H
theorem wipe_set {σ : L2.St} {i : Nat} {o : Option V} : ∀ {vs : List Nat}, i ∈ vs → wipe (σ.set i o) vs = wipe σ vs
  | [], h => by cases h
  | v :: vs, h => by
    show (wipe (σ.set i o) vs).set v none = (wipe σ vs).set v none
    by_cases hi : i ∈ vs
    · rw [wipe_set hi]
    · have hv : i = v := by
        rcases List.mem_cons.mp h with q | q
        · exact q
        · exact absurd q hi
      subst hv
      have gen : ∀ (ws : List Nat), (wipe (σ.set i o) ws).set i none = (wipe σ ws).set i none := by
        intro ws
        induction ws with
        | nil => show (σ.set i o).set i none = σ.set i none; rw [List.set_set]
        | cons w ws ih =>
          show ((wipe (σ.set i o) ws).set w none).set i none = ((wipe σ ws).set w none).set i none
          by_cases hw : w = i
          · subst hw
            rw [List.set_set, List.set_set]
            exact ih
          · rw [List.set_comm _ _ hw, ih, List.set_comm _ _ (Ne.symm hw)]
      exact gen vs
section
variable {X : Cx} {P : Par} {pos : Pos}
theorem ix_at {x : Str} : ∀ {N : List Str} {i : Nat}, ix x N = some i → N[i]? = some x
  | [], _, h => by cases h
  | y :: r, i, h => by
    unfold ix at h
    by_cases hy : y = x
    · rw [if_pos hy] at h
      cases h
      rw [← hy]
      rfl
    · rw [if_neg hy] at h
      cases q : ix x r with
      | none => rw [q] at h; cases h
      | some k =>
        rw [q] at h
        cases h
        have z := ix_at q
        simpa using z
theorem sg_name {x : Str} {i : Nat} (hI : ∀ σ i o, P.inv σ → P.inv (σ.set i o)) (hN : X.N.Nodup) (hi : ix x X.N = some i) (hx : Loc X.env.scope x) (hf : X.fn x = true ∨ X.env.scope.names.lookup x = some .local) : PG X (.Name x pos) (tRG P X.N (.Name x pos)) := (pg_name hN (ix_at hi) hx hf).ofD fun v σ H Q ⟨ρ, g, s, d, ρ', ab, en, rv, hb, q⟩ => by
  have hb : (match ix x X.N with
    | some i => some (ρ.set i (some d))
    | none => none) = some ρ' := hb
  rw [hi] at hb
  cases hb
  refine q _ (en.set (hI _ _ _ en.inv) rv) fun vs hv => wipe_set (hv i ?_)
  show i ∈ (match ix x X.N with
    | some i => [i]
    | none => [])
  rw [hi]
  exact List.mem_cons_self ..
/-- several names -/
def tRGs (P : Par) (N : List Str) (es : List Expr) : TGs := fun vs σ H Q => ∃ ρ g s ds ρ', AbsS P.K g H s ∧ EnvOk P g s.size σ ρ ∧ RepL P.K g s.size vs ds ∧ bindNs N es ds ρ = some ρ' ∧
  ∀ σ', EnvOk P g s.size σ' ρ' → (∀ ws : List Nat, (∀ i ∈ es.filterMap (fun e => match e with
    | .Name x _ => ix x N
    | _ => none), i ∈ ws) → wipe σ' ws = wipe σ ws) → Q σ' H
/-- names that may be written -/
def AsgOk (X : Cx) (e : Expr) : Prop := ∃ x p i, e = .Name x p ∧ ix x X.N = some i ∧ Loc X.env.scope x ∧ (X.fn x = true ∨ X.env.scope.names.lookup x = some .local)
theorem AsgOk.starred {e : Expr} (h : AsgOk X e) : ∀ es : List Expr, assignEach (e :: es) X.env = (false, assign e X.env) :: assignEach es X.env := by
  obtain ⟨x, p, i, rfl, _⟩ := h
  intro es
  rfl
theorem sgs_names (hI : ∀ σ i o, P.inv σ → P.inv (σ.set i o)) (hN : X.N.Nodup) : ∀ {es : List Expr}, (∀ e ∈ es, AsgOk X e) → PGs X es (tRGs P X.N es)
  | [], _ => pgs_nil.ofD fun vs σ H Q ⟨ρ, g, s, ds, ρ', ab, en, rv, hb, q⟩ => by
    cases ds with
    | cons d ds => cases hb
    | nil =>
      cases hb
      cases rv
      exact ⟨rfl, q _ en fun _ _ => rfl⟩
  | e :: r, h => by
    have he := h e (List.mem_cons_self ..)
    have st := he.starred r
    obtain ⟨x, p, i, rfl, hi, hx, hf⟩ := he
    refine (pgs_cons (pg_name hN (ix_at hi) hx hf) (sgs_names hI hN fun y hy => h y (List.mem_cons_of_mem _ hy)) (by rw [st]; rfl)).ofD fun vs σ H Q ⟨ρ, g, s, ds, ρ', ab, en, rv, hb, q⟩ => ?_
    cases rv with
    | nil =>
      rw [bindNs_short] at hb
      cases hb
    | @cons v vs d ds r1 rr =>
      have hb : (match ix x X.N with
        | some i => bindNs X.N r ds (ρ.set i (some d))
        | none => none) = some ρ' := by rw [← hb]; exact bindNs_cons.symm
      rw [hi] at hb
      refine ⟨v, vs, rfl, ρ.set i (some d), g, s, ds, ρ', ab, en.set (hI _ _ _ en.inv) r1, rr, hb, fun σ' en' hw => q σ' en' fun ws hws => ?_⟩
      have f1 : ∀ k ∈ i :: r.filterMap (fun e => match e with
        | .Name x _ => ix x X.N
        | _ => none), k ∈ ws := by
        have q := hws
        rw [List.filterMap_cons] at q
        dsimp only at q
        rw [hi] at q
        exact q
      rw [hw ws fun k hk => f1 k (List.mem_cons_of_mem _ hk), wipe_set (f1 i (List.mem_cons_self ..))]
theorem each_len {X : Cx} : ∀ {es : List Expr}, (∀ e ∈ es, AsgOk X e) → (assignEach es X.env).length = es.length ∧ (assignEach es X.env).findIdx? (·.1) = none
  | [], _ => ⟨rfl, rfl⟩
  | e :: r, h => by
    obtain ⟨h1, h2⟩ := each_len fun y hy => h y (List.mem_cons_of_mem _ hy)
    rw [(h e (List.mem_cons_self ..)).starred r]
    refine ⟨by rw [List.length_cons, List.length_cons, h1], ?_⟩
    rw [List.findIdx?_cons]
    simp [h2]
theorem bindNs_len {N : List Str} : ∀ {es : List Expr} {ds : List D} {ρ ρ' : Rho}, bindNs N es ds ρ = some ρ' → ds.length = es.length
  | [], [], _, _, _ => rfl
  | [], _ :: _, _, _, h => by cases h
  | e :: r, [], _, _, h => by
    rw [bindNs_short] at h
    cases h
  | e :: r, d :: ds, ρ, ρ', h => by
    cases e with
    | Name x p =>
      have h : (match ix x N with
        | some i => bindNs N r ds (ρ.set i (some d))
        | none => none) = some ρ' := by rw [← h]; exact bindNs_cons.symm
      cases q : ix x N with
      | none => rw [q] at h; cases h
      | some i =>
        rw [q] at h
        rw [List.length_cons, List.length_cons, bindNs_len h]
    | _ => cases h
theorem pg_or {e : Expr} {t1 t2 : TG} (h1 : PG X e t1) (h2 : PG X e t2) : PG X e (fun v σ H Q => t1 v σ H Q ∨ t2 v σ H Q) := ⟨fun pins s σ H v u Q I r hw => hw.elim (h1.run pins s σ H v u Q I r) (h2.run pins s σ H v u Q I r)⟩
theorem sg_tup {es : List Expr} {k : Nat} (hI : ∀ σ i o, P.inv σ → P.inv (σ.set i o)) (hK : P.K = X.K) (hc : X.calm = true) (hN : X.N.Nodup) (h : ∀ e ∈ es, AsgOk X e) : PG X (.Tuple es k pos) (tRG P X.N (.Tuple es k pos)) := by
  obtain ⟨h1, h2⟩ := each_len h
  refine (pg_or (pg_tup hc (sgs_names (P := P) hI hN h) h1 h2) (pg_unl hc (sgs_names (P := P) hI hN h) h1 h2)).ofD fun v σ H Q ⟨ρ, g, s, d, ρ', ab, en, rv, hb, q⟩ => ?_
  cases rv with
  | @tup a xs ds hs rs =>
    have hb : bindNs X.N es ds ρ = some ρ' := hb
    exact .inl ⟨a, xs, rfl, by rw [← hK]; exact sqT_H ab hs, by rw [rs.length]; exact bindNs_len hb, ρ, g, s, ds, ρ', ab, en, rs, hb, q⟩
  | @lst a xs ds hs rs =>
    have hb : bindNs X.N es ds ρ = some ρ' := hb
    exact .inr ⟨a, xs, rfl, .inl (.of (ab.zH _ _ hs)), by rw [rs.length]; exact bindNs_len hb, ρ, g, s, ds, ρ', ab, en, rs, hb, q⟩
  | _ =>
    have hb : (match nmIs X.N es with
      | some is => bindTup is _ ρ
      | none => none) = some ρ' := hb
    cases q2 : nmIs X.N es <;> rw [q2] at hb <;> cases hb
/-- a target of the two kinds -/
theorem sg_any {tg : Expr} (hI : ∀ σ i o, P.inv σ → P.inv (σ.set i o)) (hK : P.K = X.K) (hc : X.calm = true) (hN : X.N.Nodup) (h : AsgOk X tg ∨ ∃ es k p, tg = .Tuple es k p ∧ ∀ e ∈ es, AsgOk X e) : PG X tg (tRG P X.N tg) := by
  rcases h with ⟨x, p, i, rfl, hi, hx, hf⟩ | ⟨es, k, p, rfl, h⟩
  · exact sg_name hI hN hi hx hf
  · exact sg_tup hI hK hc hN h
end
/-- a run that gives a list that nobody else holds -/
def tRN (P : Par) (f : Rho → S → Res (List D)) : TE := fun σ H Q => ∃ ρ g s, AbsS P.K g H s ∧ EnvOk P g s.size σ ρ ∧ Post P H g s (f ρ s) fun es s' g' H' => ∀ p ys, H' p = none → RepL P.K g' s'.size ys es → Q (.ref p) (upd H' p (.lst ys))
theorem sn_lay {X : Cx} {P : Par} {e : Expr} {f : Rho → S → Res (List D)} (h : PE X e (tRN P f)) : PE X e (tR P fun ρ s => asLst (f ρ s)) := h.ofD fun σ H Q ⟨ρ, g, s, ab, en, po⟩ => ⟨ρ, g, s, ab, en, post_lay po⟩
/-! ### a list comprehension -/
section
variable {X : Cx} {P : Par} {elt tg it : Expr} {ifs : List Expr} {scope : Scope} {pos : Pos} {fI : Rho → S → Res Itm} {v : Ev}
/-- it comes to an end without an error -/
def RunOk {α : Type} (r : Res α) (k : α → S → Prop) : Prop := match r with
  | .ok a s => k a s
  | _ => False
theorem RunOk.bind {α β : Type} {r : Res α} {f : α → S → Res β} {k : β → S → Prop} (h : RunOk (r.bind f) k) : RunOk r fun a s => RunOk (f a s) k := by
  cases r with
  | ok a s' => exact h
  | err x s' => exact h.elim
  | stuck => exact h
theorem RunOk.post {α : Type} {r : Res α} {k : α → S → Prop} (h : RunOk r k) {H : Hp} {g : Gh} {s : S} : Post P.quiet H g s r fun a s' _ _ => k a s' := by
  cases r with
  | ok a s' => exact fun g' H' _ _ => h
  | err x s' => exact h.elim
  | stuck => exact h
theorem RunOk.imp {α : Type} {r : Res α} {k k' : α → S → Prop} (h : RunOk r k) (i : ∀ a s, k a s → k' a s) : RunOk r k' := by
  cases r with
  | ok a s' => exact i _ _ h
  | err x s' => exact h
  | stuck => exact h
theorem post_calm {α β : Type} {H : Hp} {g : Gh} {s : S} {r : Res α} {f : α → S → Res β} {k : β → S → Gh → Hp → Prop} (h : Post P H g s (r.calm.bind f) k) : RunOk r fun a s' => Post P H g s (f a s') k := by
  cases r with
  | ok a s' => exact h
  | err x s' => exact h.elim
  | stuck => exact h
theorem drop_at {α : Type} {l : List α} {i : Nat} {a : α} (h : l[i]? = some a) : l.drop i = a :: l.drop (i + 1) := by
  obtain ⟨h1, h2⟩ := List.getElem?_eq_some_iff.mp h
  rw [List.drop_eq_getElem_cons h1, h2]
theorem some_at {α : Type} {l : List α} {i : Nat} (h : i < l.length) : ∃ a, l[i]? = some a := ⟨l[i], by simp [h]⟩
/-- by the run: what the rule asks -/
theorem tlc_of {own : List (Str × Nat)} {σ : L2.St} {H : Hp} {Q : VK} (hsub : ∀ i ∈ tgIx X.N tg, i ∈ own.map (·.2))
    (h : tRN P (fun ρ s => (fI ρ s).bind fun t s => (compL (compStep X.N v elt tg ifs (wipeR ρ (own.map (·.2)))) t.src t.items s).calm.bind fun ds s => if t.items.length ≤ line then .ok ds s else .stuck) σ H Q) :
    tLc (tRI P fI) (tRG P.quiet X.N tg) (tRT P.quiet (evIfs v.T ifs)) (tR P.quiet (v.E elt)) (own.map (·.2)) σ H Q := by
  obtain ⟨ρ, g, s, ab, en, po⟩ := h
  refine ⟨ρ, g, s, ab, en, po.bind.imp fun t s1 g1 H1 e1 ab1 p1 J jo p hp => ?_⟩
  generalize hvs : own.map (·.2) = vs at p1 hsub ⊢
  have p2 := post_calm p1
  have en1 := en.ext e1
  have ab2 := abs_own (p := p) ab1 (ab1.zn hp) (own_new ab1 hp []).no (.inl hp) (.lst [])
  let step := compStep X.N v elt tg ifs (wipeR ρ vs)
  let Inv : Nat → Hp → Prop := fun i H' => ∃ g' s' av acc, AbsS P.K g' H' s' ∧ Ext g1 s1 H1 g' s' H' ∧ Own g' s' H' p (.lst av) ∧ RepL P.K g' s'.size av acc ∧ av.length ≤ i ∧
    RunOk (compL step t.src (t.items.drop i) s') fun r s'' => Post P H1 g1 s1 (if t.items.length ≤ line then .ok (acc ++ r) s'' else .stuck) fun es s' g' H' => ∀ p ys, H' p = none → RepL P.K g' s'.size ys es → Q (.ref p) (upd H' p (.lst ys))
  have hlen : t.items.length ≤ line := by
    by_cases hlen : t.items.length ≤ line
    · exact hlen
    · have z := p2.imp (k' := fun _ _ => False) fun a s' z => by
        rw [if_neg hlen] at z
        exact z
      cases q : compL (compStep X.N v elt tg ifs (wipeR ρ vs)) t.src t.items s1 with
      | ok a s' => rw [q] at z; exact z.elim
      | err x s' => rw [q] at z; exact z.elim
      | stuck => rw [q] at z; exact z.elim
  refine ⟨fun i m H' => m = t.items.length - i ∧ i ≤ t.items.length ∧ Inv i H', ⟨_, rfl, Nat.zero_le _, g1, s1, [], [], ab2, ext_own (Ext.refl ..) hp _, own_new ab1 hp _, .nil, Nat.le_refl _, ?_⟩, ?_⟩
  · rw [List.drop_zero]
    exact p2.imp fun a s' z => by rw [List.nil_append]; exact z
  · rintro i m H2 ⟨rfl, hi, g2, s2, av, acc, ab3, e3, w3, r3, hl3, po3⟩
    by_cases hlt : i < t.items.length
    · right
      obtain ⟨d, hd⟩ := some_at hlt
      rw [drop_at hd] at po3
      have po3 : RunOk (if still t.src s2 = true then (step d s2).bind fun o s => (compL step t.src (t.items.drop (i + 1)) s).bind fun r s => match o with
          | some y => .ok (y :: r) s
          | none => .ok r s
        else .stuck) _ := po3
      by_cases hst : still t.src s2 = true
      · rw [if_pos hst] at po3
        obtain ⟨hgo, hy⟩ := jo.item i d g2 s2 H2 e3 ab3 hst hd
        refine ⟨hgo, Inv (i + 1), fun H' hI => ⟨t.items.length - (i + 1), by omega, rfl, hlt, hI⟩, fun x H4 hyl => ?_⟩
        obtain ⟨g4, e4, ab4, rx⟩ := hy x H4 hyl
        have en4 : EnvOk P.quiet g4 s2.size (wipe σ vs) (wipeR ρ vs) := ((en1.ext e3).ext e4).wipe vs
        have po5 : RunOk (match bindT X.N tg d (wipeR ρ vs) with
          | none => .stuck
          | some ρ => (evIfs v.T ifs ρ s2).bind fun b s => match b with
            | true => (v.E elt ρ s).bind fun y s => .ok (some y) s
            | false => .ok none s) _ := po3.bind
        cases hb : bindT X.N tg d (wipeR ρ vs) with
        | none => rw [hb] at po5; exact po5.elim
        | some ρ2 =>
          rw [hb] at po5
          refine ⟨wipeR ρ vs, g4, s2, d, ρ2, ab4, en4, rx, hb, fun σ2 en5 hw => ⟨?_, ρ2, g4, s2, ab4, en5, (RunOk.post (RunOk.bind po5)).imp fun b s6 g6 H6 e6 ab6 p6 => ?_⟩⟩
          · rw [hw vs hsub]
            have gen : ∀ {ws vs : List Nat}, (∀ i ∈ ws, i ∈ vs) → wipe (wipe σ vs) ws = wipe σ vs := by
              intro ws
              induction ws with
              | nil => intro vs _; rfl
              | cons w ws ih =>
                intro vs h
                show (wipe (wipe σ vs) ws).set w none = _
                rw [ih fun i hi => h i (List.mem_cons_of_mem _ hi)]
                have hw := h w (List.mem_cons_self ..)
                clear ih h
                induction vs with
                | nil => cases hw
                | cons u us ih2 =>
                  show ((wipe σ us).set u none).set w none = (wipe σ us).set u none
                  by_cases huw : u = w
                  · subst huw
                    rw [List.set_set]
                  · have : w ∈ us := by
                      rcases List.mem_cons.mp hw with q | q
                      · exact absurd q.symm huw
                      · exact q
                    rw [List.set_comm _ _ huw, ih2 this]
            exact gen fun _ h => h
          · have e26 := e3.trans (e4.trans e6)
            have w6 := (w3.ext e4).ext e6
            have r6 := e6.repL (e4.repL r3)
            cases b with
            | true =>
              refine iteT ⟨ρ2, g6, s6, ab6, en5.ext e6, ?_⟩
              refine (RunOk.post (RunOk.bind p6)).imp fun y s7 g7 H7 e7 ab7 p7 u ru => ?_
              have w7 := w6.ext e7
              have p8 : RunOk ((compL step t.src (t.items.drop (i + 1)) s7).bind fun r s => .ok (y :: r) s) _ := p7
              refine ⟨av, w7.at_, ?_, g7, s7, av ++ [u], acc ++ [y], abs_own ab7 w7.zn w7.no w7.is _, ext_own (e26.trans e7) hp _, own_put w7 _, (e7.repL r6).append (.cons ru .nil), ?_, ?_⟩
              · rw [← line_eq]
                omega
              · rw [List.length_append]
                exact Nat.succ_le_succ hl3
              · refine (RunOk.bind p8).imp fun r s' z => ?_
                rw [List.append_assoc]
                exact z
            | false =>
              refine iteF ⟨g6, s6, av, acc, ab6, e26, w6, r6, Nat.le_succ_of_le hl3, ?_⟩
              have p8 : RunOk ((compL step t.src (t.items.drop (i + 1)) s6).bind fun r s => .ok r s) _ := p6
              exact (RunOk.bind p8).imp fun r s' z => z
      · rw [if_neg hst] at po3
        exact po3.elim
    · left
      have hi2 : i = t.items.length := by omega
      subst hi2
      rw [List.drop_length] at po3
      have po3 : RunOk (if still t.src s2 = true then .ok [] s2 else .stuck) _ := po3
      by_cases hst : still t.src s2 = true
      · rw [if_pos hst] at po3
        have q : Post P H1 g1 s1 (if t.items.length ≤ line then .ok (acc ++ []) s2 else .stuck) fun es s' g' H' => ∀ p ys, H' p = none → RepL P.K g' s'.size ys es → Q (.ref p) (upd H' p (.lst ys)) := po3
        rw [List.append_nil, if_pos hlen] at q
        refine ⟨jo.stop g2 s2 H2 e3 ab3 hst, ?_⟩
        have z := q _ _ (ext_cut e3 hp) (abs_cut ab3 w3) p av cutH_same r3
        rw [upd_cut w3.at_] at z
        exact z
      · rw [if_neg hst] at po3
        exact po3.elim
end
end DL
set_option Elab.async false
set_option linter.all false
set_option maxRecDepth 100000
set_option maxHeartbeats 2000000
/-! The data layer, part 13: how a call binds, what a def promises. -/
namespace DL
open PySem PySem.Spec PyProof.Rows L2
theorem sem_pure_bind {α β : Type} (a : α) (f : α → Sem β) : (pure a >>= f : Sem β) = f a := rfl
theorem seq_none : seqItems? .none = pure none := rfl
theorem loop_ok {σ : Type} (body : Str × Value → List (Str × Value) × σ → Sem (ForInStep (List (Str × Value) × σ))) : ∀ (kws slots : List (Str × Value)) (x : σ),
    (∀ k v sl, (k, v) ∈ kws → (sl.lookup k).isSome = false → body (k, v) (sl, x) = pure (.yield (sl ++ [(k, v)], x))) → (kws.map (·.1)).Nodup → (∀ k ∈ kws.map (·.1), slots.lookup k = none) →
    forIn kws (slots, x) body = pure (slots ++ kws, x)
  | [], slots, x, _, _, _ => by rw [List.append_nil]; rfl
  | (k, v) :: r, slots, x, h, nd, no => by
    rw [List.forIn_cons, h k v slots (List.mem_cons_self ..) (by rw [no k (List.mem_cons_self ..)]; rfl), sem_pure_bind]
    show forIn r (slots ++ [(k, v)], x) body = _
    rw [loop_ok body r (slots ++ [(k, v)]) x (fun k' v' sl hm => h k' v' sl (List.mem_cons_of_mem _ hm)) (List.nodup_cons.mp nd).2 fun k' hk' => ?_]
    · rw [List.append_assoc]; rfl
    · rw [List.lookup_append, no k' (List.mem_cons_of_mem _ hk')]
      have : k' ≠ k := fun e => (List.nodup_cons.mp nd).1 (e ▸ hk')
      have e : (k' == k) = false := by simpa using this
      simp only [Option.none_or, List.lookup_cons, e, List.lookup_nil]
/-- parameters by place or name, all given, no defaults -/
structure Sig (fd : FuncData) (ps : List Str) : Prop where
  po : fd.params.posonlyargs = []
  ar : fd.params.args.map (·.arg) = ps
  ko : fd.params.kwonlyargs = []
  va : fd.params.vararg = none
  kw : fd.params.kwarg = none
  df : fd.defaults = .none
  nd : ps.Nodup
theorem bind_raw {fd : FuncData} {ps : List Str} (g : Sig fd ps) (us : List Value) (kws : List (Str × Value))
   (nd : (kws.map (·.1)).Nodup) (hk : ∀ k ∈ kws.map (·.1), k ∈ ps ∧ (ps.zip us).lookup k = none) (hl : us.length ≤ ps.length) (ha : ∀ p ∈ ps, ((ps.zip us ++ kws).lookup p).isSome = true) : bindArgs fd ⟨us, kws⟩ = pure (ps.filterMap fun n => ((ps.zip us ++ kws).lookup n).map fun v => (n, v)) := by
  have hc : ∀ k ∈ kws.map (·.1), ps.contains k = true := fun k hk' => by simpa using (hk k hk').1
  unfold bindArgs
  simp only [g.po, g.ar, g.ko, g.va, g.kw, g.df, List.map_nil, List.nil_append, List.append_nil]
  rw [loop_ok]
  · simp only [seq_none, sem_pure_bind]
    simp only [decide_eq_true_eq, Option.isNone_none, Bool.and_true]
    rw [if_neg (by omega)]
    have e2 : ps.filter (fun n => (List.lookup n (ps.zip us ++ kws)).isNone) = [] := by
      rw [List.filter_eq_nil_iff]
      intro p hp
      have := ha p hp
      rw [Option.isSome_iff_exists] at this
      obtain ⟨v, hv⟩ := this
      simp [hv]
    simp only [Option.getD_none, List.drop_nil, List.length_nil, Nat.sub_zero, List.take_length, List.drop_length, List.zip_nil_right, e2, List.isEmpty_nil, Bool.not_true]
    rfl
  · intro k v sl hm hn
    have hk' : k ∈ kws.map (·.1) := List.mem_map.mpr ⟨(k, v), hm, rfl⟩
    simp only [hc k hk', Bool.true_or, hn, if_true]
    rfl
  · exact nd
  · exact fun k hk' => (hk k hk').2
theorem find_lookup {α : Type} (p : Str) : ∀ {kws : List (Str × α)} {q : Str × α}, kws.find? (fun q => decide (q.1 = p)) = some q → kws.lookup p = some q.2
  | [], _, h => by cases h
  | (k, v) :: r, q, h => by
    rw [List.find?_cons] at h
    by_cases e : k = p
    · subst e
      simp only [decide_true] at h
      cases h
      simp
    · have e' : (p == k) = false := by simpa using fun z => e z.symm
      simp only [e, decide_false] at h
      rw [List.lookup_cons, e']
      exact find_lookup p h
theorem pick_zip {kws : List (Str × Value)} : ∀ {ps : List Str} {es : List Value}, kwPick kws ps = some es → (∀ p ∈ ps, (kws.lookup p).isSome = true) ∧ es.length = ps.length ∧ (ps.filterMap fun n => (kws.lookup n).map fun v => (n, v)) = ps.zip es
  | [], es, h => by
    cases h
    exact ⟨fun p hp => absurd hp (by simp), rfl, rfl⟩
  | p :: r, es, h => by
    unfold kwPick at h
    cases q : kws.find? (fun q => decide (q.1 = p)) with
    | none => rw [q] at h; cases h
    | some x =>
      rw [q] at h
      dsimp only at h
      cases z : kwPick kws r with
      | none => rw [z] at h; cases h
      | some fs =>
        rw [z] at h
        cases h
        obtain ⟨h1, h2, h3⟩ := pick_zip z
        have l := find_lookup p q
        refine ⟨fun y hy => ?_, by rw [List.length_cons, List.length_cons, h2], ?_⟩
        · rcases List.mem_cons.mp hy with rfl | hy
          · rw [l]; rfl
          · exact h1 y hy
        · rw [List.filterMap_cons, l]
          rw [List.zip_cons_cons, ← h3]
          rfl
theorem zip_lookup_none {α : Type} : ∀ {ps : List Str} {us : List α} {k : Str}, k ∉ ps → (ps.zip us).lookup k = none
  | [], _, _, _ => rfl
  | _ :: _, [], _, _ => rfl
  | p :: r, u :: t, k, h => by
    have e : (k == p) = false := by
      simp only [beq_eq_false_iff_ne, ne_eq]
      intro z
      exact h (z ▸ List.mem_cons_self ..)
    rw [List.zip_cons_cons, List.lookup_cons, e]
    exact zip_lookup_none fun z => h (List.mem_cons_of_mem _ z)
theorem bind_all {kws : List (Str × Value)} : ∀ {ps : List Str} {us es : List Value}, ps.Nodup → us.length ≤ ps.length → kwPick kws (ps.drop us.length) = some es → (∀ k ∈ kws.map (·.1), k ∈ ps.drop us.length) →
    (∀ k ∈ kws.map (·.1), k ∈ ps ∧ (ps.zip us).lookup k = none) ∧ (∀ p ∈ ps, ((ps.zip us ++ kws).lookup p).isSome = true) ∧ (ps.filterMap fun n => ((ps.zip us ++ kws).lookup n).map fun v => (n, v)) = ps.zip (us ++ es)
  | ps, [], es, nd, hl, hp, hk => by
    obtain ⟨h1, h2, h3⟩ := pick_zip hp
    rw [List.length_nil, List.drop_zero] at h1 h3 hk
    simp only [List.zip_nil_right, List.nil_append, List.lookup_nil]
    exact ⟨fun k hk' => ⟨hk k hk', trivial⟩, h1, h3⟩
  | [], _ :: _, _, _, hl, _, _ => by simp at hl
  | p :: r, u :: t, es, nd, hl, hp, hk => by
    rw [List.length_cons, List.drop_succ_cons] at hp hk
    have nd' := List.nodup_cons.mp nd
    obtain ⟨h1, h2, h3⟩ := bind_all nd'.2 (by simpa using hl) hp hk
    have ne : ∀ x ∈ r, (x == p) = false := fun x hx => by
      simp only [beq_eq_false_iff_ne, ne_eq]
      intro z
      exact nd'.1 (z ▸ hx)
    refine ⟨fun k hk' => ⟨List.mem_cons_of_mem _ (h1 k hk').1, ?_⟩, fun x hx => ?_, ?_⟩
    · rw [List.zip_cons_cons, List.lookup_cons, ne k (h1 k hk').1]
      exact (h1 k hk').2
    · rw [List.zip_cons_cons, List.cons_append, List.lookup_cons]
      rcases List.mem_cons.mp hx with rfl | hx
      · simp
      · rw [ne x hx]
        exact h2 x hx
    · rw [List.zip_cons_cons, List.cons_append, List.filterMap_cons]
      simp only [List.lookup_cons, beq_self_eq_true, Option.map]
      rw [List.cons_append, List.zip_cons_cons, ← h3]
      congr 1
      have gen : ∀ (l : List Str) (f g : Str → Option (Str × Value)), (∀ x ∈ l, f x = g x) → l.filterMap f = l.filterMap g := by
        intro l f g h
        induction l with
        | nil => rfl
        | cons y l ih => rw [List.filterMap_cons, List.filterMap_cons, h y (List.mem_cons_self ..), ih fun x hx => h x (List.mem_cons_of_mem _ hx)]
      refine gen _ _ _ fun x hx => ?_
      rw [ne x hx]
      dsimp only
      cases List.lookup x (r.zip t ++ kws) <;> rfl
theorem bind_ok {fd : FuncData} {ps : List Str} (g : Sig fd ps) {us ws es : List Value} {ks : List Str} (hw : ws.length = ks.length) (hl : us.length ≤ ps.length) (nd : ks.Nodup) (hk : ∀ k ∈ ks, k ∈ ps.drop us.length) (hp : kwPick (ks.zip ws) (ps.drop us.length) = some es) :
    bindArgs fd ⟨us, ks.zip ws⟩ = pure (ps.zip (us ++ es)) := by
  have e : (ks.zip ws).map (·.1) = ks := by rw [List.map_fst_zip]; omega
  obtain ⟨h1, h2, h3⟩ := bind_all (kws := ks.zip ws) g.nd hl hp (by rw [e]; exact hk)
  rw [bind_raw g us (ks.zip ws) (by rw [e]; exact nd) h1 hl h2, h3]
/-! ### the values that are picked -/
theorem pick_rel {α β : Type} {R : List α → List β → Prop} {r : α → β → Prop} (nil : R [] []) (cons : ∀ {a b as bs}, r a b → R as bs → R (a :: as) (b :: bs)) {ks : List Str} {as : List α} {bs : List β}
    (h : ∀ p q, (ks.zip as).find? (fun q => decide (q.1 = p)) = some q → ∃ q', (ks.zip bs).find? (fun q => decide (q.1 = p)) = some q' ∧ r q.2 q'.2) : ∀ {ps : List Str} {es : List α}, kwPick (ks.zip as) ps = some es → ∃ fs, kwPick (ks.zip bs) ps = some fs ∧ R es fs
  | [], es, hp => by
    cases hp
    exact ⟨[], rfl, nil⟩
  | p :: t, es, hp => by
    unfold kwPick at hp
    cases q : (ks.zip as).find? (fun q => decide (q.1 = p)) with
    | none => rw [q] at hp; cases hp
    | some x =>
      rw [q] at hp
      dsimp only at hp
      cases z : kwPick (ks.zip as) t with
      | none => rw [z] at hp; cases hp
      | some gs =>
        rw [z] at hp
        cases hp
        obtain ⟨y, h1, h2⟩ := h p x q
        obtain ⟨fs, h3, h4⟩ := pick_rel nil cons h z
        refine ⟨y.2 :: fs, ?_, cons h2 h4⟩
        unfold kwPick
        rw [h1]
        dsimp only
        rw [h3]
theorem find_vals {p : Str} : ∀ {ks : List Str} {vs : List V} {us : List Value} {q : Str × V}, Vals vs us → (ks.zip vs).find? (fun q => decide (q.1 = p)) = some q → ∃ q', (ks.zip us).find? (fun q => decide (q.1 = p)) = some q' ∧ RelV q.2 q'.2
  | [], _, _, _, _, h => by simp at h
  | _ :: _, [], _, _, _, h => by simp at h
  | k :: r, v :: vs, _, q, .cons h1 h2, h => by
    rw [List.zip_cons_cons, List.find?_cons] at h ⊢
    by_cases e : k = p
    · simp only [e, decide_true] at h ⊢
      cases h
      exact ⟨_, rfl, h1⟩
    · simp only [e, decide_false] at h ⊢
      exact find_vals h2 h
theorem find_rep {K : PySem.W.Frag} {g : Gh} {n : Nat} {p : Str} : ∀ {ks : List Str} {ds : List D} {vs : List V} {q : Str × D}, RepL K g n vs ds → (ks.zip ds).find? (fun q => decide (q.1 = p)) = some q → ∃ q', (ks.zip vs).find? (fun q => decide (q.1 = p)) = some q' ∧ Rep K g n q'.2 q.2
  | [], _, _, _, _, h => by simp at h
  | _ :: _, [], _, _, _, h => by simp at h
  | k :: r, d :: ds, _, q, .cons h1 h2, h => by
    rw [List.zip_cons_cons, List.find?_cons] at h ⊢
    by_cases e : k = p
    · simp only [e, decide_true] at h ⊢
      cases h
      exact ⟨_, rfl, h1⟩
    · simp only [e, decide_false] at h ⊢
      exact find_rep h2 h
/-! ### a def's promise by a run -/
structure FnG (P : Program) (w : World) (K : PySem.W.Frag) (mg : Str → Option Value) (base : Heap) (cl : Str → Option Addr) (T : List (Addr × Str)) (k : Nat) (f : Addr) (ps : List Str) (F : Den) : Prop where
  run : ∃ fd, Sig fd ps ∧ ∀ (A : Around) (outer : List Env) (s : Shared) (H : Hp) (args : Args) (us : List Value) (vs : List V) (Q : VK) (E : XK) (ds : List D) (g : Gh) (st : S), A.guards = some [] → Room k A → Env0 P w K mg base A outer s H → BindsTo s fd args (ps.zip us) → Vals vs us → vs.length = ps.length →
    AbsS K g H st → g.T = T → RepL K g st.size vs ds → (Post ⟨K, cl, E, fun _ => True, T⟩ H g st (F ds st) fun d s' g' H' => ∀ v, Rep K g' s'.size v d → Q v H') → codeAny (model P w) A (.call (.ref f) args) (CR (L2.CX P w) outer P w H s Q E) s
section
variable {X : Cx} {P : Par} {k : Nat} {f : Addr} {ps : List Str} {F : Den} {x : Str} {p pos : Pos}
/-- exceptions of a callee reach the caller's wish -/
def PassIn (X : Cx) (P : Par) : Prop := ∀ (pins : List (Addr × Obj)) (σ : L2.St) (H : Hp) (s : Shared) (e : Value) (s' : Shared), P.inv σ → Inv X pins σ H s → L2.CX X.prog X.w X.stack H s P.E e s' → X.xe e s'
/-- the parameters' circumstances matter no more -/
theorem Post.par {α : Type} {P P' : Par} {H : Hp} {g : Gh} {s : S} {r : Res α} {k : α → S → Gh → Hp → Prop} (h : Post P H g s r k) (e1 : P.K = P'.K) (e2 : P.cl = P'.cl) (e3 : P.E = P'.E) : Post P' H g s r k := by
  obtain ⟨K, cl, E, iv, T⟩ := P
  obtain ⟨K', cl', E', iv', T'⟩ := P'
  cases e1
  cases e2
  cases e3
  cases r with
  | ok a s' => exact h
  | err x s' => exact h
  | stuck => exact h
theorem run_fnG {pins : List (Addr × Obj)} {σ : L2.St} {H : Hp} {s : Shared} {Q : VK} {us ws es : List Value} {vs : List V} {ks : List Str} {ds : List D} {g : Gh} {st : S} (hK : P.K = X.K) (G : FnG X.prog X.w X.K X.mg X.base P.cl P.T k f ps F) (hg : X.A.guards = some []) (hr : Room k X.A) (hx : PassIn X P) (hi : P.inv σ)
    (I : Inv X pins σ H s) (r : Vals vs (us ++ es)) (hw : ws.length = ks.length) (hl : us.length ≤ ps.length) (hv : vs.length = ps.length) (nd : ks.Nodup) (hk : ∀ k ∈ ks, k ∈ ps.drop us.length) (hp : kwPick (ks.zip ws) (ps.drop us.length) = some es)
    (ab : AbsS P.K g H st) (ht : g.T = P.T) (rv : RepL P.K g st.size vs ds) (po : Post P H g st (F ds st) fun d s' g' H' => ∀ v, Rep P.K g' s'.size v d → Q v H') :
    wpAny (model X.prog X.w) X.A (call (.ref f) us (ks.zip ws)) (EP X pins σ Q) X.xe s := by
  obtain ⟨fd, sg, run⟩ := G.run
  rw [hK] at ab rv po
  have po2 : Post ⟨X.K, P.cl, P.E, fun _ => True, P.T⟩ H g st (F ds st) fun d s' g' H' => ∀ v, Rep X.K g' s'.size v d → Q v H' := po.par hK rfl rfl
  refine wpAny_call (codeAny_mono (run X.A X.stack s H ⟨us, ks.zip ws⟩ (us ++ es) vs Q P.E ds g st hg hr I.env0 (.of_eq (bind_ok sg hw hl nd hk hp)) r hv ab ht rv po2) fun r s' hq => ?_)
  match r, hq with
  | .error e, hq => exact hx pins σ H s e s' hi I hq
  | .ok (.ret u), hq => exact I.after hq
  | .ok .next, hq => exact False.elim hq
  | .ok .brk, hq => exact False.elim hq
  | .ok .cont, hq => exact False.elim hq
end
end DL
set_option Elab.async false
set_option linter.all false
set_option maxRecDepth 100000
set_option maxHeartbeats 2000000
/-! The data layer, part 14: contexts, names, calls. -/
namespace DL
open PySem PySem.Spec PyProof.Rows L2
/-! ### what is asked of scopes -/
def visC (sc : Scope) (x : Str) : Bool := match sc.names.lookup x with
  | some .local => true
  | some .cell => true
  | some .free => true
  | _ => false
def gloC (sc : Scope) (x : Str) : Bool := match sc.names.lookup x with
  | some .globalImplicit => true
  | _ => false
def asgC (sc : Scope) (x : Str) : Bool := match sc.names.lookup x with
  | some .local => true
  | some .cell => true
  | _ => false
def okN (x : Str) : Bool := !(x == ("__debug__" : Str)) && !(x == ("__classdict__" : Str)) && !decide (x = ("__name__" : Str))
def nostar (e : Expr) : Bool := match e with
  | .Starred _ _ => false
  | _ => true
def btName : Bt → Str
  | .len => "len"
  | .abs => "abs"
  | .max => "max"
  | .min => "min"
  | .sum => "sum"
  | .all => "all"
  | .any => "any"
  | .int => "int"
  | .list => "list"
  | .tuple => "tuple"
  | .divmod => "divmod"
  | .repr => "repr"
  | .sorted => "sorted"
  | .range => "range"
  | .zip => "zip"
  | .enumerate => "enumerate"
  | .isinst => "isinstance"
  | .set => "set"
  | .bool => "bool"
  | .str => "str"
def btVal : Bt → Value
  | .len => .builtin "len"
  | .abs => .builtin "abs"
  | .max => .builtin "max"
  | .min => .builtin "min"
  | .sum => .builtin "sum"
  | .all => .builtin "all"
  | .any => .builtin "any"
  | .int => .type "int"
  | .list => .type "list"
  | .tuple => .type "tuple"
  | .divmod => .builtin "divmod"
  | .repr => .builtin "repr"
  | .sorted => .builtin "sorted"
  | .range => .type "range"
  | .zip => .type "zip"
  | .enumerate => .type "enumerate"
  | .isinst => .builtin "isinstance"
  | .set => .type "set"
  | .bool => .type "bool"
  | .str => .type "str"
theorem bt_boot (b : Bt) : bootBuiltins (btName b) = some (btVal b) := by cases b <;> decide +kernel
theorem bt_ok (b : Bt) : btName b ≠ ("__name__" : Str) ∧ (btName b == ("__debug__" : Str)) = false := by cases b <;> decide +kernel
/-- a thing of the module is there -/
def GOk (X : Cx) (P : Par) (x : Str) : GV → Prop
  | .fn ps F => ∃ f k, X.mg x = some (.ref f) ∧ PySem.W.keepIn X.K (.ref f) = true ∧ FnG X.prog X.w X.K X.mg X.base P.cl P.T k f ps F ∧ Room k X.A
  | .int i => ∃ u, X.mg x = some u ∧ RelV (.int i) u
  | .str y => ∃ u, X.mg x = some u ∧ RelV (.str y) u
  | .cls _ => True
  | .bt b => x = btName b → X.mg x = none
/-- where a lambda may be made: the def's code object, its table -/
def LamOk (X : Cx) (P : Par) : Prop := ∃ cc tb, X.env.code = .ref cc ∧ LamX.TabB X.base X.mg cc tb ∧ (tb, X.env.qual ++ "<lambda>") ∈ P.T ∧ ∀ p ∈ P.T, p.1 = tb → p.2 = X.env.qual ++ "<lambda>"
/-- the context of an expression -/
structure Good (X : Cx) (P : Par) (c : Cfg) (sc raw : Scope) : Prop where
  hK : P.K = X.K
  hN : X.N = c.N
  nd : X.N.Nodup
  calm : X.calm = true
  un : X.A.units + 80 < cLine
  dp : X.A.depth + 4 < recursionLimit
  lam : c.lam = true → LamOk X P
  gd : X.A.guards = some []
  sc : X.env.scope = sc
  asg : ∀ x, asgC raw x = true → Loc X.env.scope x ∧ (X.fn x = true ∨ X.env.scope.names.lookup x = some .local)
  pass : PassIn X P
  tab : ∀ x gv, glook x c.G = some gv → GOk X P x gv
theorem lookup_rel {scope sc : Scope} {x : Str} {k : NameKind} (hk : k ≠ .free) (h : scope.names.lookup x = some k) : (relS scope sc).names.lookup x = some k := by
  unfold relS
  exact lookup_relS_keep hk h
theorem pass_quiet {X : Cx} {P : Par} : PassIn X P.quiet := fun pins σ H s e s' _ _ h => by
  obtain ⟨_, _, _, _, _, _, _, _, _, _, _, _, z⟩ := h
  exact z.elim
section
variable {X : Cx} {P : Par} {c : Cfg} {sc raw : Scope}
/-- a comprehension's block -/
theorem Good.blk (G : Good X P c sc raw) (s : Shared) (H : Hp) (scope : Scope) (cl : List (Str × Addr)) (C : Addr) (fp : List Addr) : Good (X.blk s H scope (compEnvC scope cl C X.env) fp) P.quiet c (relS scope sc) scope where
  hK := G.hK
  hN := G.hN
  nd := G.nd
  calm := G.calm
  un := G.un
  dp := G.dp
  lam := G.lam
  gd := G.gd
  sc := by
    show relS scope X.env.scope = _
    rw [G.sc]
  asg := fun x h => by
    have e : (X.blk s H scope (compEnvC scope cl C X.env) fp).env.scope = relS scope X.env.scope := rfl
    rw [e]
    unfold asgC at h
    cases q : scope.names.lookup x with
    | none => rw [q] at h; cases h
    | some k =>
      rw [q] at h
      cases k with
      | «local» => exact ⟨.inl (lookup_rel (by decide) q), .inr (lookup_rel (by decide) q)⟩
      | cell => exact ⟨.inr (lookup_rel (by decide) q), .inl (by show (scope.names.lookup x == some NameKind.cell) = true; rw [q]; rfl)⟩
      | _ => cases h
  pass := pass_quiet
  tab := G.tab
theorem vis_of {x : Str} (h : visC sc x = true) : Vis sc x := by
  unfold visC at h
  unfold Vis
  cases q : sc.names.lookup x with
  | none => rw [q] at h; cases h
  | some k =>
    rw [q] at h
    cases k with
    | «local» => exact .inl rfl
    | cell => exact .inr (.inl rfl)
    | free => exact .inr (.inr rfl)
    | _ => cases h
theorem glo_of {x : Str} (G : Good X P c sc raw) (h : gloC sc x = true) : Gl X x := by
  unfold gloC at h
  show X.env.scope.names.lookup x = _
  rw [G.sc]
  cases q : sc.names.lookup x with
  | none => rw [q] at h; cases h
  | some k =>
    rw [q] at h
    cases k with
    | globalImplicit => rfl
    | _ => cases h
theorem okN_of {x : Str} (h : okN x = true) : (x == ("__debug__" : Str)) = false ∧ (x == ("__classdict__" : Str)) = false := by
  unfold okN at h
  simp only [Bool.and_eq_true, Bool.not_eq_true', Bool.not_eq_eq_eq_not, Bool.not_true] at h
  exact ⟨h.1.1, h.1.2⟩
theorem star_of {e : Expr} (h : nostar e = true) (env : Env) (es : List Expr) : starEach (e :: es) env = (false, eval e env) :: starEach es env := by
  cases e <;> first | rfl | cases h
theorem nm_loc {x : Str} {i : Nat} (h : nm c x = .loc i) : ix x c.N = some i := by
  unfold nm at h
  cases q : ix x c.N with
  | some j => rw [q] at h; cases h; rfl
  | none =>
    rw [q] at h
    cases z : glook x c.G with
    | none => rw [z] at h; cases h
    | some g => rw [z] at h; cases h
theorem nm_glo {x : Str} {g : GV} (h : nm c x = .glo g) : glook x c.G = some g := by
  unfold nm at h
  cases q : ix x c.N with
  | some j => rw [q] at h; cases h
  | none =>
    rw [q] at h
    cases z : glook x c.G with
    | none => rw [z] at h; cases h
    | some g' => rw [z] at h; cases h; rfl
/-- a name -/
def ckName (c : Cfg) (sc : Scope) (x : Str) : Bool := okN x && (match nm c x with
  | .loc _ => visC sc x
  | .glo _ => gloC sc x
  | .no => true)
theorem se_name {x : Str} {pos : Pos} (G : Good X P c sc raw) (h : ckName c sc x = true) : PE X (.Name x pos) (tR P (evName c x)) := by
  unfold ckName at h
  rw [Bool.and_eq_true] at h
  obtain ⟨h1, h2⟩ := h
  obtain ⟨d1, d2⟩ := okN_of h1
  have hun : evName c x = fun ρ s => match nm c x with
    | .loc i => (match rget ρ i with
      | some d => .ok d s
      | none => .stuck)
    | .glo (.int i) => .ok (.int i) s
    | .glo (.str x) => .ok (.str x) s
    | _ => .stuck := rfl
  rw [hun]
  cases q : nm c x with
  | loc i =>
    rw [q] at h2
    exact se_loc (by rw [G.hN]; exact ix_at (nm_loc q)) (by rw [G.sc]; exact vis_of h2) d1 d2
  | no => exact se_stuck
  | glo g =>
    rw [q] at h2
    have t := G.tab x g (nm_glo q)
    cases g with
    | int i =>
      obtain ⟨u, m, r⟩ := t
      exact (pe_glob (glo_of G h2) m r d1).ofD fun σ H Q ⟨ρ, g, s, ab, en, po⟩ => Post.here po ab _ (.int i)
    | str y =>
      obtain ⟨u, m, r⟩ := t
      exact (pe_glob (glo_of G h2) m r d1).ofD fun σ H Q ⟨ρ, g, s, ab, en, po⟩ => Post.here po ab _ (.str y)
    | fn ps F => exact se_stuck
    | cls y => exact se_stuck
    | bt b => exact se_stuck
end
/-! ### calls of defs -/
section
variable {X : Cx} {P : Par} {c : Cfg} {sc raw : Scope} {v : Ev}
theorem pick_len {α : Type} {kws : List (Str × α)} : ∀ {ps : List Str} {es : List α}, kwPick kws ps = some es → es.length = ps.length
  | [], es, h => by
    cases h
    rfl
  | p :: r, es, h => by
    unfold kwPick at h
    cases q : kws.find? (fun q => decide (q.1 = p)) with
    | none => rw [q] at h; cases h
    | some x =>
      rw [q] at h
      dsimp only at h
      cases z : kwPick kws r with
      | none => rw [z] at h; cases h
      | some fs =>
        rw [z] at h
        cases h
        rw [List.length_cons, List.length_cons, pick_len z]
theorem kw_tree {pos : Pos} {env : Env} : ∀ {kws : List Keyword} {ks : List Str}, kwNames kws = some ks → (backToKw pos (keywordEach kws env)).all (·.1.isSome) = true ∧ (backToKw pos (keywordEach kws env)).filterMap (·.1) = ks ∧ (backToKw pos (keywordEach kws env)).any (·.1.isNone) = false ∧ kws.length = ks.length
  | [], ks, h => by
    cases h
    exact ⟨rfl, rfl, rfl, rfl⟩
  | ⟨none, e, p⟩ :: r, ks, h => by cases h
  | ⟨some k, e, p⟩ :: r, ks, h => by
    unfold kwNames at h
    cases q : kwNames r with
    | none => rw [q] at h; cases h
    | some ls =>
      rw [q] at h
      cases h
      obtain ⟨h1, h2, h3, h4⟩ := kw_tree (pos := pos) (env := env) q
      refine ⟨?_, ?_, ?_, by rw [List.length_cons, List.length_cons, h4]⟩
      · show (true && (backToKw pos (keywordEach r env)).all (·.1.isSome)) = true
        rw [h1]; rfl
      · show k :: (backToKw pos (keywordEach r env)).filterMap (·.1) = k :: ls
        rw [h2]
      · show (false || (backToKw pos (keywordEach r env)).any (·.1.isNone)) = false
        rw [h3]; rfl
theorem star_tree {pos : Pos} {env : Env} : ∀ {es : List Expr}, (∀ e ∈ es, nostar e = true) → (backTo pos (starEach es env)).any (·.1) = false
  | [], _ => rfl
  | e :: r, h => by
    rw [star_of (h e (List.mem_cons_self ..))]
    show (false || (backTo pos (starEach r env)).any (·.1)) = false
    rw [star_tree fun x hx => h x (List.mem_cons_of_mem _ hx)]
    rfl
theorem pk_of {t t' : TA} {kws : List Keyword} (h : PK X kws t) (i : ∀ σ H Q, t' σ H Q → t σ H Q) : PK X kws t' := ⟨fun pos pins s σ H Q I q => h.run pos pins s σ H Q I (i σ H Q q)⟩
theorem sk_args {E : Expr → Rho → S → Res D} : ∀ {kws : List Keyword}, (∀ k ∈ kws, PE X k.value (tR P (E k.value))) → PK X kws (tRA P (evArgs E (kws.map (·.value))))
  | [], _ => pk_of pk_nil fun σ H Q ⟨ρ, g, s, ab, en, po⟩ => Post.here po ab _ .nil
  | ⟨nm, e, p⟩ :: r, h => pk_of (pk_cons (h ⟨nm, e, p⟩ (List.mem_cons_self ..)) (sk_args fun x hx => h x (List.mem_cons_of_mem _ hx))) fun σ H Q ⟨ρ, g, s, ab, en, po⟩ =>
    ⟨ρ, g, s, ab, en, (Post.bind (f := fun d s => (evArgs E (r.map (·.value)) ρ s).bind fun ds s => .ok (d :: ds) s) po).imp fun d s1 g1 H1 e1 ab1 p1 v rv =>
      ⟨ρ, g1, s1, ab1, en.ext e1, p1.bind.imp fun ds s2 g2 H2 e2 ab2 p2 vs rvs => Post.here p2 ab2 _ (.cons (e2.rep rv) rvs)⟩⟩
/-- a call's end: the keywords, then the callee -/
def fnEnd (F : Den) (ps ks : List Str) (ds es : List D) (s : S) : Res D := match kwPick (ks.zip es) (ps.drop ds.length) with
  | some fs => if ds.length + ks.length = ps.length ∧ ks.Nodup ∧ ∀ k ∈ ks, k ∈ ps.drop ds.length then F (ds ++ fs) s else .stuck
  | none => .stuck
theorem fnEnd_nil (F : Den) (ps : List Str) (ds : List D) (s : S) : (if ds.length = ps.length then F ds s else .stuck) = fnEnd F ps [] ds [] s := by
  unfold fnEnd
  by_cases h : ds.length = ps.length
  · rw [if_pos h, List.drop_eq_nil_of_le (by omega)]
    show _ = if ds.length + 0 = ps.length ∧ _ then F (ds ++ []) s else .stuck
    rw [List.append_nil, if_pos ⟨by omega, List.nodup_nil, fun k hk => by cases hk⟩]
  · rw [if_neg h]
    cases kwPick (([] : List Str).zip ([] : List D)) (ps.drop ds.length) with
    | none => rfl
    | some fs =>
      dsimp only
      rw [if_neg (fun z => h (by have := z.1; simpa using this))]
theorem evFn_gen {ps : List Str} {F : Den} {args : List Expr} {kws : List Keyword} {ρ : Rho} {s : S} : evFn v ps F args kws ρ s = match kwNames kws with
    | none => .stuck
    | some ks => (evArgs v.E args ρ s).bind fun ds s => (evArgs v.E (kws.map (·.value)) ρ s).bind fun es s => fnEnd F ps ks ds es s := by
  cases kws with
  | nil =>
    show (evArgs v.E args ρ s).bind (fun ds s => if ds.length = ps.length then F ds s else .stuck) = (evArgs v.E args ρ s).bind fun ds s => fnEnd F ps [] ds [] s
    congr 1
    funext ds s
    exact fnEnd_nil F ps ds s
  | cons k r => rfl
/-- f(..), by place and by name -/
theorem se_fn {f : Str} {p pos : Pos} {ps : List Str} {F : Den} {args : List Expr} {kws : List Keyword} (G : Good X P c sc raw) (h : glook f c.G = some (.fn ps F)) (hg : gloC sc f = true) (hn : okN f = true)
    (ha : ∀ e ∈ args, PE X e (tR P (v.E e))) (hs : ∀ e ∈ args, nostar e = true) (hk : ∀ k ∈ kws, PE X k.value (tR P (v.E k.value))) : PE X (.Call (.Name f p) args kws pos) (tR P (evFn v ps F args kws)) := by
  obtain ⟨fa, k, m, kp, FG, hr⟩ := G.tab f _ h
  refine ⟨fun pins s σ H Q I hq => ?_⟩
  obtain ⟨ρ, g, st, ab, en, po⟩ := hq
  rw [evFn_gen] at po
  cases hks : kwNames kws with
  | none => rw [hks] at po; exact po.elim
  | some ks =>
    rw [hks] at po
    dsimp only at po
    obtain ⟨w1, w2, w3, w4⟩ := kw_tree (pos := pos) (env := X.env) hks
    refine wpAny_Call_Name_kw (ld_glob I (glo_of G hg) m ?_ (okN_of hn).1)
    -- behind the values of both kinds
    have fin : ∀ (us : List Value) (s1 : Shared) (vs : List V) (H1 : Hp) (ds : List D) (g1 : Gh) (t1 : S), Inv X pins σ H1 s1 → Vals vs us → AbsS P.K g1 H1 t1 → EnvOk P g1 t1.size σ ρ → RepL P.K g1 t1.size vs ds →
        (Post P H1 g1 t1 ((evArgs v.E (kws.map (·.value)) ρ t1).bind fun es s => fnEnd F ps ks ds es s) fun d s' g' H' => ∀ v, Rep P.K g' s'.size v d → Q v H') →
        wpAny (model X.prog X.w) X.A (evalAll ((backToKw pos (keywordEach kws X.env)).map (·.2))) (fun ws s2 => X.K.In s2.heap ∧ wpAny (model X.prog X.w) X.A (call (.ref fa) us (((backToKw pos (keywordEach kws X.env)).filterMap (·.1)).zip ws)) (EP X pins σ Q) X.xe s2) X.xe s1 := by
      intro us s1 vs H1 ds g1 t1 I1 r1 ab1 en1 rv1 po1
      refine thn ((sk_args hk).run pos pins s1 σ H1 _ I1 ⟨ρ, g1, t1, ab1, en1, (post_ok po1.bind).imp fun es t2 g2 H2 e2 ab2 p2 zs rzs => ?_⟩) fun ws s2 ⟨zs, H2, I2, rz, q⟩ => ⟨I2.kIn, (q : ∃ (es : List D) (g2 : Gh) (t2 : S), AbsS P.K g2 H2 t2 ∧ EnvOk P g2 t2.size σ ρ ∧ RepL P.K g2 t2.size vs ds ∧ RepL P.K g2 t2.size zs es ∧ es.length = kws.length ∧ Post P H2 g2 t2 (fnEnd F ps ks ds es t2) fun d s' g' H' => ∀ v, Rep P.K g' s'.size v d → Q v H').elim fun es q => ?_⟩
      · exact ⟨es, g2, t2, ab2, en1.ext e2, e2.repL rv1, rzs, by rw [len_args p2.1, List.length_map], p2.2⟩
      · obtain ⟨g2, t2, ab2, en2, rv2, rzs, hlen, po2⟩ := q
        rw [w2]
        unfold fnEnd at po2
        cases hp : kwPick (ks.zip es) (ps.drop ds.length) with
        | none => rw [hp] at po2; exact po2.elim
        | some fs =>
          rw [hp] at po2
          dsimp only at po2
          by_cases hc : ds.length + ks.length = ps.length ∧ ks.Nodup ∧ ∀ k ∈ ks, k ∈ ps.drop ds.length
          · rw [if_pos hc] at po2
            obtain ⟨vfs, p1, rfs⟩ := pick_rel (R := fun ds vs => RepL P.K g2 t2.size vs ds) (r := fun d v => Rep P.K g2 t2.size v d) .nil .cons (fun p q hq => find_rep rzs hq) hp
            obtain ⟨ufs, p3, vfs'⟩ := pick_rel (R := fun vs us => Vals vs us) (r := fun v u => RelV v u) .nil .cons (fun p q hq => find_vals rz hq) p1
            have l1 : us.length = ds.length := by rw [← r1.length, rv2.length]
            have l2 := pick_len p1
            rw [List.length_drop] at l2
            refine run_fnG G.hK FG G.gd hr G.pass en2.inv I2 (r1.append vfs') (ks := ks) (ds := ds ++ fs) ?_ (by omega) ?_ hc.2.1 (by rw [l1]; exact hc.2.2) (by rw [l1]; exact p3) ab2 en2.tt (rv2.append rfs) po2
            · rw [← rz.length, rzs.length, hlen, w4]
            · rw [List.length_append, rv2.length, l2]
              omega
          · rw [if_neg hc] at po2
            exact po2.elim
    cases args with
    | nil =>
      refine PySem.W.callWith_KW0 (h₀ := X.base) I.ok.mod.kin kp w1 ?_ (by show (false || _) = false; rw [w3]; rfl)
      have po : Post P H g st ((Res.ok ([] : List D) st).bind fun ds s => (evArgs v.E (kws.map (·.value)) ρ s).bind fun es s => fnEnd F ps ks ds es s) _ := po
      exact fin [] s [] H [] g st I .nil ab en .nil po
    | cons e es =>
      have st1 := star_of (hs e (List.mem_cons_self ..)) X.env es
      refine PySem.W.callWith_KW (h₀ := X.base) I.ok.mod.kin kp w1 ?_ (by rw [star_tree hs, w3]; rfl) st1
      refine thn ((sa_args ha fun x es' hx => star_of (hs x hx) X.env es').run pos pins s σ H (fun vs H1 => ∃ (ds : List D) (g1 : Gh) (t1 : S), AbsS P.K g1 H1 t1 ∧ EnvOk P g1 t1.size σ ρ ∧ RepL P.K g1 t1.size vs ds ∧
        Post P H1 g1 t1 ((evArgs v.E (kws.map (·.value)) ρ t1).bind fun es s => fnEnd F ps ks ds es s) fun d s' g' H' => ∀ v, Rep P.K g' s'.size v d → Q v H') I ⟨ρ, g, st, ab, en, po.bind.imp fun ds t1 g1 H1 e1 ab1 p1 vs rvs => ⟨ds, g1, t1, ab1, en.ext e1, rvs, p1⟩⟩) fun us s1 ⟨vs, H1, I1, r1, ds, g1, t1, ab1, en1, rv1, po1⟩ => ?_
      exact fin us s1 vs H1 ds g1 t1 I1 r1 ab1 en1 rv1 po1
end
end DL
set_option Elab.async false
set_option linter.all false
set_option maxRecDepth 100000
set_option maxHeartbeats 2000000
/-! The data layer, part 15: built-ins, isinstance, new lists. -/
namespace DL
open PySem PySem.Spec PyProof.Rows L2
/-! ### built-ins by values -/
/-- those that are served by values -/
def btPlain : Bt → Bool
  | .len => true
  | .abs => true
  | .max => true
  | .min => true
  | .sum => true
  | .all => true
  | .any => true
  | .int => true
  | .list => true
  | .tuple => true
  | .divmod => true
  | .repr => true
  | .sorted => true
  | _ => false
section
variable {X : Cx} {P : Par} {c : Cfg} {sc raw : Scope} {v : Ev} {p pos : Pos} {f : Str} {a e : Expr} {es args : List Expr} {b : Bt}
theorem bt_none (G : Good X P c sc raw) (h : glook f c.G = some (.bt b)) (hf : f = btName b) : X.mg (btName b) = none := by
  subst hf
  exact G.tab _ _ h rfl
theorem se_bt (G : Good X P c sc raw) (h : glook f c.G = some (.bt b)) (hf : f = btName b) (hg : gloC sc f = true) (hb : btPlain b = true) (hne : args ≠ [])
    (ha : ∀ e ∈ args, PE X e (tR P (v.E e))) (hs : ∀ e ∈ args, nostar e = true) : PE X (.Call (.Name f p) args [] pos) (tR P fun ρ s => (evArgs v.E args ρ s).bind fun ds s => callB b ds s) := by
  have m := bt_none G h hf
  subst hf
  have g := glo_of G hg
  cases args with
  | nil => exact absurd rfl hne
  | cons e es =>
    have A := sa_args ha fun x es' hx => star_of (hs x hx) X.env es'
    have s1 := star_of (hs e (List.mem_cons_self ..)) X.env es
    have s2 := star_tree (pos := pos) (env := X.env) fun x hx => hs x (List.mem_cons_of_mem _ hx)
    have un := G.un
    have u65 : X.A.units + 65 < cLine := by omega
    have glue : ∀ {σ H Q}, tR P (fun ρ s => (evArgs v.E (e :: es) ρ s).bind fun ds s => callB b ds s) σ H Q → tCB (rC P (callB b)) (tRA P (evArgs v.E (e :: es))) σ H Q := fun {σ H Q} ⟨ρ, g, s, ab, en, po⟩ =>
      ⟨ρ, g, s, ab, en, po.bind.imp fun ds s1 g1 H1 e1 ab1 p1 vs rvs => ⟨ds, g1, s1, ab1, rvs, p1⟩⟩
    have o1 := (bt_ok b).1
    have o2 := (bt_ok b).2
    cases b with
    | len => exact (pe_callB (cb_len G.hK) g m (bt_boot .len) A o1 o2 s1 s2).ofD fun _ _ _ => glue
    | abs => exact (pe_callB (cb_abs G.hK) g m (bt_boot .abs) A o1 o2 s1 s2).ofD fun _ _ _ => glue
    | max => exact (pe_callB (cb_max G.hK G.calm) g m (bt_boot .max) A o1 o2 s1 s2).ofD fun _ _ _ => glue
    | min => exact (pe_callB (cb_min G.hK G.calm) g m (bt_boot .min) A o1 o2 s1 s2).ofD fun _ _ _ => glue
    | sum => exact (pe_callB (cb_sum G.hK G.calm) g m (bt_boot .sum) A o1 o2 s1 s2).ofD fun _ _ _ => glue
    | all => exact (pe_callB (cb_all G.hK G.calm) g m (bt_boot .all) A o1 o2 s1 s2).ofD fun _ _ _ => glue
    | any => exact (pe_callB (cb_any G.hK G.calm) g m (bt_boot .any) A o1 o2 s1 s2).ofD fun _ _ _ => glue
    | int => exact (pe_callTy (cb_int G.hK) g m (bt_boot .int) A o1 o2 s1 s2).ofD fun _ _ _ => glue
    | list => exact (pe_callTy (cb_listOf G.hK) g m (bt_boot .list) A o1 o2 s1 s2).ofD fun _ _ _ => glue
    | tuple => exact (pe_callTy (cb_tuple G.hK) g m (bt_boot .tuple) A o1 o2 s1 s2).ofD fun _ _ _ => glue
    | divmod => exact (pe_callB (cb_divmod G.hK) g m (bt_boot .divmod) A o1 o2 s1 s2).ofD fun _ _ _ => glue
    | repr => exact (pe_callB (cb_repr G.hK u65 G.gd) g m (bt_boot .repr) A o1 o2 s1 s2).ofD fun _ _ _ => glue
    | sorted => exact (pe_callB (cb_sorted G.hK G.un) g m (bt_boot .sorted) A o1 o2 s1 s2).ofD fun _ _ _ => glue
    | _ => cases hb
/-! ### isinstance -/
def tyStr : Bt → String
  | .int => "int"
  | .bool => "bool"
  | .str => "str"
  | .tuple => "tuple"
  | .list => "list"
  | _ => ""
def tyOfD : D → String
  | .non => "NoneType"
  | .bl _ => "bool"
  | .int _ => "int"
  | .str _ => "str"
  | .tup _ => "tuple"
  | _ => "list"
def tyB (t : Bt) : Bool := match t with
  | .int => true
  | .bool => true
  | .str => true
  | .tuple => true
  | .list => true
  | _ => false
theorem kit_int : kitB "int" "int" = some true ∧ kitB "bool" "int" = some true ∧ kitB "NoneType" "int" = some false ∧ kitB "str" "int" = some false ∧ kitB "tuple" "int" = some false ∧ kitB "list" "int" = some false := by decide +kernel
theorem kit_bool : kitB "int" "bool" = some false ∧ kitB "bool" "bool" = some true ∧ kitB "NoneType" "bool" = some false ∧ kitB "str" "bool" = some false ∧ kitB "tuple" "bool" = some false ∧ kitB "list" "bool" = some false := by decide +kernel
theorem kit_str : kitB "int" "str" = some false ∧ kitB "bool" "str" = some false ∧ kitB "NoneType" "str" = some false ∧ kitB "str" "str" = some true ∧ kitB "tuple" "str" = some false ∧ kitB "list" "str" = some false := by decide +kernel
theorem kit_tuple : kitB "int" "tuple" = some false ∧ kitB "bool" "tuple" = some false ∧ kitB "NoneType" "tuple" = some false ∧ kitB "str" "tuple" = some false ∧ kitB "tuple" "tuple" = some true ∧ kitB "list" "tuple" = some false := by decide +kernel
theorem kit_list : kitB "int" "list" = some false ∧ kitB "bool" "list" = some false ∧ kitB "NoneType" "list" = some false ∧ kitB "str" "list" = some false ∧ kitB "tuple" "list" = some false ∧ kitB "list" "list" = some true := by decide +kernel
theorem kit_of_d {t : Bt} (h : tyB t = true) (d : D) (hf : ∀ xs, d ≠ .fix xs) (hc : ∀ i, d ≠ .clo i) : kitB (tyOfD d) (tyStr t) = some (isT t d) := by
  cases t with
  | int => cases d with
    | non => exact kit_int.2.2.1
    | bl _ => exact kit_int.2.1
    | int _ => exact kit_int.1
    | str _ => exact kit_int.2.2.2.1
    | tup _ => exact kit_int.2.2.2.2.1
    | lst _ => exact kit_int.2.2.2.2.2
    | mref _ => exact kit_int.2.2.2.2.2
    | fix xs => exact absurd rfl (hf xs)
    | clo i => exact absurd rfl (hc i)
  | bool => cases d with
    | non => exact kit_bool.2.2.1
    | bl _ => exact kit_bool.2.1
    | int _ => exact kit_bool.1
    | str _ => exact kit_bool.2.2.2.1
    | tup _ => exact kit_bool.2.2.2.2.1
    | lst _ => exact kit_bool.2.2.2.2.2
    | mref _ => exact kit_bool.2.2.2.2.2
    | fix xs => exact absurd rfl (hf xs)
    | clo i => exact absurd rfl (hc i)
  | str => cases d with
    | non => exact kit_str.2.2.1
    | bl _ => exact kit_str.2.1
    | int _ => exact kit_str.1
    | str _ => exact kit_str.2.2.2.1
    | tup _ => exact kit_str.2.2.2.2.1
    | lst _ => exact kit_str.2.2.2.2.2
    | mref _ => exact kit_str.2.2.2.2.2
    | fix xs => exact absurd rfl (hf xs)
    | clo i => exact absurd rfl (hc i)
  | tuple => cases d with
    | non => exact kit_tuple.2.2.1
    | bl _ => exact kit_tuple.2.1
    | int _ => exact kit_tuple.1
    | str _ => exact kit_tuple.2.2.2.1
    | tup _ => exact kit_tuple.2.2.2.2.1
    | lst _ => exact kit_tuple.2.2.2.2.2
    | mref _ => exact kit_tuple.2.2.2.2.2
    | fix xs => exact absurd rfl (hf xs)
    | clo i => exact absurd rfl (hc i)
  | list => cases d with
    | non => exact kit_list.2.2.1
    | bl _ => exact kit_list.2.1
    | int _ => exact kit_list.1
    | str _ => exact kit_list.2.2.2.1
    | tup _ => exact kit_list.2.2.2.2.1
    | lst _ => exact kit_list.2.2.2.2.2
    | mref _ => exact kit_list.2.2.2.2.2
    | fix xs => exact absurd rfl (hf xs)
    | clo i => exact absurd rfl (hc i)
  | _ => cases h
theorem ty_of {g : Gh} {H : Hp} {s : S} {x : V} {d : D} (ab : AbsS P.K g H s) (r : Rep P.K g s.size x d) (hm : ∀ i, d = .mref i → (s.get i).isSome = true) (hf : ∀ xs, d ≠ .fix xs) : TyX P.K H x (.type (tyOfD d)) := by
  cases r with
  | non => exact .base .non
  | bl b => exact .base (.bl b)
  | int i => exact .base (.int i)
  | str y => exact .base (.str y)
  | tup h t =>
    rcases sqT_H ab h with (h | ⟨o, h⟩) | ⟨o, its, n, h1, h2, _⟩
    · exact .base (.tup h)
    · exact .fTuple h
    · exact .kTuple h1 h2
  | lst h t => exact .base (.lst (ab.zH _ _ h))
  | fix h t => exact absurd rfl (hf _)
  | mref hi =>
    rename_i i
    obtain ⟨mo, q⟩ := Option.isSome_iff_exists.mp (hm i rfl)
    obtain ⟨o, h1, h2, h3⟩ := ab.cell i mo q
    cases mo with
    | dct kvs => exact h3.elim
    | lst ds =>
      obtain ⟨xs, rfl, _⟩ := h3
      exact .base (.lst h1)
theorem any_kit {K : PySem.W.Frag} {d : D} (hf : ∀ xs, d ≠ .fix xs) (hc : ∀ i, d ≠ .clo i) : ∀ {ts : List Bt}, (∀ t ∈ ts, tyB t = true) → PySem.W.kitAny K (.type (tyOfD d)) (ts.map fun t => Value.type (tyStr t)) = some (ts.any fun t => isT t d)
  | [], _ => rfl
  | t :: r, h => by
    have ih := any_kit (K := K) hf hc fun x hx => h x (List.mem_cons_of_mem _ hx)
    refine kitAny_cons (kit_ty (kit_of_d (h t (List.mem_cons_self ..)) d hf hc)) (fun e => ?_) (fun e => ?_)
    · rw [ih, List.any_cons, e]
      rfl
    · rw [List.any_cons, e]
      rfl
theorem tyName_at {t : Bt} (h : tyName c.G c.N e = some t) : ∃ x q, e = .Name x q ∧ glook x c.G = some (.bt t) ∧ tyB t = true := by
  unfold tyName at h
  split at h
  · rename_i x q
    split at h
    · cases h
    · split at h <;> first | (cases h; exact ⟨x, q, rfl, by assumption, rfl⟩) | cases h
  · cases h
/-- a class's name in the text -/
def ckTy (c : Cfg) (sc : Scope) (e : Expr) : Bool := match e with
  | .Name x _ => gloC sc x && (match glook x c.G with
    | some (.bt b) => decide (x = btName b)
    | _ => false)
  | _ => false
theorem se_ty {t : Bt} (G : Good X P c sc raw) (h : tyName c.G c.N e = some t) (hk : ckTy c sc e = true) : PE X e (tC (.ty (tyStr t))) ∧ nostar e = true ∧ tyB t = true := by
  obtain ⟨x, q, rfl, hl, ht⟩ := tyName_at h
  have hk : (gloC sc x && (match glook x c.G with
    | some (.bt b) => decide (x = btName b)
    | _ => false)) = true := hk
  rw [hl, Bool.and_eq_true, decide_eq_true_eq] at hk
  obtain ⟨k1, rfl⟩ := hk
  have m := G.tab _ _ hl rfl
  refine ⟨?_, rfl, ht⟩
  have r : RelV (.ty (tyStr t)) (btVal t) := by cases t <;> first | rfl | cases ht
  exact pe_bltn (glo_of G k1) m (bt_boot t) r (bt_ok t).1 (bt_ok t).2
theorem typed_of {d : D} {s : S} (h : typed d s = true) : (∀ i, d = .mref i → (s.get i).isSome = true) ∧ (∀ xs, d ≠ .fix xs) ∧ ∀ i, d ≠ .clo i := by
  cases d with
  | fix xs => cases h
  | clo i => cases h
  | mref i => exact ⟨fun j e => (by cases e; exact h), fun xs z => (by cases z), fun i z => (by cases z)⟩
  | _ => exact ⟨fun j e => (by cases e), fun xs z => (by cases z), fun i z => (by cases z)⟩
theorem se_isi1 {t : Bt} {te : Expr} (G : Good X P c sc raw) (h : glook f c.G = some (.bt .isinst)) (hf : f = btName .isinst) (hg : gloC sc f = true) (ht : tyName c.G c.N te = some t) (hk : ckTy c sc te = true) (he : PE X e (tR P (v.E e))) (hs : nostar e = true) :
    PE X (.Call (.Name f p) [e, te] [] pos) (tR P fun ρ s => (v.E e ρ s).bind fun d s => if typed d s = true then .ok (.bl (isT t d)) s else .stuck) := by
  have m := bt_none G h hf
  subst hf
  obtain ⟨k1, k2, k3⟩ := se_ty G ht hk
  have s1 := star_of hs X.env [te]
  have s2 := star_of k2 X.env []
  refine (pe_callB call_isi (glo_of G hg) m (bt_boot .isinst) (pa_cons he (pa_cons k1 pa_nil s2) s1) (bt_ok .isinst).1 (bt_ok .isinst).2 s1 (star_tree fun x hx => by rw [List.mem_singleton.mp hx]; exact k2)).ofD fun σ H Q hq => tR_bind hq fun u H1 ρ d g1 s1 ab1 en1 rv p1 => ?_
  show rIsi X.K [u, .ty (tyStr t)] H1 Q
  by_cases hty : typed d s1 = true
  · rw [if_pos hty] at p1
    obtain ⟨y1, y2, y3⟩ := typed_of hty
    have T := ty_of ab1 rv y1 y2
    rw [G.hK] at T
    exact ⟨u, _, _, .type (tyStr t), isT t d, rfl, .ty _, T, kit_ty (kit_of_d k3 d y2 y3), Post.here p1 ab1 _ (.bl _)⟩
  · rw [if_neg hty] at p1
    exact p1.elim
/-- class names in a tuple -/
def tTys (ts : List Bt) : TA := fun _ H Q => Q (ts.map fun t => .ty (tyStr t)) H
theorem sa_tys (G : Good X P c sc raw) : ∀ {tes : List Expr} {ts : List Bt}, tyNames c.G c.N tes = some ts → (∀ x ∈ tes, ckTy c sc x = true) → PA X tes (tTys ts) ∧ (∀ t ∈ ts, tyB t = true) ∧ tes.length = ts.length
  | [], ts, h, _ => by
    cases h
    exact ⟨pa_nil.ofD fun σ H Q q => q, fun t ht => (by cases ht), rfl⟩
  | te :: r, ts, h, hk => by
    unfold tyNames at h
    cases q : tyName c.G c.N te with
    | none => rw [q] at h; cases h
    | some t =>
      rw [q] at h
      dsimp only at h
      cases z : tyNames c.G c.N r with
      | none => rw [z] at h; cases h
      | some us =>
        rw [z] at h
        cases h
        obtain ⟨k1, k2, k3⟩ := se_ty G q (hk te (List.mem_cons_self ..))
        obtain ⟨i1, i2, i3⟩ := sa_tys G z fun x hx => hk x (List.mem_cons_of_mem _ hx)
        refine ⟨(pa_cons k1 i1 (star_of k2 X.env r)).ofD fun σ H Q q => q, fun x hx => ?_, by rw [List.length_cons, List.length_cons, i3]⟩
        rcases List.mem_cons.mp hx with rfl | hx
        · exact k3
        · exact i2 x hx
theorem cls_pairs : ∀ ts : List Bt, Paired ClsV (ts.map fun t => V.ty (tyStr t)) (ts.map fun t => Value.type (tyStr t))
  | [] => .nil
  | t :: r => .cons (.ty _) (cls_pairs r)
theorem se_isiT {ts : List Bt} {tes : List Expr} {k : Nat} {tp : Pos} (G : Good X P c sc raw) (h : glook f c.G = some (.bt .isinst)) (hf : f = btName .isinst) (hg : gloC sc f = true) (ht : tyNames c.G c.N tes = some ts) (hk : ∀ x ∈ tes, ckTy c sc x = true) (hl : tes.length ≤ line)
    (he : PE X e (tR P (v.E e))) (hs : nostar e = true) :
    PE X (.Call (.Name f p) [e, .Tuple tes k tp] [] pos) (tR P fun ρ s => (v.E e ρ s).bind fun d s => if typed d s = true then .ok (.bl (ts.any fun t => isT t d)) s else .stuck) := by
  have m := bt_none G h hf
  subst hf
  obtain ⟨k1, k2, k3⟩ := sa_tys G ht hk
  have s1 := star_of hs X.env [.Tuple tes k tp]
  have s2 : starEach [.Tuple tes k tp] X.env = (false, eval (.Tuple tes k tp) X.env) :: starEach [] X.env := star_of rfl X.env []
  refine (pe_callB call_isiT (glo_of G hg) m (bt_boot .isinst) (pa_cons he (pa_cons (pe_tup k1) pa_nil s2) s1) (bt_ok .isinst).1 (bt_ok .isinst).2 s1 (star_tree fun x hx => by rw [List.mem_singleton.mp hx]; rfl)).ofD fun σ H Q hq => tR_bind hq fun u H1 ρ d g1 s1 ab1 en1 rv p1 => ?_
  refine ⟨by rw [List.length_map, ← k3, ← line_eq]; exact hl, fun tp' hp => ?_⟩
  show rIsiT X.K [u, .ref tp'] _ Q
  by_cases hty : typed d s1 = true
  · rw [if_pos hty] at p1
    obtain ⟨y1, y2, y3⟩ := typed_of hty
    have e2 := ext_lay ab1 hp (.tup (ts.map fun t => V.ty (tyStr t)))
    have ab2 := abs_lay ab1 hp (.tup (ts.map fun t => V.ty (tyStr t)))
    have T := ty_of ab2 (e2.rep rv) y1 y2
    rw [G.hK] at T
    exact ⟨u, tp', _, _, _, _, rfl, upd_same, cls_pairs ts, T, any_kit y2 y3 k2, p1 _ _ e2 ab2 _ (.bl _)⟩
  · rw [if_neg hty] at p1
    exact p1.elim
/-! ### list(range(..)), tuple(range(..)) -/
theorem rgV_rep {g : Gh} {n : Nat} (lo hi : Int) : RepL P.K g n (rgV lo hi) (rangeI lo hi) := by
  unfold rgV rangeI
  generalize List.range (hi - lo).toNat = l
  induction l with
  | nil => exact .nil
  | cons i r ih => exact .cons (.int _) ih
theorem rngOk_of {i j : Int} (h : rngOk i = true ∧ rngOk j = true ∧ (j - i).toNat ≤ line) : RgOk i j :=
  ⟨(rng_in h.1).1, (rng_in h.1).2, (rng_in h.2.1).1, (rng_in h.2.1).2, h.2.2⟩
/-- a range, read -/
def tRg (P : Par) (f : Rho → S → Res (Int × Int)) : L2.St → Hp → (Int → Int → Hp → Prop) → Prop := fun σ H Q => ∃ ρ g s, AbsS P.K g H s ∧ EnvOk P g s.size σ ρ ∧ Post P H g s (f ρ s) fun r s' g' H' => Q r.1 r.2 H'
theorem prg_ofD {t t' : L2.St → Hp → (Int → Int → Hp → Prop) → Prop} (h : PRg X e t) (i : ∀ σ H Q, t' σ H Q → t σ H Q) : PRg X e t' := fun pins s σ H Q I q => h pins s σ H Q I (i σ H Q q)
theorem prg_any (G : Good X P c sc raw) (h : glook f c.G = some (.bt .range)) (hf : f = btName .range) (hg : gloC sc f = true) (hl : args.length = 1 ∨ args.length = 2) (ha : ∀ e ∈ args, PE X e (tR P (v.E e))) (hs : ∀ e ∈ args, nostar e = true) :
    PRg X (.Call (.Name f p) args [] pos) (tRg P (evRng v args)) := by
  have m := bt_none G h hf
  subst hf
  have g := glo_of G hg
  match args, hl with
  | [a], _ =>
    have s1 := star_of (hs a (List.mem_cons_self ..)) X.env []
    refine prg_ofD (prg_1 g m (ha a (List.mem_cons_self ..)) s1) fun σ H Q ⟨ρ, g, s, ab, en, po⟩ => ⟨ρ, g, s, ab, en, ?_⟩
    have po : Post P H g s ((v.E a ρ s).bind fun x s => match x with
      | .int j => .ok ((0 : Int), j) s
      | _ => .stuck) fun r s' g' H' => Q r.1 r.2 H' := po
    refine po.bind.imp fun d s1 g1 H1 e1 ab1 p1 u ru => ?_
    cases ru with
    | int j => exact ⟨j, rfl, Post.here p1 ab1⟩
    | _ => exact p1.elim
  | [a, b], _ =>
    have hb := hs b (List.mem_cons_of_mem _ (List.mem_cons_self ..))
    have s1 := star_of (hs a (List.mem_cons_self ..)) X.env [b]
    have s2 := star_of hb X.env []
    refine prg_ofD (prg_2 g m (ha a (List.mem_cons_self ..)) (ha b (List.mem_cons_of_mem _ (List.mem_cons_self ..))) s1 s2 (star_tree fun x hx => by rw [List.mem_singleton.mp hx]; exact hb)) fun σ H Q ⟨ρ, g, s, ab, en, po⟩ => ⟨ρ, g, s, ab, en, ?_⟩
    have po : Post P H g s ((v.E a ρ s).bind fun x s => (v.E b ρ s).bind fun y s => match x, y with
      | .int i, .int j => .ok (i, j) s
      | _, _ => .stuck) fun r s' g' H' => Q r.1 r.2 H' := po
    refine po.bind.imp fun d s1 g1 H1 e1 ab1 p1 u ru => ⟨ρ, g1, s1, ab1, en.ext e1, p1.bind.imp fun d2 s2 g2 H2 e2 ab2 p2 w rw' => ?_⟩
    have ru2 := e2.rep ru
    cases ru2 with
    | int i =>
      cases rw' with
      | int j => exact ⟨i, j, rfl, rfl, Post.here p2 ab2⟩
      | _ => exact p2.elim
    | _ => exact p2.elim
theorem rngArgs_at (h : rngArgs c e = some args) : ∃ f p q, e = .Call (.Name f p) args [] q ∧ glook f c.G = some (.bt .range) := by
  unfold rngArgs at h
  split at h
  · split at h
    · rename_i hn
      cases h
      exact ⟨_, _, _, rfl, nm_glo hn⟩
    · cases h
  · cases h
theorem sn_listRg {p2 : Pos} {f2 : Str} (G : Good X P c sc raw) (hL : glook f2 c.G = some (.bt .list)) (hf2 : f2 = btName .list) (hg2 : gloC sc f2 = true) (he : PRg X e (tRg P (evRng v args))) (hs : nostar e = true) :
    PE X (.Call (.Name f2 p2) [e] [] pos) (tRN P (evRngL v args)) := by
  have m := bt_none G hL hf2
  subst hf2
  refine (pe_listRg G.calm (glo_of G hg2) m he (star_of hs X.env [])).ofD fun σ H Q ⟨ρ, g, s, ab, en, po⟩ => ⟨ρ, g, s, ab, en, po.bind.imp fun r s1 g1 H1 e1 ab1 p1 => ?_⟩
  by_cases hr : rngOk r.1 = true ∧ rngOk r.2 = true ∧ (r.2 - r.1).toNat ≤ line
  · rw [if_pos hr] at p1
    exact ⟨rngOk_of hr, fun q hq => Post.here p1 ab1 _ _ hq (rgV_rep r.1 r.2)⟩
  · rw [if_neg hr] at p1
    exact p1.elim
theorem se_tupRg {p2 : Pos} {f2 : Str} (G : Good X P c sc raw) (hL : glook f2 c.G = some (.bt .tuple)) (hf2 : f2 = btName .tuple) (hg2 : gloC sc f2 = true) (he : PRg X e (tRg P (evRng v args))) (hs : nostar e = true) :
    PE X (.Call (.Name f2 p2) [e] [] pos) (tR P fun ρ s => (evRngL v args ρ s).bind fun ds s => .ok (.tup ds) s) := by
  have m := bt_none G hL hf2
  subst hf2
  refine (pe_tupRg G.calm (glo_of G hg2) m he (star_of hs X.env [])).ofD fun σ H Q ⟨ρ, g, s, ab, en, po⟩ => ⟨ρ, g, s, ab, en, (Post.bind (Post.bind po)).imp fun r s1 g1 H1 e1 ab1 p1 => ?_⟩
  by_cases hr : rngOk r.1 = true ∧ rngOk r.2 = true ∧ (r.2 - r.1).toNat ≤ line
  · rw [if_pos hr] at p1
    have p2 := Post.here p1 ab1
    exact ⟨rngOk_of hr, fun q hq => p2 _ _ (ext_lay ab1 hq _) (abs_lay ab1 hq _) _ (rep_tup ab1 hq (rgV_rep r.1 r.2))⟩
  · rw [if_neg hr] at p1
    exact p1.elim
end
end DL
set_option Elab.async false
set_option linter.all false
set_option maxRecDepth 100000
set_option maxHeartbeats 4000000
/-! The data layer, part 23: sorted(xs, key=lambda x: (len(x), x)). -/
namespace DL
open PySem PySem.Spec PyProof.Rows L2
section
variable {prog : Program} {w : World} {A : Around} {E : Value → Shared → Prop} {s : Shared} {f c' a : Addr} {qual x : Str} {params : Arguments} {scope : Scope} {pm ctv : Value} {mg mb : Str → Option Value} {its : Array Value} {p1 p2 p3 p4 p5 : Pos} {kk : Nat}
abbrev lenBody (x : Str) (p1 p2 p3 p4 p5 : Pos) (kk : Nat) : Expr := .Tuple [.Call (.Name "len" p1) [.Name x p2] [] p3, .Name x p4] kk p5
/-- the lambda's names: its parameter, and len of the module -/
structure LenS (x : Str) (scope : Scope) : Prop where
  kind : scope.kind = .function
  co : scope.isCoroutine = false
  gen : scope.isGenerator = false
  par : scope.names.lookup x = some .local
  len : scope.names.lookup ("len" : Str) = some .globalImplicit
  own : ∀ y ∈ scope.names, y.2 ≠ .cell ∧ y.2 ≠ .free
  ne : (x == ("__debug__" : Str)) = false
theorem lenkey_call (hroom : A.depth < recursionLimit) (of : s.heap.get? f = some (PySem.W.kla_obj "<lambda>" qual params (lenBody x p1 p2 p3 p4 p5 kk) scope [] pm c' ctv)) (hc : s.heap.CodeRec (.ref c') qual) (noLim : s.heap.NoLimit) (hg : s.heap.Ns mainGlobals mg) (hm : mg "len" = none)
    (hb : s.heap.Ns builtinsNs mb) (hmb : mb "len" = some (.builtin "len")) (sg : Sig (PySem.W.kla_fn "<lambda>" qual params (lenBody x p1 p2 p3 p4 p5 kk) scope [] pm (.ref c') ctv) [x]) (L : LenS x scope) (ht : IsTup s.heap a its) (hz : (its.size : Int) < 2 ^ 63) :
    wpAny (model prog w) A (call (.ref f) [.ref a]) (fun v s' => ∃ h' tk p t, s' = { s with heap := h', toks := tk } ∧ (∀ b o, s.heap.get? b = some o → h'.get? b = some o) ∧ v = .ref p ∧ IsTup h' p #[.int its.size t, .ref a]) E s := by
  refine wpAny_call (PySem.W.kla_callFunE hroom of rfl L.co L.gen rfl hc ?_)
  have hbind := bind_ok sg (us := [.ref a]) (ws := []) (es := []) (ks := []) rfl (by simp) List.nodup_nil (by simp) rfl
  rw [show (⟨[.ref a], []⟩ : Args) = ⟨[.ref a], ([] : List Str).zip ([] : List Value)⟩ from rfl, hbind]
  refine wpAny_pure (wpAny_newFunctionEnv (fun y hy => (L.own y hy).1) (fun y hy => ?_) (fun h₁ hns hsb => ⟨noLim.fresh _ hsb, ?_⟩) L.kind)
  · have e : y = (x, .ref a) := by simpa using hy
    rw [e]
    exact L.par
  have kp : ∀ b o, s.heap.get? b = some o → h₁.get? b = some o := fun b o e => hsb.extBut b o (Nat.ne_of_lt (Heap.lt_size e)) (Heap.get?_push_of_some _ e)
  refine PySem.W.kla_codeExpr ?_
  show wpAny _ _ (eval (lenBody x p1 p2 p3 p4 p5 kk) (PySem.W.envX qual scope s.heap.objs.size f (.ref c') [])) _ _ _
  have nameX : ∀ {A' : Around} {E' : Value → Shared → Prop} {Q : Value → Shared → Prop} {q : Pos} {tk : Nat}, Q (.ref a) { s with heap := h₁, toks := tk } → wpAny (model prog w) A' (eval (.Name x q) (PySem.W.envX qual scope s.heap.objs.size f (.ref c') [])) Q E' { s with heap := h₁, toks := tk } := fun {A' E' Q q tk} hq =>
    wpAny_Name (wpAny_loadName_local L.kind L.par hns (by simp) hq) L.ne
  refine wpAny_Tuple_spliced (Calls.spliced_cons ?_)
  refine wpAny_Call_Name_kw (Calls.Name_function_global L.kind L.len (Calls.loadGlobal_builtin (hg.keeps kp) hm (hb.keeps kp) hmb ?_))
  refine callWith_builtin1 (Calls.spliced_cons (nameX (Calls.spliced_nil ?_)))
  refine len_tuple (ht.keeps kp) hz ?_
  refine Calls.spliced_cons (nameX (Calls.spliced_nil ⟨by show 2 ≤ sizeLine; decide, ?_⟩))
  refine ⟨_, _, _, _, rfl, fun b o e => Heap.get?_push_of_some _ (kp b o e), rfl, ⟨_, Heap.get?_push_size _ rfl, rfl, _, rfl⟩⟩
end
section
variable {X : Cx} {P : Par} {c : Cfg} {sc raw : Scope} {v : Ev} {pins : List (Addr × Obj)} {σ : L2.St} {H : Hp} {s : Shared} {g : Gh} {st : DL.S}
theorem reads0 (I : Inv X pins σ H s) (ab : AbsS X.K g H st) {n : Nat} {w : V} {d : D} (r : Rep X.K g n w d) : d.noL = true → ∀ u, RelV w u → Reads s.heap u d.pd [] := by
  refine Rep.rec (K := X.K) (g := g) (n := n) (motive_1 := fun w d _ => d.noL = true → ∀ u, RelV w u → Reads s.heap u d.pd []) (motive_2 := fun ws ds _ => D.noLs ds = true → ∀ us, Vals ws us → ReadsAll s.heap us (D.pds ds) []) ?_ ?_ ?_ ?_ ?_ ?_ ?_ ?_ ?_ ?_ r
  · intro _ u ru
    cases (show u = Value.none from ru)
    exact .none
  · intro b _ u ru
    cases (show u = Value.bool b from ru)
    exact .bool b
  · intro i _ u ru
    obtain ⟨t, rfl⟩ := ru
    exact .int i t
  · intro x _ u ru
    obtain ⟨t, rfl⟩ := ru
    exact .str x t
  · intro a xs ds hs _ ih hn u ru
    cases (show u = Value.ref a from ru)
    obtain ⟨its, rv, ⟨o, h1, h2, m, h3⟩, _⟩ := I.tuple (sqT_H ab hs)
    exact .tuple h1 h2 h3 (by simpa using ih hn _ rv)
  · intro a xs ds _ _ _ hn
    cases hn
  · intro a xs ds _ _ _ hn
    cases hn
  · intro i _ hn
    cases hn
  · intro _ us rv
    cases rv
    exact .nil
  · intro w ws d ds _ _ i1 i2 hn us rv
    have hn : (d.noL && D.noLs ds) = true := hn
    rw [Bool.and_eq_true] at hn
    cases rv with
    | cons r1 rr => exact .cons (i1 hn.1 _ r1) (i2 hn.2 _ rr)
/-- behind a lambda's making -/
theorem ext_tabs {H1 : Hp} (ab : AbsS X.K g H st) (hE : LamX.ExtN H H1) (hT : LamX.Tabs g.T H1) : Ext g st H g st H1 ∧ AbsS X.K g H1 st := by
  refine ⟨⟨Nat.le_refl _, fun _ _ => rfl, fun _ _ h => h, fun b o h nt _ => ⟨hE b o h nt, fun z => z⟩, fun _ _ h => h, fun i hi h => absurd (get_lt h) (Nat.not_lt.mpr hi), fun b o h nt => ⟨o, hE b o h nt, nt⟩, rfl⟩,
    ⟨fun b o h => hE b o (ab.zH b o h) (ab.zt b o h), fun i mo h => ?_, ab.inj, hT, ab.zt⟩⟩
  obtain ⟨o, h1, h2, h3⟩ := ab.cell i mo h
  cases mo with
  | dct kvs => exact h3.elim
  | lst ds =>
    obtain ⟨xs, rfl, r⟩ := h3
    exact ⟨_, hE _ _ h1 (fun _ z => by cases z), h2, xs, rfl, r⟩
theorem noLs_mem : ∀ {l : List D}, D.noLs l = true → ∀ e ∈ l, e.noL = true
  | [], _, e, h => by cases h
  | x :: r, hp, e, h => by
    have hp : (x.noL && D.noLs r) = true := hp
    rw [Bool.and_eq_true] at hp
    rcases List.mem_cons.mp h with rfl | h
    · exact hp.1
    · exact noLs_mem hp.2 e h
theorem noL_plain : ∀ {d : D}, d.noL = true → d.plain = true := by
  intro d
  refine D.rec (motive_1 := fun d => d.noL = true → d.plain = true) (motive_2 := fun ds => D.noLs ds = true → D.plains ds = true) ?_ ?_ ?_ ?_ ?_ ?_ ?_ ?_ ?_ ?_ ?_ d
  · exact fun _ => rfl
  · exact fun _ _ => rfl
  · exact fun _ _ => rfl
  · exact fun _ _ => rfl
  · exact fun ds ih h => ih h
  · exact fun ds ih h => (by cases h)
  · exact fun ds ih h => (by cases h)
  · exact fun i h => (by cases h)
  · exact fun i h => (by cases h)
  · exact fun _ => rfl
  · exact fun d r i1 i2 h => by
      have h : (d.noL && D.noLs r) = true := h
      rw [Bool.and_eq_true] at h
      show (d.plain && D.plains r) = true
      rw [i1 h.1, i2 h.2]
      rfl
theorem all_at {l : List D} (h : l.all isTupD = true) (e : D) (he : e ∈ l) : isTupD e = true := List.all_eq_true.mp h e he
theorem key_sortable (xs : List D) : sortableB (xs.map keyLen) = true := by
  unfold sortableB
  rw [Bool.or_eq_true]
  refine .inl (List.all_eq_true.mpr fun d hd => ?_)
  obtain ⟨e, _, rfl⟩ := List.mem_map.mp hd
  cases e <;> rfl
theorem in2_depth {A : Around} : A.in1.in1.depth = A.depth := rfl
theorem sn_sortKey {f x : Str} {p pos p1 p2 p3 p4 p5 lp kp ap : Pos} {a : Expr} {kk : Nat} {scope : Scope} {fa : Rho → DL.S → Res D} (G : Good X P c sc raw) (hl : c.lam = true) (h : glook f c.G = some (.bt .sorted)) (hf : f = btName .sorted) (hg : gloC sc f = true)
    (hlen : glook ("len" : Str) c.G = some (.bt .len)) (ha : PE X a (tR P fa)) (hs : nostar a = true) (LS : LenS x scope) :
    PE X (.Call (.Name f p) [a] [⟨some "key", .Lambda ⟨[], [⟨x, none, ap⟩], none, [], [], none, []⟩ (lenBody x p1 p2 p3 p4 p5 kk) scope lp, kp⟩] pos) (tRN P fun ρ s => (fa ρ s).bind fun d s => sortedKN d s) := by
  have m := bt_none G h hf
  have mlen : X.mg ("len" : Str) = none := G.tab _ _ hlen rfl
  subst hf
  have g1 := glo_of G hg
  have s1 := star_of hs X.env []
  obtain ⟨K, cl, E, iv, TT⟩ := P
  have hK : K = X.K := G.hK
  subst hK
  obtain ⟨cc, tb, l1, l2, l3, l4⟩ := G.lam hl
  refine ⟨fun pins s σ H Q I ⟨ρ, g, st, ab, en, po⟩ => ?_⟩
  refine wpAny_Call_Name_kw (ld_blt I g1 m (bt_boot .sorted) ?_ (bt_ok .sorted).1 (bt_ok .sorted).2)
  refine PyProof.Rows.callWith_kw ?_ (by rw [s1]; rfl) (by rw [s1]; rfl) rfl rfl
  refine thn ((pa_cons ha pa_nil s1).run pos pins s σ H (fun vs H1 => ∃ (u : V) (d : D) (g1 : Gh) (t1 : DL.S), vs = [u] ∧ AbsS X.K g1 H1 t1 ∧ g1.T = TT ∧ Rep X.K g1 t1.size u d ∧ Post ⟨X.K, cl, E, iv, TT⟩ H1 g1 t1 (sortedKN d t1) fun es s' g' H' => ∀ p ys, H' p = none → RepL X.K g' s'.size ys es → Q (.ref p) (upd H' p (.lst ys))) I
    ⟨ρ, g, st, ab, en, po.bind.imp fun d t1 g1 H1 e1 ab1 q1 u ru => ⟨u, d, g1, t1, rfl, ab1, e1.tt.trans en.tt, ru, q1⟩⟩) fun us s1 hv => ?_
  obtain ⟨vs, H1, I1, rv, u, d, g1, t1, rfl, ab1, ht, ru, q1⟩ := hv
  obtain ⟨uu, rfl, ru2⟩ := vals1 rv
  -- the list as it stands
  have q1 : Post ⟨X.K, cl, E, iv, TT⟩ H1 g1 t1 (match lstOf t1 d with
    | some xs => if (xs.all isTupD = true ∧ D.noLs xs = true) ∧ (mapO (rsv t1 deep) xs).isSome = true ∧ alikeB (xs.map keyLen) = true then .ok (xs.mergeSort (PySem.W.dataLe false fun d => (keyLen d).pd)) t1 else .stuck
    | none => .stuck) _ := q1
  cases hd : lstOf t1 d with
  | none => rw [hd] at q1; exact q1.elim
  | some es =>
    rw [hd] at q1
    dsimp only at q1
    by_cases cd : (es.all isTupD = true ∧ D.noLs es = true) ∧ (mapO (rsv t1 deep) es).isSome = true ∧ alikeB (es.map keyLen) = true
    · rw [if_pos cd] at q1
      obtain ⟨⟨c1, c2⟩, c3, c4⟩ := cd
      obtain ⟨fs, hfs⟩ := Option.isSome_iff_exists.mp c3
      obtain ⟨l, vs, rfl, hlst, rvs⟩ := lst_at ab1 ru hd
      cases (show uu = Value.ref l from ru2)
      -- the lambda
      refine wpAny_evalAll_cons (wpAny_bind (LamX.lam_make2 (T := TT) I1 l2 l1 l3 l4 (by rw [← ht]; exact ab1.tabs) rfl (fun y hy e => absurd e (LS.own y hy).2) fun f0 c' pm ctv H2 s2 I2 hE hT hf0 _ _ hco => wpAny_bind (wpAny_standAt (wpAny_pure (wpAny_evalAll_nil ?_)))))
      have cl0 : cloFrom X.env.cells scope.names [] = [] := by
        have gen : ∀ (l : List (Str × NameKind)), (∀ y ∈ l, y.2 ≠ .free) → ∀ acc, cloFrom X.env.cells l acc = acc := by
          intro l
          induction l with
          | nil => intro _ acc; rfl
          | cons y r ih =>
            intro hy acc
            obtain ⟨n, kd⟩ := y
            have := hy (n, kd) (List.mem_cons_self ..)
            unfold cloFrom
            rw [if_neg (by simpa using this)]
            exact ih (fun z hz => hy z (List.mem_cons_of_mem _ hz)) acc
        exact gen _ (fun y hy => (LS.own y hy).2) []
      rw [cl0] at hf0
      obtain ⟨ex2, ab2⟩ := ext_tabs ab1 hE (by rw [ht]; exact hT)
      have hl2 : H2 l = some (.lst vs) := hE _ _ hlst (fun _ z => by cases z)
      obtain ⟨its, rv2, pl, hz⟩ := I2.list (.inl (.inl hl2))
      have hlen2 := rvs.length
      have il := rv2.length
      have rsvd : ∀ e ∈ es, rsv t1 deep e = some e := fun e he => by
        obtain ⟨b, hb⟩ := mapO_mem hfs e he
        rw [plain_rsv t1 deep (noL_plain (noLs_mem c2 e he)) hb] at hb
        exact hb
      have zl : (vs.zip es).length = es.length := by rw [List.length_zip]; omega
      have ea : PySem.W.EachIs (fun u (p : V × D) => RelV p.1 u ∧ Rep X.K g1 t1.size p.1 p.2 ∧ p.2 ∈ es) its (vs.zip es) := by
        refine each_zip il.symm hlen2 fun i u v d a1 a2 a3 => ?_
        obtain ⟨v', b1, b2⟩ := rvs.get a3
        rw [a2] at b1
        cases b1
        obtain ⟨u', b3, b4⟩ := rv2.get a2
        rw [a1] at b3
        cases b3
        exact ⟨b4, b2, List.mem_of_getElem? a3⟩
      have em : (vs.zip es).map (fun p => (keyLen p.2).pd) = (es.map keyLen).map D.pd := by
        have q := congrArg (List.map fun d => (keyLen d).pd) (zip_snd hlen2)
        rw [List.map_map] at q
        rw [List.map_map]
        exact q
      obtain ⟨⟨oc, ovs, ot, hoc, hdc, hvc⟩, _, _⟩ := I2.hok c' _ hco
      obtain ⟨mb, mb1, mb2⟩ := I2.mod.blt
      refine PySem.W.sorted_key_data (R := fun u (p : V × D) => RelV p.1 u ∧ Rep X.K g1 t1.size p.1 p.2 ∧ p.2 ∈ es) (b := false) (fun p => (keyLen p.2).pd) pl.isList ea (by rw [em]; exact alike_of c4) (by rw [em]; exact sortable_of (key_sortable es)) (by rw [zl, ← hlen2]; exact hz)
        (fun p hp => ?_) (PyProof.Rows.ksk_s1 _ _) (fun _ => PyProof.Rows.ksk_l1 _ _) (fun y => PyProof.Rows.ksk_t1 f0 y) (fun w p hR hp h tk kp => ?_) fun out ct h' tk kp hnone hat hol hout => ?_
      · have q3 : p.2 ∈ es := (List.of_mem_zip hp).2
        have dd := (rsv_shape t1 deep (rsvd _ q3)).2
        have un := G.un
        have le : (keyLen p.2).pd.depth ≤ deep + 1 := by
          have it := all_at c1 _ q3
          cases hp2 : p.2 with
          | tup ds =>
            rw [hp2] at dd
            show max (PyData.depth (.int (ds.length : Nat))) (max (PyData.depth (D.pd (.tup ds))) 0) + 1 ≤ deep + 1
            exact Nat.succ_le_succ (max_le' (by show PyData.depth (.int (ds.length : Nat)) ≤ 40; first | exact Nat.zero_le _ | (show 1 ≤ 40; omega)) (max_le' dd (Nat.zero_le _)))
          | _ => rw [hp2] at it; cases it
        have : deep = 40 := rfl
        omega
      · obtain ⟨r1, r2, r3⟩ := hR
        have it := all_at c1 _ r3
        have nl := noLs_mem c2 _ r3
        generalize hp2 : p.2 = d2 at r2 r3 it nl
        generalize hp1 : p.1 = w2 at r1 r2
        cases d2 with
        | tup ds =>
          cases r2 with
          | @tup q xs _ hs rs =>
            cases (show w = Value.ref q from r1)
            obtain ⟨its2, rv3, tp, hz3⟩ := I2.tuple (sqT_H ab2 hs)
            have hlim : sizeLine = 16777216 := sizeLine_eq
            have l1 := rv3.length
            have l2 := rs.length
            have tp : IsTup s2.heap q its2.toArray := tp
            refine wpAny_mono (lenkey_call (s := { s2 with heap := h, toks := tk }) (mg := X.mg) (mb := mb) ?_ (kp _ _ hf0) ⟨c', oc, ovs, ot, rfl, kp _ _ hoc, hdc, hvc⟩ (I2.nolimit.keeps kp) ((I2.mod.glob.keeps I2.bk).keeps kp) mlen ((mb1.keeps I2.bk).keeps kp)
              ((mb2 _ (by decide)).trans (bt_boot .len)) ⟨rfl, rfl, rfl, rfl, rfl, rfl, by simp⟩ LS (tp.keeps kp) (by simp only [List.size_toArray]; omega)) (fun u3 s3 hq3 => ?_) fun _ _ z => z
            · show X.A.depth < recursionLimit
              have := G.dp
              omega
            · obtain ⟨h3, tk3, p3, t3, rfl, k3, rfl, ⟨o3, a1, a2, n3, a3⟩⟩ := hq3
              refine ⟨h3, tk3, rfl, k3, ?_⟩
              have rr : Reads h3 (.ref q) (D.pd (.tup ds)) [] := Reads.keeps (fun b o e => k3 b o (kp b o e)) (reads0 I2 ab2 (.tup hs rs) nl _ rfl)
              refine .tuple a1 a2 a3 ?_
              have e3 : ((its2.toArray.size : Nat) : Int) = ((ds.length : Nat) : Int) := by
                rw [List.size_toArray, ← l1, l2]
              have z : ReadsAll h3 [Value.int (ds.length : Nat) t3, Value.ref q] [PyData.int (ds.length : Nat), D.pd (.tup ds)] ([] ++ ([] ++ [])) := .cons (.int _ _) (.cons rr .nil)
              rw [e3]
              exact z
        | _ => cases it
      · have hn : H2 (s2.heap.objs.size + 1) = none := I2.hok.fresh (Nat.le_succ _)
        have srt : ((vs.zip es).mergeSort (PySem.W.dataLe false fun p => (keyLen p.2).pd)).map (·.2) = es.mergeSort (PySem.W.dataLe false fun d => (keyLen d).pd) := by
          have q := PySem.W.sort_maps (r := PySem.W.dataLe false fun p : V × D => (keyLen p.2).pd) (s := PySem.W.dataLe false fun d => (keyLen d).pd) (fun p : V × D => p.2) (l := vs.zip es) fun a _ b _ => rfl
          rw [q, zip_snd hlen2]
        have rl : RepL X.K g1 t1.size (((vs.zip es).mergeSort (PySem.W.dataLe false fun p => (keyLen p.2).pd)).map (·.1)) (es.mergeSort (PySem.W.dataLe false fun d => (keyLen d).pd)) := by
          rw [← srt]
          refine repL_each fun q hq => ?_
          have hq : q ∈ vs.zip es := (List.mergeSort_perm _ _).mem_iff.mp hq
          obtain ⟨i, hi⟩ := List.getElem?_of_mem hq
          rw [List.getElem?_zip_eq_some] at hi
          obtain ⟨v', b1, b2⟩ := rvs.get hi.2
          rw [hi.1] at b1
          cases b1
          exact b2
        have vl := vals_each (hout.mono fun u q hq => hq.1)
        have ln : (((vs.zip es).mergeSort (PySem.W.dataLe false fun p => (keyLen p.2).pd)).map (·.1)).length ≤ sizeLine := by
          rw [List.length_map, List.length_mergeSort, zl, ← hlen2]
          exact hz
        refine ⟨.ref (s2.heap.objs.size + 1), upd H2 (s2.heap.objs.size + 1) (.lst (((vs.zip es).mergeSort (PySem.W.dataLe false fun p => (keyLen p.2).pd)).map (·.1))), I2.laid (t' := tk) kp (Nat.le_succ _) ⟨ln, out, ct, vl, hat⟩, rfl, ?_⟩
        exact q1 g1 H2 ex2 ab2 _ _ hn rl
    · rw [if_neg cd] at q1
      exact q1.elim
end
end DL
set_option Elab.async false
set_option linter.all false
set_option maxRecDepth 100000
set_option maxHeartbeats 4000000
/-! The data layer, part 16: comprehensions, the check of expressions. -/
namespace DL
open PySem PySem.Spec PyProof.Rows L2
section
variable {X : Cx} {P : Par} {c : Cfg} {sc raw : Scope} {v : Ev} {p pos : Pos} {a b e : Expr}
/-- an operator that gives a new list -/
def rDN (P : Par) (f : D → D → S → Res (List D)) : R2 := fun x y H Q => ∃ d e g s, AbsS P.K g H s ∧ Rep P.K g s.size x d ∧ Rep P.K g s.size y e ∧ Post P H g s (f d e s) fun es s' g' H' => ∀ p ys, H' p = none → RepL P.K g' s'.size ys es → Q (.ref p) (upd H' p (.lst ys))
theorem sn_bin {op : Operator} {r : D → D → S → Res (List D)} {fa fb : Rho → S → Res D} (ho : OpR X (binaryOp op) (rDN P r)) (ha : PE X a (tR P fa)) (hb : PE X b (tR P fb)) :
    PE X (.BinOp a op b pos) (tRN P fun ρ s => (fa ρ s).bind fun x s => (fb ρ s).bind fun y s => r x y s) := (pe_op ho ha hb).ofD fun σ H Q ⟨ρ, g, s, ab, en, po⟩ =>
  ⟨ρ, g, s, ab, en, po.bind.imp fun d s1 g1 H1 e1 ab1 p1 v rv => ⟨ρ, g1, s1, ab1, en.ext e1, p1.bind.imp fun d2 s2 g2 H2 e2 ab2 p2 u ru => ⟨d, d2, g2, s2, ab2, e2.rep rv, ru, p2⟩⟩⟩
theorem op_mulN (hK : P.K = X.K) : OpR X (binaryOp .Mult) (rDN P mulN) := by
  obtain ⟨K, cl, E, iv, TT⟩ := P
  have hK : K = X.K := hK
  subst hK
  intro pins s σ H x y v u Q I rx ry ⟨d, e, g, st, ab, r1, r2, po⟩
  cases e with
  | int j =>
    cases r2
    have po : Post ⟨X.K, cl, E, iv, TT⟩ H g st (match lstOf st d with
      | some xs => if 0 ≤ j ∧ xs.length * j.toNat ≤ line ∧ j < 1000000 then .ok (repl xs j.toNat) st else .stuck
      | none => .stuck) fun es s' g' H' => ∀ p ys, H' p = none → RepL X.K g' s'.size ys es → Q (.ref p) (upd H' p (.lst ys)) := po
    cases h1 : lstOf st d with
    | none => rw [h1] at po; exact po.elim
    | some xs =>
      rw [h1] at po
      dsimp only at po
      obtain ⟨a, vs, rfl, ha, ra⟩ := lst_at ab r1 h1
      by_cases hl : 0 ≤ j ∧ xs.length * j.toNat ≤ line ∧ j < 1000000
      · rw [if_pos hl] at po
        refine op_rep pins s σ H _ _ v u Q I rx ry ⟨a, j, vs, rfl, rfl, ha, by omega, by omega, ?_, fun p hp => Post.here po ab p _ hp (rep_repl ra _)⟩
        rw [ra.length, ← line_eq]
        exact hl.2.1
      · rw [if_neg hl] at po
        exact po.elim
  | _ => exact po.elim
theorem op_addN (hK : P.K = X.K) : OpR X (binaryOp .Add) (rDN P addN) := by
  obtain ⟨K, cl, E, iv, TT⟩ := P
  have hK : K = X.K := hK
  subst hK
  intro pins s σ H x y v u Q I rx ry ⟨d, e, g, st, ab, r1, r2, po⟩
  have po : Post ⟨X.K, cl, E, iv, TT⟩ H g st (match lstOf st d, lstOf st e with
    | some xs, some ys => if xs.length + ys.length ≤ line then .ok (xs ++ ys) st else .stuck
    | _, _ => .stuck) fun es s' g' H' => ∀ p ys, H' p = none → RepL X.K g' s'.size ys es → Q (.ref p) (upd H' p (.lst ys)) := po
  cases h1 : lstOf st d with
  | none => rw [h1] at po; exact po.elim
  | some xs =>
    cases h2 : lstOf st e with
    | none => rw [h1, h2] at po; exact po.elim
    | some ys =>
      rw [h1, h2] at po
      dsimp only at po
      obtain ⟨a, vs, rfl, ha, ra⟩ := lst_at ab r1 h1
      obtain ⟨b, us, rfl, hb, rb⟩ := lst_at ab r2 h2
      by_cases hl : xs.length + ys.length ≤ line
      · rw [if_pos hl] at po
        refine op_cat pins s σ H _ _ v u Q I rx ry ⟨a, b, vs, us, rfl, rfl, ha, hb, ?_, fun p hp => Post.here po ab p _ hp (ra.append rb)⟩
        rw [ra.length, rb.length, ← line_eq]
        exact hl
      · rw [if_neg hl] at po
        exact po.elim
/-- the tests: none or one -/
theorem st_ifs {X : Cx} {P : Par} {T : Expr → Rho → S → Res Bool} : ∀ {ifs : List Expr}, ifs.length ≤ 1 → (∀ e ∈ ifs, PT X e (tRT P (T e))) → PTs X ifs (tRT P (evIfs T ifs))
  | [], _, _ => pts_nil.ofD fun σ H Q ⟨ρ, g, s, ab, en, po⟩ => Post.here po ab
  | [e], _, h => (pts_one (h e (List.mem_cons_self ..))).ofD fun σ H Q ⟨ρ, g, s, ab, en, po⟩ => ⟨ρ, g, s, ab, en, (Post.bind (f := fun b s => match b with
      | true => .ok true s
      | false => .ok false s) po).imp fun b s1 g1 H1 e1 ab1 p1 => by
      cases b with
      | true => exact Post.here p1 ab1
      | false => exact Post.here p1 ab1⟩
  | _ :: _ :: _, h, _ => absurd h (by simp)
/-- no set's display -/
def noset (e : Expr) : Bool := match e with
  | .Set _ _ _ => false
  | _ => true
theorem set_of {e : Expr} (h : noset e = true) (env : Env) : ∀ x, foldedSetIterable e env x = pure x := by
  intro x
  cases e <;> first | rfl | cases h
/-- targets that are names of the block -/
def ckTgN (c : Cfg) (raw : Scope) (e : Expr) : Bool := match e with
  | .Name x _ => asgC raw x && (ix x c.N).isSome
  | _ => false
def ckTg (c : Cfg) (raw : Scope) (e : Expr) : Bool := match e with
  | .Name x p => ckTgN c raw (.Name x p)
  | .Tuple es _ _ => es.all (ckTgN c raw)
  | _ => false
theorem asg_of {e : Expr} (G : Good X P c sc raw) (h : ckTgN c raw e = true) : AsgOk X e := by
  unfold ckTgN at h
  split at h
  · rename_i x q
    rw [Bool.and_eq_true] at h
    obtain ⟨i, hi⟩ := Option.isSome_iff_exists.mp h.2
    obtain ⟨h1, h2⟩ := G.asg x h.1
    exact ⟨x, q, i, rfl, by rw [G.hN]; exact hi, h1, h2⟩
  · cases h
theorem tg_of {e : Expr} (G : Good X P c sc raw) (h : ckTg c raw e = true) : AsgOk X e ∨ ∃ es k p, e = .Tuple es k p ∧ ∀ e ∈ es, AsgOk X e := by
  unfold ckTg at h
  split at h
  · exact .inl (asg_of G h)
  · rename_i es k q
    rw [List.all_eq_true] at h
    exact .inr ⟨es, k, q, rfl, fun x hx => asg_of G (h x hx)⟩
  · cases h
theorem sn_comp {elt tg it : Expr} {ifs : List Expr} {scope : Scope} (G : Good X P c sc raw) (hi : PI X tg it (tRI P (v.I it))) (ok : blkC c.N sc scope (ownTg c.N tg) = true) (hsub : ∀ i ∈ tgIx c.N tg, i ∈ (ownTg c.N tg).map (·.2)) (htg : ckTg c scope tg = true)
    (hif : ∀ X', Good X' P.quiet c (relS scope sc) scope → PTs X' ifs (tRT P.quiet (evIfs v.T ifs))) (hel : ∀ X', Good X' P.quiet c (relS scope sc) scope → PE X' elt (tR P.quiet (v.E elt))) (hset : noset it = true) :
    PE X (.ListComp elt [⟨tg, it, ifs, 0⟩] scope pos) (tRN P (evCompN c v elt tg it ifs scope)) := by
  have ok2 : BlkOk X.N X.env.scope scope (ownTg c.N tg) := by
    rw [G.hN, G.sc]
    exact blkOk_by ok
  refine (pe_lc (g := tRG P.quiet X.N tg) G.calm G.nd hi ok2 (fun s H C cl fp => ?_) (fun s H C cl fp => hif _ (G.blk s H scope cl C fp)) (fun s H C cl fp => hel _ (G.blk s H scope cl C fp)) (set_of hset X.env)).ofD fun σ H Q h => tlc_of (by rw [G.hN]; exact hsub) ?_
  · have G2 := G.blk s H scope cl C fp
    exact sg_any (fun _ _ _ _ => trivial) G2.hK G2.calm G2.nd (tg_of G2 htg)
  · rw [G.hN]
    exact h
end
/-! ### the check -/
structure Ck where
  E : Scope → Scope → Expr → Bool
  N : Scope → Scope → Expr → Bool
  T : Scope → Scope → Expr → Bool
  I : Scope → Scope → Expr → Expr → Bool
  X : Scope → Scope → Stmt → Bool
def ckNo : Ck := ⟨fun _ _ _ => true, fun _ _ _ => true, fun _ _ _ => true, fun _ _ _ _ => true, fun _ _ _ => true⟩
section
variable (c : Cfg) (k : Ck) (sc raw : Scope)
def cArgs (es : List Expr) : Bool := es.all fun e => k.E sc raw e && nostar e
def cRng (args : List Expr) (e : Expr) : Bool := (match e with
  | .Call (.Name f _) _ _ _ => decide (f = btName .range) && gloC sc f
  | _ => false) && (decide (args.length = 1) || decide (args.length = 2)) && cArgs k sc raw args
def cArg (a : Expr) : Bool := nostar a && (match rngArgs c a with
  | some args => cRng k sc raw args a
  | none => k.E sc raw a)
def cComp (elt tg it : Expr) (ifs : List Expr) (scope : Scope) : Bool :=
  k.I sc raw tg it && blkC c.N sc scope (ownTg c.N tg) && (tgIx c.N tg).all (fun i => ((ownTg c.N tg).map (·.2)).contains i) && ckTg c scope tg && decide (ifs.length ≤ 1) && ifs.all (k.T (relS scope sc) scope) && k.E (relS scope sc) scope elt && noset it
def cOpt (e : Option Expr) : Bool := match e with
  | none => true
  | some e => k.E sc raw e
def cIsi (args : List Expr) : Bool := match args with
  | [e, .Tuple ts _ _] => k.E sc raw e && nostar e && ts.all (ckTy c sc) && decide (ts.length ≤ line)
  | [e, t] => k.E sc raw e && nostar e && ckTy c sc t
  | _ => true
def cOne (args : List Expr) : Bool := match args with
  | [a] => cArg c k sc raw a
  | _ => true
def cBt (f : Str) (b : Bt) (args : List Expr) : Bool := decide (f = btName b) && gloC sc f && (match b with
  | .isinst => cIsi c k sc raw args
  | .list => cOne c k sc raw args
  | .tuple => cOne c k sc raw args
  | b => btPlain b && !args.isEmpty && cArgs k sc raw args)
/-- a lambda's scope -/
def lenSB (kw : Keyword) : Bool := match kw with
  | ⟨_, .Lambda ⟨_, [⟨x, _, _⟩], _, _, _, _, _⟩ _ scope _, _⟩ => decide (scope.kind = .function) && !scope.isCoroutine && !scope.isGenerator && decide (scope.names.lookup x = some .local) && decide (scope.names.lookup ("len" : Str) = some .globalImplicit) && (scope.names.all fun y => !decide (y.2 = .cell) && !decide (y.2 = .free)) && !(x == ("__debug__" : Str))
  | _ => false
def isLenG : Bool := match glook ("len" : Str) c.G with
  | some (.bt .len) => true
  | _ => false
def cKeyN (f : Str) (a : Expr) (kw : Keyword) : Bool := match lenKeyOf kw with
  | true => decide (f = btName .sorted) && gloC sc f && c.lam && isLenG c && k.E sc raw a && nostar a && lenSB kw
  | false => true
def cKey (f : Str) (b : Bt) (args : List Expr) (kw : Keyword) : Bool := match b, args with
  | .sorted, [a] => cKeyN c k sc raw f a kw
  | _, _ => true
def cCall (f : Str) (args : List Expr) (kws : List Keyword) : Bool := match nm c f with
  | .glo (.fn _ _) => gloC sc f && okN f && cArgs k sc raw args && kws.all fun q => k.E sc raw q.value
  | .glo (.bt b) => (match kws with
    | [] => cBt c k sc raw f b args
    | [kw] => cKey c k sc raw f b args kw
    | _ => true)
  | _ => true
def cE (e : Expr) : Bool := match e with
  | .Name x _ => ckName c sc x
  | .BinOp a _ b _ => k.E sc raw a && k.E sc raw b
  | .UnaryOp .USub a _ => k.E sc raw a
  | .UnaryOp .Not a _ => k.E sc raw a
  | .BoolOp _ es _ => es.all (k.E sc raw)
  | .Compare a [op] [b] _ => k.E sc raw a && k.E sc raw b && !behindInMarks op b
  | .Compare a [op, op'] [b, d] _ => k.E sc raw a && k.E sc raw b && k.E sc raw d && !lastMarks [op, op'] [b, d]
  | .IfExp t a b _ => k.T sc raw t && k.E sc raw a && k.E sc raw b
  | .Tuple es _ _ => cArgs k sc raw es && decide (es.length ≤ line)
  | .List es _ => cArgs k sc raw es && decide (es.length ≤ line)
  | .Subscript a (.Slice lo hi none _) _ => k.E sc raw a && cOpt k sc raw lo && cOpt k sc raw hi
  | .Subscript _ (.Slice _ _ (some _) _) _ => false
  | .Subscript a i _ => k.E sc raw a && k.E sc raw i
  | .ListComp elt [⟨tg, it, ifs, 0⟩] scope _ => cComp c k sc raw elt tg it ifs scope
  | .Call (.Name f _) args kws _ => cCall c k sc raw f args kws
  | _ => true
def cN (e : Expr) : Bool := match e with
  | .List es _ => cArgs k sc raw es && decide (es.length ≤ line)
  | .ListComp elt [⟨tg, it, ifs, 0⟩] scope _ => cComp c k sc raw elt tg it ifs scope
  | .BinOp a .Mult b _ => k.E sc raw a && k.E sc raw b
  | .BinOp a .Add b _ => k.E sc raw a && k.E sc raw b
  | .Call (.Name f _) [a] [] _ => (match nm c f with
    | .glo (.bt .list) => decide (f = btName .list) && gloC sc f && cArg c k sc raw a
    | .glo (.bt .sorted) => decide (f = btName .sorted) && gloC sc f && k.E sc raw a && nostar a
    | _ => true)
  | .Call (.Name f _) [a] [kw] _ => (match nm c f with
    | .glo (.bt .sorted) => cKeyN c k sc raw f a kw
    | _ => true)
  | _ => true
def cT (e : Expr) : Bool := match e with
  | .UnaryOp .Not a _ => k.T sc raw a
  | .BoolOp .And es _ => !es.isEmpty && es.all (k.T sc raw)
  | .BoolOp .Or es _ => !es.isEmpty && es.all (k.T sc raw)
  | .Compare a [op] [b] _ => k.E sc raw a && k.E sc raw b && !behindInMarks op b
  | .Compare a [op, op'] [b, d] _ => k.E sc raw a && k.E sc raw b && k.E sc raw d && !lastMarks [op, op'] [b, d]
  | .Name x p => k.E sc raw (.Name x p)
  | .Call f a q p => k.E sc raw (.Call f a q p)
  | .Subscript a i p => k.E sc raw (.Subscript a i p)
  | .Constant q j p => k.E sc raw (.Constant q j p)
  | _ => true
def isTup (e : Expr) : Bool := match e with
  | .Tuple _ _ _ => true
  | _ => false
def cRng0 (args : List Expr) (kws : List Keyword) (e : Expr) : Bool := match kws with
  | [] => cRng k sc raw args e
  | _ => true
def cI (tg e : Expr) : Bool := match e with
  | .Call (.Name f p) args kws q => (match nm c f with
    | .glo (.bt .range) => cRng0 k sc raw args kws (.Call (.Name f p) args kws q)
    | .glo (.bt .zip) => isTup tg && decide (f = btName .zip) && gloC sc f && cArgs k sc raw args
    | .glo (.bt .enumerate) => isTup tg && decide (f = btName .enumerate) && gloC sc f && cArgs k sc raw args
    | _ => k.E sc raw (.Call (.Name f p) args kws q))
  | e => k.E sc raw e
end
/-! ### expressions are sound -/
structure SndE (c : Cfg) (v : Ev) (k : Ck) : Prop where
  E : ∀ {X P sc raw e}, Good X P c sc raw → k.E sc raw e = true → PE X e (tR P (v.E e))
  N : ∀ {X P sc raw e}, Good X P c sc raw → k.N sc raw e = true → PE X e (tRN P (v.N e))
  T : ∀ {X P sc raw e}, Good X P c sc raw → k.T sc raw e = true → PT X e (tRT P (v.T e))
  I : ∀ {X P sc raw tg e}, Good X P c sc raw → k.I sc raw tg e = true → PI X tg e (tRI P (v.I e))
section
variable {X : Cx} {P : Par} {c : Cfg} {sc raw : Scope} {v : Ev} {k : Ck} {p pos : Pos} {a b e : Expr} {es : List Expr}
theorem all_of {α : Type} {l : List α} {f : α → Bool} (h : l.all f = true) : ∀ x ∈ l, f x = true := List.all_eq_true.mp h
theorem args_of (S : SndE c v k) (G : Good X P c sc raw) (h : cArgs k sc raw es = true) : (∀ e ∈ es, PE X e (tR P (v.E e))) ∧ ∀ e ∈ es, nostar e = true := by
  have q := all_of h
  exact ⟨fun e he => S.E G (Bool.and_eq_true _ _ ▸ q e he).1, fun e he => (Bool.and_eq_true _ _ ▸ q e he).2⟩
theorem comp_of {elt tg it : Expr} {ifs : List Expr} {scope : Scope} (S : SndE c v k) (G : Good X P c sc raw) (h : cComp c k sc raw elt tg it ifs scope = true) : PE X (.ListComp elt [⟨tg, it, ifs, 0⟩] scope pos) (tRN P (evCompN c v elt tg it ifs scope)) := by
  unfold cComp at h
  simp only [Bool.and_eq_true, decide_eq_true_eq] at h
  obtain ⟨⟨⟨⟨⟨⟨⟨h1, h2⟩, h3⟩, h4⟩, h5⟩, h6⟩, h7⟩, h8⟩ := h
  exact sn_comp G (S.I G h1) h2 (fun i hi => by simpa using all_of h3 i hi) h4 (fun X' G' => st_ifs h5 fun e he => S.T G' (all_of h6 e he)) (fun X' G' => S.E G' h7) h8
theorem rng_of {args : List Expr} (S : SndE c v k) (G : Good X P c sc raw) (hr : rngArgs c e = some args) (h : cRng k sc raw args e = true) : PRg X e (tRg P (evRng v args)) := by
  obtain ⟨f, p, q, rfl, hl⟩ := rngArgs_at hr
  unfold cRng at h
  simp only [Bool.and_eq_true, Bool.or_eq_true, decide_eq_true_eq] at h
  obtain ⟨⟨⟨h1, h2⟩, h3⟩, h4⟩ := h
  obtain ⟨a1, a2⟩ := args_of S G h4
  exact prg_any G hl h1 h2 h3 a1 a2
theorem listOf_of {f : Str} (S : SndE c v k) (G : Good X P c sc raw) (hl : glook f c.G = some (.bt .list)) (hf : f = btName .list) (hg : gloC sc f = true) (h : cArg c k sc raw a = true) : PE X (.Call (.Name f p) [a] [] pos) (tRN P (match rngArgs c a with
      | some args => evRngL v args
      | none => fun ρ s => (v.E a ρ s).bind fun d s => listN [d] s)) := by
  unfold cArg at h
  rw [Bool.and_eq_true] at h
  obtain ⟨h1, h2⟩ := h
  cases q : rngArgs c a with
  | some args =>
    rw [q] at h2
    exact sn_listRg G hl hf hg (rng_of S G q h2) h1
  | none =>
    rw [q] at h2
    have m := bt_none G hl hf
    subst hf
    have s1 := star_of h1 X.env []
    refine (pe_callTy (cbN_list G.hK) (glo_of G hg) m (bt_boot .list) (pa_cons (S.E G h2) pa_nil s1) (bt_ok .list).1 (bt_ok .list).2 s1).ofD fun σ H Q ⟨ρ, g, s, ab, en, po⟩ => ⟨ρ, g, s, ab, en, po.bind.imp fun d s1 g1 H1 e1 ab1 p1 u ru => ⟨[d], g1, s1, ab1, .cons ru .nil, p1⟩⟩
theorem tupOf_of {f : Str} (S : SndE c v k) (G : Good X P c sc raw) (hl : glook f c.G = some (.bt .tuple)) (hf : f = btName .tuple) (hg : gloC sc f = true) (h : cArg c k sc raw a = true) : PE X (.Call (.Name f p) [a] [] pos) (tR P (evListOf c v .tuple a)) := by
  unfold cArg at h
  rw [Bool.and_eq_true] at h
  obtain ⟨h1, h2⟩ := h
  unfold evListOf
  cases q : rngArgs c a with
  | some args =>
    rw [q] at h2
    exact se_tupRg G hl hf hg (rng_of S G q h2) h1
  | none =>
    rw [q] at h2
    have m := bt_none G hl hf
    subst hf
    have s1 := star_of h1 X.env []
    refine (pe_callTy (cb_tuple G.hK) (glo_of G hg) m (bt_boot .tuple) (pa_cons (S.E G h2) pa_nil s1) (bt_ok .tuple).1 (bt_ok .tuple).2 s1).ofD fun σ H Q hq => tR_bind hq fun u H1 ρ d g1 s1 ab1 en1 ru p1 => ⟨[d], g1, s1, ab1, .cons ru .nil, p1⟩
theorem lay_fun {f : Rho → S → Res (List D)} (h : PE X e (tRN P f)) : PE X e (tR P fun ρ s => asLst (f ρ s)) := sn_lay h
theorem isi_of {f : Str} {args : List Expr} (S : SndE c v k) (G : Good X P c sc raw) (hl : glook f c.G = some (.bt .isinst)) (hf : f = btName .isinst) (hg : gloC sc f = true) (h : cIsi c k sc raw args = true) : PE X (.Call (.Name f p) args [] pos) (tR P (evIsi c v args)) := by
  unfold cIsi at h
  unfold evIsi
  split at h
  · rename_i e ts kk q
    simp only [Bool.and_eq_true, decide_eq_true_eq] at h
    obtain ⟨⟨⟨h1, h2⟩, h3⟩, h4⟩ := h
    try dsimp only
    cases z : tyNames c.G c.N ts with
    | none => exact se_stuck
    | some bs => exact se_isiT G hl hf hg z (all_of h3) h4 (S.E G h1) h2
  · rename_i e t hne
    simp only [Bool.and_eq_true] at h
    obtain ⟨⟨h1, h2⟩, h3⟩ := h
    first
    | (split
       · rename_i heq
         cases heq
         exact absurd rfl (hne _ _ _)
       · rename_i heq
         cases heq
         cases z : tyName c.G c.N t with
         | none => exact se_stuck
         | some bt => exact se_isi1 G hl hf hg z h3 (S.E G h1) h2
       · exact se_stuck)
    | (cases z : tyName c.G c.N t with
       | none => exact se_stuck
       | some bt => exact se_isi1 G hl hf hg z h3 (S.E G h1) h2)
  · rename_i h1 h2
    first
    | exact se_stuck
    | (split
       · rename_i e ts kk q
         exact absurd rfl (h1 _ _ _ _)
       · rename_i e t _
         exact absurd rfl (h2 _ _)
       · exact se_stuck)
theorem oneL_of {f : Str} (S : SndE c v k) (G : Good X P c sc raw) (hl : glook f c.G = some (.bt .list)) (hf : f = btName .list) (hg : gloC sc f = true) : ∀ {args : List Expr}, cOne c k sc raw args = true → PE X (.Call (.Name f p) args [] pos) (tR P (evOne c v .list args))
  | [], _ => se_stuck
  | _ :: _ :: _, _ => se_stuck
  | [a], h3 => by
    have z := listOf_of (p := p) (pos := pos) S G hl hf hg h3
    have e : evListOf c v .list a = fun ρ s => asLst ((match rngArgs c a with
      | some args => evRngL v args
      | none => fun ρ s => (v.E a ρ s).bind fun d s => listN [d] s) ρ s) := by
      funext ρ s
      unfold evListOf
      cases rngArgs c a with
      | some args => rfl
      | none =>
        show (v.E a ρ s).bind (fun d s => asLst (listN [d] s)) = asLst ((v.E a ρ s).bind fun d s => listN [d] s)
        unfold asLst
        rw [bind_assoc]
    show PE X _ (tR P (evListOf c v .list a))
    rw [e]
    exact lay_fun z
theorem oneT_of {f : Str} (S : SndE c v k) (G : Good X P c sc raw) (hl : glook f c.G = some (.bt .tuple)) (hf : f = btName .tuple) (hg : gloC sc f = true) : ∀ {args : List Expr}, cOne c k sc raw args = true → PE X (.Call (.Name f p) args [] pos) (tR P (evOne c v .tuple args))
  | [], _ => se_stuck
  | _ :: _ :: _, _ => se_stuck
  | [a], h3 => tupOf_of S G hl hf hg h3
theorem lenKey_at {kw : Keyword} (h : lenKeyOf kw = true) : ∃ x ap p1 p2 p3 p4 p5 kk scope lp kp, kw = ⟨some ("key" : Str), .Lambda ⟨[], [⟨x, none, ap⟩], none, [], [], none, []⟩ (lenBody x p1 p2 p3 p4 p5 kk) scope lp, kp⟩ := by
  unfold lenKeyOf at h
  split at h
  · simp only [Bool.and_eq_true, decide_eq_true_eq] at h
    obtain ⟨⟨⟨rfl, rfl⟩, rfl⟩, rfl⟩ := h
    exact ⟨_, _, _, _, _, _, _, _, _, _, _, rfl⟩
  · cases h
theorem lenS_of {x : Str} {ap : Pos} {b : Expr} {scope : Scope} {lp kp : Pos} {n : Option Str} (h : lenSB ⟨n, .Lambda ⟨[], [⟨x, none, ap⟩], none, [], [], none, []⟩ b scope lp, kp⟩ = true) : LenS x scope := by
  unfold lenSB at h
  simp only [Bool.and_eq_true, Bool.not_eq_true', decide_eq_true_eq] at h
  obtain ⟨⟨⟨⟨⟨⟨h1, h2⟩, h3⟩, h4⟩, h5⟩, h6⟩, h7⟩ := h
  refine ⟨h1, h2, h3, h4, h5, fun y hy => ?_, h7⟩
  have q := all_of h6 y hy
  simp only [Bool.and_eq_true, Bool.not_eq_true', decide_eq_false_iff_not] at q
  exact q
theorem keyN_of {f : Str} {kw : Keyword} (S : SndE c v k) (G : Good X P c sc raw) (hl : glook f c.G = some (.bt .sorted)) (h : cKeyN c k sc raw f a kw = true) : PE X (.Call (.Name f p) [a] [kw] pos) (tRN P (evKeyN v a kw)) := by
  unfold cKeyN at h
  unfold evKeyN
  cases q : lenKeyOf kw with
  | false => exact ⟨fun pins s σ H Q I h => by
      obtain ⟨_, _, _, _, _, po⟩ := h
      exact po.elim⟩
  | true =>
    rw [q] at h
    simp only [Bool.and_eq_true, decide_eq_true_eq] at h
    obtain ⟨⟨⟨⟨⟨⟨h1, h2⟩, h3⟩, h4⟩, h5⟩, h6⟩, h7⟩ := h
    obtain ⟨x, ap, p1, p2, p3, p4, p5, kk, scope, lp, kp, rfl⟩ := lenKey_at q
    have hlen : glook ("len" : Str) c.G = some (.bt .len) := by
      unfold isLenG at h4
      split at h4
      · assumption
      · cases h4
    exact sn_sortKey G h3 hl h1 h2 hlen (S.E G h5) h6 (lenS_of h7)
theorem key_of {f : Str} {bt : Bt} {args : List Expr} {kw : Keyword} (S : SndE c v k) (G : Good X P c sc raw) (hl : glook f c.G = some (.bt bt)) (h : cKey c k sc raw f bt args kw = true) : PE X (.Call (.Name f p) args [kw] pos) (tR P (evKey v bt args kw)) := by
  unfold cKey at h
  unfold evKey
  split at h
  · exact lay_fun (keyN_of S G hl h)
  · rename_i hne
    first
    | exact se_stuck
    | (split
       · exact absurd rfl (hne _ rfl)
       · exact se_stuck)
theorem call_of {f : Str} {args : List Expr} {kws : List Keyword} (S : SndE c v k) (G : Good X P c sc raw) (h : cCall c k sc raw f args kws = true) : PE X (.Call (.Name f p) args kws pos) (tR P (evCall c v f args kws)) := by
  unfold cCall at h
  unfold evCall
  split at h
  · rename_i ps F hn
    try rw [hn]
    simp only [Bool.and_eq_true] at h
    obtain ⟨⟨⟨h1, h2⟩, h3⟩, h4⟩ := h
    obtain ⟨a1, a2⟩ := args_of S G h3
    exact se_fn G (nm_glo hn) h1 h2 a1 a2 fun q hq => S.E G (all_of h4 q hq)
  · rename_i bt hn
    try rw [hn]
    have hl := nm_glo hn
    match kws, h with
    | _ :: _ :: _, _ => exact se_stuck
    | [kw], h => exact key_of S G hl h
    | [], h =>
      dsimp only at h ⊢
      unfold cBt at h
      simp only [Bool.and_eq_true, decide_eq_true_eq] at h
      obtain ⟨⟨h1, h2⟩, h3⟩ := h
      have plain : (btPlain bt && !args.isEmpty && cArgs k sc raw args) = true → PE X (.Call (.Name f p) args [] pos) (tR P fun ρ s => (evArgs v.E args ρ s).bind fun ds s => callB bt ds s) := fun h3 => by
        simp only [Bool.and_eq_true] at h3
        obtain ⟨⟨b1, b2⟩, b3⟩ := h3
        obtain ⟨a1, a2⟩ := args_of S G b3
        exact se_bt G hl h1 h2 b1 (by rintro rfl; cases b2) a1 a2
      cases bt with
      | isinst => exact isi_of S G hl h1 h2 h3
      | list => exact oneL_of S G hl h1 h2 h3
      | tuple => exact oneT_of S G hl h1 h2 h3
      | _ => exact plain h3
  · rename_i h1 h2
    first
    | exact se_stuck
    | (split
       · rename_i hn
         exact absurd hn (h1 _ _)
       · rename_i hn
         exact absurd hn (h2 _)
       · exact se_stuck)
end
end DL
set_option Elab.async false
set_option linter.all false
set_option maxRecDepth 100000
set_option maxHeartbeats 4000000
/-! The data layer, part 17: a step of the machine is sound, expressions. -/
namespace DL
open PySem PySem.Spec PyProof.Rows L2
section
variable {X : Cx} {P : Par} {c : Cfg} {sc raw : Scope} {v : Ev} {k : Ck} {p pos : Pos} {a b e : Expr} {es : List Expr}
theorem opt_of {o : Option Expr} (S : SndE c v k) (G : Good X P c sc raw) (h : cOpt k sc raw o = true) : PO X o (tRO P (evOpt v o)) := so_part fun e he => by
  subst he
  exact S.E G h
theorem cmp1_of {op : CmpOp} (S : SndE c v k) (G : Good X P c sc raw) (h : (k.E sc raw a && k.E sc raw b && !behindInMarks op b) = true) : PE X a (tR P (v.E a)) ∧ PE X b (tR P (v.E b)) ∧ behindInMarks op b = false ∧ OpR X (compareOp op) (rD P (cmpop op)) := by
  simp only [Bool.and_eq_true, Bool.not_eq_true'] at h
  have un := G.un
  exact ⟨S.E G h.1.1, S.E G h.1.2, h.2, op_cmpop G.hK (by omega) op⟩
theorem cmp2_of {op op' : CmpOp} {d : Expr} (S : SndE c v k) (G : Good X P c sc raw) (h : (k.E sc raw a && k.E sc raw b && k.E sc raw d && !lastMarks [op, op'] [b, d]) = true) :
    PE X a (tR P (v.E a)) ∧ PE X b (tR P (v.E b)) ∧ PE X d (tR P (v.E d)) ∧ lastMarks [op, op'] [b, d] = false ∧ OpR X (compareOp op) (rD P (cmpop op)) ∧ OpR X (compareOp op') (rD P (cmpop op')) := by
  simp only [Bool.and_eq_true, Bool.not_eq_true'] at h
  have un := G.un
  exact ⟨S.E G h.1.1.1, S.E G h.1.1.2, S.E G h.1.2, h.2, op_cmpop G.hK (by omega) op, op_cmpop G.hK (by omega) op'⟩
theorem plain_ix {i : Expr} (h : ∀ lo hi st q, i ≠ .Slice lo hi st q) : PlainIx i := by
  intro o j
  cases i <;> first | rfl | exact absurd rfl (h _ _ _ _)
theorem stE_of (S : SndE c v k) (G : Good X P c sc raw) (h : cE c k sc raw e = true) : PE X e (tR P (stE c v e)) := by
  unfold stE
  split
  · exact se_const
  · exact se_name G h
  · rename_i a op b q
    have h : (k.E sc raw a && k.E sc raw b) = true := h
    rw [Bool.and_eq_true] at h
    exact se_bin (op_binop G.hK op) (S.E G h.1) (S.E G h.2)
  · exact se_neg G.hK (S.E G h)
  · exact se_not G.hK (S.E G h)
  · exact se_and fun x hx => S.E G (all_of h x hx)
  · exact se_or fun x hx => S.E G (all_of h x hx)
  · obtain ⟨h1, h2, h3, h4⟩ := cmp1_of S G h
    exact se_cmp1 h4 h3 h1 h2
  · obtain ⟨h1, h2, h3, h4, h5, h6⟩ := cmp2_of S G h
    exact se_cmp2 h5 h6 h4 h1 h2 h3
  · rename_i t a b q
    have h : (k.T sc raw t && k.E sc raw a && k.E sc raw b) = true := h
    simp only [Bool.and_eq_true] at h
    exact se_if (S.T G h.1.1) (S.E G h.1.2) (S.E G h.2)
  · rename_i es x q
    have h : (cArgs k sc raw es && decide (es.length ≤ line)) = true := h
    rw [Bool.and_eq_true, decide_eq_true_eq] at h
    obtain ⟨a1, a2⟩ := args_of S G h.1
    exact se_tup (sa_args a1 fun x es' hx => star_of (a2 x hx) X.env es') h.2
  · rename_i es q
    have h : (cArgs k sc raw es && decide (es.length ≤ line)) = true := h
    rw [Bool.and_eq_true, decide_eq_true_eq] at h
    obtain ⟨a1, a2⟩ := args_of S G h.1
    exact se_lst (sa_args a1 fun x es' hx => star_of (a2 x hx) X.env es') h.2
  · rename_i a lo hi q1 q2
    have h : (k.E sc raw a && cOpt k sc raw lo && cOpt k sc raw hi) = true := h
    simp only [Bool.and_eq_true] at h
    exact se_cut G.hK (S.E G h.1.1) (opt_of S G h.1.2) (opt_of S G h.2)
  · rename_i a i q hne
    have no : ∀ lo hi st q, i ≠ .Slice lo hi st q := fun lo hi st q' e => by
      subst e
      cases st with
      | none => exact hne _ _ _ rfl
      | some st => cases h
    have e : cE c k sc raw (.Subscript a i q) = (k.E sc raw a && k.E sc raw i) := by
      cases i <;> first | rfl | exact absurd rfl (no _ _ _ _)
    rw [e] at h
    rw [Bool.and_eq_true] at h
    exact se_ix G.hK (plain_ix no) (S.E G h.1) (S.E G h.2)
  · exact lay_fun (comp_of S G h)
  · exact call_of S G h
  · exact se_stuck
theorem stN_of (S : SndE c v k) (G : Good X P c sc raw) (h : cN c k sc raw e = true) : PE X e (tRN P (stN c v e)) := by
  have no : ∀ {e : Expr}, PE X e (tRN P fun _ _ => .stuck) := ⟨fun pins s σ H Q I h => by
    obtain ⟨_, _, _, _, _, po⟩ := h
    exact po.elim⟩
  unfold stN
  split
  · rename_i es q
    have h : (cArgs k sc raw es && decide (es.length ≤ line)) = true := h
    rw [Bool.and_eq_true, decide_eq_true_eq] at h
    obtain ⟨a1, a2⟩ := args_of S G h.1
    exact (pe_lst (sa_args a1 fun x es' hx => star_of (a2 x hx) X.env es')).ofD fun σ H Q ⟨ρ, g, s, ab, en, po⟩ =>
      ⟨ρ, g, s, ab, en, (post_ok po).imp fun ds s1 g1 H1 e1 ab1 p1 vs rvs => ⟨by rw [rvs.length, len_args p1.1, ← line_eq]; exact h.2, fun p hp => p1.2 _ _ hp rvs⟩⟩
  · exact comp_of S G h
  · rename_i a b q
    have h : (k.E sc raw a && k.E sc raw b) = true := h
    rw [Bool.and_eq_true] at h
    exact sn_bin (op_mulN G.hK) (S.E G h.1) (S.E G h.2)
  · rename_i a b q
    have h : (k.E sc raw a && k.E sc raw b) = true := h
    rw [Bool.and_eq_true] at h
    exact sn_bin (op_addN G.hK) (S.E G h.1) (S.E G h.2)
  · rename_i f q a q2
    have h : (match nm c f with
      | .glo (.bt .list) => decide (f = btName .list) && gloC sc f && cArg c k sc raw a
      | .glo (.bt .sorted) => decide (f = btName .sorted) && gloC sc f && k.E sc raw a && nostar a
      | _ => true) = true := h
    split
    · rename_i hn
      rw [hn] at h
      simp only [Bool.and_eq_true, decide_eq_true_eq] at h
      exact listOf_of S G (nm_glo hn) h.1.1 h.1.2 h.2
    · rename_i hn
      rw [hn] at h
      simp only [Bool.and_eq_true, decide_eq_true_eq] at h
      obtain ⟨⟨⟨h1, h2⟩, h3⟩, h4⟩ := h
      have hl := nm_glo hn
      have m := bt_none G hl h1
      subst h1
      have s1 := star_of h4 X.env []
      exact (pe_callB (cbN_sorted G.hK G.un) (glo_of G h2) m (bt_boot .sorted) (pa_cons (S.E G h3) pa_nil s1) (bt_ok .sorted).1 (bt_ok .sorted).2 s1).ofD fun σ H Q ⟨ρ, g, s, ab, en, po⟩ => ⟨ρ, g, s, ab, en, po.bind.imp fun d s1 g1 H1 e1 ab1 p1 u ru => ⟨[d], g1, s1, ab1, .cons ru .nil, p1⟩⟩
    · exact no
  · rename_i f q a kw q2
    have h : (match nm c f with
      | .glo (.bt .sorted) => cKeyN c k sc raw f a kw
      | _ => true) = true := h
    split
    · rename_i hn
      rw [hn] at h
      exact keyN_of S G (nm_glo hn) h
    · exact no
  · exact no
theorem stT_of (S : SndE c v k) (G : Good X P c sc raw) (h : cT k sc raw e = true) : PT X e (tRT P (stT c v e)) := by
  unfold stT
  split
  · exact st_not (S.T G h)
  · rename_i es q
    have h : (!es.isEmpty && es.all (k.T sc raw)) = true := h
    rw [Bool.and_eq_true] at h
    exact (sw_and (by rintro rfl; cases h.1) fun x hx => S.T G (all_of h.2 x hx)).pt
  · rename_i es q
    have h : (!es.isEmpty && es.all (k.T sc raw)) = true := h
    rw [Bool.and_eq_true] at h
    exact (sw_or (by rintro rfl; cases h.1) fun x hx => S.T G (all_of h.2 x hx)).pt
  · obtain ⟨h1, h2, h3, h4⟩ := cmp1_of S G h
    exact st_cmp1 h4 h3 h1 h2
  · obtain ⟨h1, h2, h3, h4, h5, h6⟩ := cmp2_of S G h
    exact st_cmp2 h5 h6 h4 h1 h2 h3
  · exact st_truth G.hK (S.E G h) fun _ => rfl
  · exact st_truth G.hK (S.E G h) fun _ => rfl
  · exact st_truth G.hK (S.E G h) fun _ => rfl
  · exact st_truth G.hK (S.E G h) fun _ => rfl
  · exact st_stuck
theorem tup_at {tg : Expr} (h : isTup tg = true) : ∃ es k q, tg = .Tuple es k q := by
  cases tg <;> first | exact ⟨_, _, _, rfl⟩ | cases h
theorem stI_of {tg : Expr} (S : SndE c v k) (G : Good X P c sc raw) (h : cI c k sc raw tg e = true) : PI X tg e (tRI P (stI c v e)) := by
  unfold stI
  split
  · rename_i f q args kws q2
    have h : (match nm c f with
      | .glo (.bt .range) => cRng0 k sc raw args kws (.Call (.Name f q) args kws q2)
      | .glo (.bt .zip) => isTup tg && decide (f = btName .zip) && gloC sc f && cArgs k sc raw args
      | .glo (.bt .enumerate) => isTup tg && decide (f = btName .enumerate) && gloC sc f && cArgs k sc raw args
      | _ => k.E sc raw (.Call (.Name f q) args kws q2)) = true := h
    split
    · rename_i hn
      rw [hn] at h
      cases kws with
      | cons _ _ => exact si_stuck
      | nil =>
        have h : cRng k sc raw args (.Call (.Name f q) args [] q2) = true := h
        unfold cRng at h
        simp only [Bool.and_eq_true, Bool.or_eq_true, decide_eq_true_eq] at h
        obtain ⟨⟨⟨h1, h2⟩, h3⟩, h4⟩ := h
        have hl := nm_glo hn
        have m := bt_none G hl h1
        subst h1
        obtain ⟨a1, a2⟩ := args_of S G h4
        match args, h3, a1, a2 with
        | [a], _, a1, a2 => exact si_range1 (glo_of G h2) m (a1 a (List.mem_cons_self ..)) (star_of (a2 a (List.mem_cons_self ..)) X.env [])
        | [a, b], _, a1, a2 =>
          have hb := a2 b (List.mem_cons_of_mem _ (List.mem_cons_self ..))
          exact si_range2 (glo_of G h2) m (a1 a (List.mem_cons_self ..)) (a1 b (List.mem_cons_of_mem _ (List.mem_cons_self ..))) (by rw [star_of (a2 a (List.mem_cons_self ..)) X.env [b], star_of hb X.env []]; rfl) (star_of hb X.env [])
        | [], h3, _, _ => exact absurd h3 (by simp)
        | _ :: _ :: _ :: _, h3, _, _ => exact absurd h3 (by simp)
    · rename_i hn
      rw [hn] at h
      simp only [Bool.and_eq_true, decide_eq_true_eq] at h
      obtain ⟨⟨⟨h1, h2⟩, h3⟩, h4⟩ := h
      obtain ⟨tes, tk, tq, rfl⟩ := tup_at h1
      have hl := nm_glo hn
      have m := bt_none G hl h2
      subst h2
      obtain ⟨a1, a2⟩ := args_of S G h4
      split
      · rename_i a b
        have hb := a2 b (List.mem_cons_of_mem _ (List.mem_cons_self ..))
        exact si_zip G.hK (glo_of G h3) m (a1 a (List.mem_cons_self ..)) (a1 b (List.mem_cons_of_mem _ (List.mem_cons_self ..))) (star_of (a2 a (List.mem_cons_self ..)) X.env [b]) (star_of hb X.env []) (star_tree fun x hx => by rw [List.mem_singleton.mp hx]; exact hb)
      · exact si_stuck
    · rename_i hn
      rw [hn] at h
      simp only [Bool.and_eq_true, decide_eq_true_eq] at h
      obtain ⟨⟨⟨h1, h2⟩, h3⟩, h4⟩ := h
      obtain ⟨tes, tk, tq, rfl⟩ := tup_at h1
      have hl := nm_glo hn
      have m := bt_none G hl h2
      subst h2
      obtain ⟨a1, a2⟩ := args_of S G h4
      split
      · rename_i a
        exact si_enum G.hK (glo_of G h3) m (a1 a (List.mem_cons_self ..)) (star_of (a2 a (List.mem_cons_self ..)) X.env [])
      · exact si_stuck
    · rename_i h1 h2 h3
      have h : k.E sc raw (.Call (.Name f q) args kws q2) = true := by
        split at h
        · rename_i hn
          exact absurd hn h1
        · rename_i hn
          exact absurd hn h2
        · rename_i hn
          exact absurd hn h3
        · exact h
      exact si_seq G.hK (S.E G h)
  · rename_i hne
    have h : k.E sc raw e = true := by
      unfold cI at h
      split at h
      · exact absurd rfl (hne _ _ _ _ _)
      · exact h
    exact si_seq G.hK (S.E G h)
end
/-- so many levels of expressions -/
def ckE (c : Cfg) : Nat → Ck
  | 0 => ckNo
  | n + 1 => ⟨cE c (ckE c n), cN c (ckE c n), cT (ckE c n), cI c (ckE c n), fun _ _ _ => true⟩
theorem snd_no {c : Cfg} : SndE c evStuck ckNo where
  E := fun _ _ => se_stuck
  N := fun _ _ => ⟨fun pins s σ H Q I h => by
    obtain ⟨_, _, _, _, _, po⟩ := h
    exact po.elim⟩
  T := fun _ _ => st_stuck
  I := fun _ _ => si_stuck
theorem snd_step {c : Cfg} {v : Ev} {k : Ck} {f : Rho → Stmt → S → Res Fl} (S : SndE c v k) : SndE c ⟨stE c v, stN c v, stT c v, stI c v, stX c v⟩ ⟨cE c k, cN c k, cT k, cI c k, fun _ _ _ => true⟩ where
  E := fun G h => stE_of S G h
  N := fun G h => stN_of S G h
  T := fun G h => stT_of S G h
  I := fun G h => stI_of S G h
end DL
set_option Elab.async false
set_option linter.all false
set_option maxRecDepth 100000
set_option maxHeartbeats 4000000
/-! The data layer, part 18: statements. -/
namespace DL
open PySem PySem.Spec PyProof.Rows L2
/-- the context of a statement -/
structure GoodS (X : Cx) (P : Par) (c : Cfg) (sc raw : Scope) : Prop extends Good X P c sc raw where
  hI : ∀ σ i o, P.inv σ → P.inv (σ.set i o)
  own : PassesOwn (model X.prog X.w) X.A X.env X.xe
/-- the wished end of a statement -/
def flK (P : Par) (D : Ends) : Fl → S → Gh → Hp → Prop := fun f s g H => match f with
  | .nx ρ => ∀ σ, EnvOk P g s.size σ ρ → D.nx σ H
  | .bk ρ => ∀ σ, EnvOk P g s.size σ ρ → D.bk σ H
  | .ct ρ => ∀ σ, EnvOk P g s.size σ ρ → D.ct σ H
  | .rt d => ∀ v, Rep P.K g s.size v d → D.rt v H
def tRS (P : Par) (f : Rho → S → Res Fl) : TS := fun D σ H => ∃ ρ g s, AbsS P.K g H s ∧ EnvOk P g s.size σ ρ ∧ Post P H g s (f ρ s) (flK P D)
section
variable {X : Cx} {P : Par} {c : Cfg} {sc raw : Scope} {v : Ev} {k : Ck} {p pos : Pos} {a b e : Expr} {es : List Expr} {st : Stmt}
theorem ss_stuck : PS X st (tRS P fun _ _ => .stuck) := ps_never.ofD fun D σ H ⟨_, _, _, _, _, po⟩ => po.elim
theorem ss_eq {f f' : Rho → S → Res Fl} (h : PS X st (tRS P f)) (q : ∀ ρ s, f ρ s = f' ρ s) : PS X st (tRS P f') := h.ofD fun D σ H ⟨ρ, g, s, ab, en, po⟩ => ⟨ρ, g, s, ab, en, by rw [q]; exact po⟩
theorem ss_pass : PS X (.Pass pos) (tRS P fun ρ s => .ok (.nx ρ) s) := ps_pass.ofD fun D σ H ⟨ρ, g, s, ab, en, po⟩ => Post.here po ab σ en
theorem ss_break : PS X (.Break pos) (tRS P fun ρ s => .ok (.bk ρ) s) := ps_break.ofD fun D σ H ⟨ρ, g, s, ab, en, po⟩ => Post.here po ab σ en
theorem ss_cont : PS X (.Continue pos) (tRS P fun ρ s => .ok (.ct ρ) s) := ps_continue.ofD fun D σ H ⟨ρ, g, s, ab, en, po⟩ => Post.here po ab σ en
theorem ss_retN : PS X (.Return none pos) (tRS P fun _ s => .ok (.rt .non) s) := ps_retN.ofD fun D σ H ⟨ρ, g, s, ab, en, po⟩ => Post.here po ab _ .non
/-- a suite -/
theorem sss_of {X' : Stmt → Rho → S → Res Fl} : ∀ {sts : List Stmt}, (∀ st ∈ sts, PS X st (tRS P (X' st))) → PSs X sts (tRS P (evBlk X' sts))
  | [], _ => pss_nil.ofD fun D σ H ⟨ρ, g, s, ab, en, po⟩ => Post.here po ab σ en
  | st :: r, h => (pss_cons (h st (List.mem_cons_self ..)) (sss_of fun x hx => h x (List.mem_cons_of_mem _ hx))).ofD fun D σ H ⟨ρ, g, s, ab, en, po⟩ => ⟨ρ, g, s, ab, en, (Post.bind (f := fun f s => match f with
      | .nx ρ' => evBlk X' r ρ' s
      | f => .ok f s) po).imp fun f s1 g1 H1 e1 ab1 p1 => by
      cases f with
      | nx ρ' => exact fun σ' en' => ⟨ρ', g1, s1, ab1, en', p1⟩
      | bk ρ' => exact Post.here p1 ab1
      | ct ρ' => exact Post.here p1 ab1
      | rt d => exact Post.here p1 ab1⟩
theorem ss_if {t : Expr} {ta tb : List Stmt} {ft : Rho → S → Res Bool} {fa fb : Rho → S → Res Fl} (ht : PT X t (tRT P ft)) (ha : PSs X ta (tRS P fa)) (hb : PSs X tb (tRS P fb)) :
    PS X (.If t ta tb pos) (tRS P fun ρ s => (ft ρ s).bind fun q s => match q with
      | true => fa ρ s
      | false => fb ρ s) := (ps_if ht ha hb).ofD fun D σ H ⟨ρ, g, s, ab, en, po⟩ => ⟨ρ, g, s, ab, en, po.bind.imp fun q s1 g1 H1 e1 ab1 p1 => by
  cases q with
  | true => exact iteT ⟨ρ, g1, s1, ab1, en.ext e1, p1⟩
  | false => exact iteF ⟨ρ, g1, s1, ab1, en.ext e1, p1⟩⟩
/-! ### values for places -/
theorem thaw_of {f : Rho → S → Res (List D)} (h : PE X e (tRN P f)) : PE X e (tR P fun ρ s => (f ρ s).bind thaw) := h.ofD fun σ H Q ⟨ρ, g, s, ab, en, po⟩ => ⟨ρ, g, s, ab, en, po.bind.imp fun es s1 g1 H1 e1 ab1 p1 p ys hp ry => by
  have r : Rep P.K (g1.grow s1.size p) (s1.push (.lst es)).size (.ref p) (.mref s1.size) := by
    have z := Rep.mref (K := P.K) (g := g1.grow s1.size p) (n := (s1.push (.lst es)).size) (i := s1.size) (by rw [S.size_push]; omega)
    have e : (g1.grow s1.size p).α s1.size = p := if_pos rfl
    rw [e] at z
    exact z
  exact p1 _ _ (ext_grow ab1 hp _ _) (abs_grow ab1 hp ry) _ r⟩
theorem for_of {i : Nat} (S : SndE c v k) (G : Good X P c sc raw) (h1 : (c.mu.contains i && isNew c e) = true → k.N sc raw e = true) (h2 : (c.mu.contains i && isNew c e) = false → k.E sc raw e = true) : PE X e (tR P (evFor c v i e)) := by
  unfold evFor
  cases q : c.mu.contains i && isNew c e with
  | true => exact thaw_of (S.N G (h1 q))
  | false => exact S.E G (h2 q)
theorem ss_name {i : Nat} {x : Str} {f : Rho → S → Res D} (G : GoodS X P c sc raw) (hi : ix x X.N = some i) (hx : asgC raw x = true) (he : PE X e (tR P f)) (hs : swapsWith e (some (.Name x p)) pos.line X.env = pure false) :
    PS X (.Assign [.Name x p] e pos) (tRS P fun ρ s => (f ρ s).bind fun d s => .ok (.nx (ρ.set i (some d))) s) := by
  obtain ⟨h1, h2⟩ := G.asg x hx
  exact (ps_set G.nd (ix_at hi) h1 he hs h2).ofD fun D σ H ⟨ρ, g, s, ab, en, po⟩ => ⟨ρ, g, s, ab, en, po.bind.imp fun d s1 g1 H1 e1 ab1 p1 v rv => Post.here p1 ab1 _ ((en.ext e1).set (G.hI _ _ _ en.inv) rv)⟩
/-- no comprehension -/
def nocomp (e : Expr) : Bool := match e with
  | .ListComp _ _ _ _ => false
  | .SetComp _ _ _ _ => false
  | .DictComp _ _ _ _ _ => false
  | _ => true
theorem sw_no (h : nocomp e = true) (t : Option Expr) (l : Nat) (env : Env) : swapsWith e t l env = pure false := by
  cases e <;> first | rfl | cases h
def swB (sc scope : Scope) (x : Str) (py pos : Pos) : Bool := (sc.names.lookup x == some NameKind.local) && (py.line == pos.line) && !(scope.names.any fun (n, k) => n == x && (k == .local || k == .cell))
theorem sw_val {elt : Expr} {gs : List Comprehension} {scope : Scope} {py : Pos} {y : Str} {l : Nat} {env : Env} (hk : env.scope.kind = .function) : swapsWith (.ListComp elt gs scope pos) (some (.Name y py)) l env = pure (swB env.scope scope y py pos) := by
  have hb : env.blockKind = .function := by unfold Env.blockKind; rw [hk]; rfl
  unfold swapsWith
  simp only [hb]
  rfl
/-- name = [.. for ..] -/
theorem ss_comp {i : Nat} {x : Str} {spos : Pos} {elt tg it : Expr} {ifs : List Expr} {scope : Scope} (S : SndE c v k) (G : GoodS X P c sc raw) (hi : ix x X.N = some i) (hx : asgC raw x = true) (h : cComp c k sc raw elt tg it ifs scope = true) {f : List D → DL.S → Res D}
    (hf : ∀ {H g s r} {Q : VK}, Post P H g s (r.bind f) (fun d s' g' H' => ∀ v, Rep P.K g' s'.size v d → Q v H') → Post P H g s r fun es s' g' H' => ∀ p ys, H' p = none → RepL P.K g' s'.size ys es → Q (.ref p) (upd H' p (.lst ys))) :
    PS X (.Assign [.Name x p] (.ListComp elt [⟨tg, it, ifs, 0⟩] scope pos) spos) (tRS P fun ρ s => ((evCompN c v elt tg it ifs scope ρ s).bind f).bind fun d s => .ok (.nx (ρ.set i (some d))) s) := by
  obtain ⟨h1, h2⟩ := G.asg x hx
  have h0 := h
  unfold cComp at h
  simp only [Bool.and_eq_true, decide_eq_true_eq] at h
  obtain ⟨⟨⟨⟨⟨⟨⟨c1, c2⟩, c3⟩, c4⟩, c5⟩, c6⟩, c7⟩, c8⟩ := h
  have ok2 : BlkOk X.N X.env.scope scope (ownTg c.N tg) := by
    rw [G.hN, G.sc]
    exact blkOk_by c2
  -- the reading, either way
  have rd : ∀ {D : Ends} {σ : L2.St} {H : Hp}, tRS P (fun ρ s => ((evCompN c v elt tg it ifs scope ρ s).bind f).bind fun d s => .ok (.nx (ρ.set i (some d))) s) D σ H → tRN P (evCompN c v elt tg it ifs scope) σ H fun u H1 => D.nx (σ.set i (some u)) H1 := fun {D σ H} ⟨ρ, g, s, ab, en, po⟩ =>
    ⟨ρ, g, s, ab, en, by
      have po : Post P H g s (((evCompN c v elt tg it ifs scope ρ s).bind f).bind fun d s => .ok (Fl.nx (ρ.set i (some d))) s) (flK P D) := po
      have q : Post P H g s ((evCompN c v elt tg it ifs scope ρ s).bind f) fun d s' g' H' => ∀ u, Rep P.K g' s'.size u d → D.nx (σ.set i (some u)) H' := po.bind.imp fun d s1 g1 H1 e1 ab1 p1 u ru => Post.here p1 ab1 _ ((en.ext e1).set (G.hI _ _ _ en.inv) ru)
      exact hf q⟩
  refine ⟨fun pins s σ H D I hq => ?_⟩
  have hk : X.env.scope.kind = .function := I.ok.kind
  have sv := sw_val (elt := elt) (gs := [⟨tg, it, ifs, 0⟩]) (scope := scope) (pos := pos) (py := p) (y := x) (l := spos.line) hk
  cases z : swB X.env.scope scope x p pos with
  | false =>
    rw [z] at sv
    exact (ps_set G.nd (ix_at hi) h1 (comp_of S G.toGood h0) sv h2).run pins s σ H D I (rd hq)
  | true =>
    rw [z] at sv
    have hl : X.env.scope.names.lookup x = some .local := by
      unfold swB at z
      simp only [Bool.and_eq_true] at z
      simpa using z.1.1
    refine (ps_setLc (g := tRG P.quiet X.N tg) G.calm G.nd (ix_at hi) hl sv (S.I G.toGood c1) ok2 (fun s H C cl fp => ?_) (fun s H C cl fp => st_ifs c5 fun e he => S.T (G.toGood.blk s H scope cl C fp) (all_of c6 e he)) (fun s H C cl fp => S.E (G.toGood.blk s H scope cl C fp) c7) (set_of c8 X.env)).run pins s σ H D I (tlc_of (by rw [G.hN]; exact fun i hi => by simpa using all_of c3 i hi) (by rw [G.hN]; exact rd hq))
    have G2 := G.toGood.blk s H scope cl C fp
    exact sg_any (fun _ _ _ _ => trivial) G2.hK G2.calm G2.nd (tg_of G2 c4)
end
end DL
set_option Elab.async false
set_option linter.all false
set_option maxRecDepth 100000
set_option maxHeartbeats 4000000
/-! The data layer, part 19: assignments of several, of items. -/
namespace DL
open PySem PySem.Spec PyProof.Rows L2
section
variable {X : Cx} {P : Par} {c : Cfg} {sc raw : Scope} {v : Ev} {k : Ck} {p pos : Pos} {a b e : Expr} {es ts : List Expr} {st : Stmt}
/-! ### names at once -/
/-- the check of an item for a name -/
def cFor (c : Cfg) (k : Ck) (sc raw : Scope) (i : Nat) (e : Expr) : Bool := match c.mu.contains i && isNew c e with
  | true => k.N sc raw e
  | false => k.E sc raw e
def cPar (c : Cfg) (k : Ck) (sc raw : Scope) : List Expr → List Expr → Bool
  | [], [] => true
  | .Name x _ :: ts, e :: es => asgC raw x && nostar e && (match ix x c.N with
    | some i => cFor c k sc raw i e
    | none => false) && cPar c k sc raw ts es
  | _, _ => false
theorem cFor_of {i : Nat} (S : SndE c v k) (G : Good X P c sc raw) (h : cFor c k sc raw i e = true) : PE X e (tR P (evFor c v i e)) := by
  unfold cFor at h
  refine for_of S G (fun q => ?_) (fun q => ?_)
  · rw [q] at h; exact h
  · rw [q] at h; exact h
theorem sa_par (S : SndE c v k) (G : Good X P c sc raw) : ∀ {ts es : List Expr}, cPar c k sc raw ts es = true → PA X es (tRA P (evPar c v ts es)) ∧ (∀ t ∈ ts, AsgOk X t) ∧ ts.length = es.length
  | [], [], _ => ⟨pa_nil.ofD fun σ H Q ⟨ρ, g, s, ab, en, po⟩ => Post.here po ab _ .nil, fun t ht => (by cases ht), rfl⟩
  | [], _ :: _, h => by cases h
  | t :: ts, [], h => by cases t <;> cases h
  | t :: ts, e :: es, h => by
    cases t with
    | Name x q =>
      have h : (asgC raw x && nostar e && (match ix x c.N with
        | some i => cFor c k sc raw i e
        | none => false) && cPar c k sc raw ts es) = true := h
      simp only [Bool.and_eq_true] at h
      obtain ⟨⟨⟨h1, h2⟩, h3⟩, h4⟩ := h
      cases hi : ix x c.N with
      | none => rw [hi] at h3; cases h3
      | some i =>
        rw [hi] at h3
        obtain ⟨i1, i2, i3⟩ := sa_par S G h4
        have z : AsgOk X (.Name x q) := asg_of G (c := c) (by
          show (asgC raw x && (ix x c.N).isSome) = true
          rw [h1, hi]; rfl)
        refine ⟨(pa_cons (cFor_of S G h3) i1 (star_of h2 X.env es)).ofD fun σ H Q ⟨ρ, g, s, ab, en, po⟩ => ⟨ρ, g, s, ab, en, ?_⟩, fun y hy => ?_, by rw [List.length_cons, List.length_cons, i3]⟩
        · have po : Post P H g s (match ix x c.N with
            | some i => (evFor c v i e ρ s).bind fun d s => (evPar c v ts es ρ s).bind fun ds s => .ok (d :: ds) s
            | none => .stuck) fun ds s' g' H' => ∀ v, RepL P.K g' s'.size v ds → Q v H' := po
          rw [hi] at po
          exact po.bind.imp fun d s1 g1 H1 e1 ab1 p1 u ru => ⟨ρ, g1, s1, ab1, en.ext e1, p1.bind.imp fun ds s2 g2 H2 e2 ab2 p2 us rus => Post.here p2 ab2 _ (.cons (e2.rep ru) rus)⟩
        · rcases List.mem_cons.mp hy with rfl | hy
          · exact z
          · exact i2 y hy
    | _ => cases h
/-- names get values -/
theorem env_binds (hI : ∀ σ i o, P.inv σ → P.inv (σ.set i o)) {g : Gh} {n : Nat} {N : List Str} : ∀ {ts : List Expr} {ds : List D} {vs : List V} {σ : L2.St} {ρ ρ' : Rho}, EnvOk P g n σ ρ → RepL P.K g n vs ds → bindNs N ts ds ρ = some ρ' →
    ∃ is, ts.mapM (fun t => match t with
      | .Name x _ => ix x N
      | _ => none) = some is ∧ is.length = vs.length ∧ EnvOk P g n ((is.zip vs).foldl (fun σ q => σ.set q.1 (some q.2)) σ) ρ'
  | [], ds, vs, σ, ρ, ρ', en, rv, h => by
    cases ds with
    | cons d ds => cases h
    | nil =>
      cases h
      cases rv
      exact ⟨[], rfl, rfl, en⟩
  | t :: ts, ds, vs, σ, ρ, ρ', en, rv, h => by
    cases ds with
    | nil =>
      rw [bindNs_short] at h
      cases h
    | cons d ds =>
      cases t with
      | Name x q =>
        have h : (match ix x N with
          | some i => bindNs N ts ds (ρ.set i (some d))
          | none => none) = some ρ' := by rw [← h]; exact bindNs_cons.symm
        cases hi : ix x N with
        | none => rw [hi] at h; cases h
        | some i =>
          rw [hi] at h
          cases rv with
          | @cons u us _ _ r1 rr =>
            obtain ⟨is, h1, h2, h3⟩ := env_binds hI (en.set (hI _ _ _ en.inv) r1) rr h
            refine ⟨i :: is, ?_, by rw [List.length_cons, List.length_cons, h2], h3⟩
            rw [List.mapM_cons]
            dsimp only
            rw [hi, h1]
            rfl
      | _ => cases h
/-- stored from the right -/
def parB (sc : Scope) (ts es : List Expr) : Bool :=
  (decide (ts.length = 2) || decide (ts.length = 3)) && !(es.any fun | .Starred _ _ => true | _ => false) && (ts.all fun | .Name x q => (sc.names.lookup x == some NameKind.local) && q.line == (ts.head?.map (·.pos.line)).getD 0 | _ => false) &&
    decide ((ts.filterMap fun | .Name x _ => some x | _ => none).Nodup) && !(es.all (foldedForSure 8)) && !(es.all (constantsAlone 8))
/-- a plain local on the first one's line -/
def locLine (sc : Scope) (ts : List Expr) (t : Expr) : Bool := match t with
  | .Name x q => (sc.names.lookup x == some NameKind.local) && q.line == (ts.head?.map (·.pos.line)).getD 0
  | _ => false
/-- stored from the left -/
def ordB (sc : Scope) (ts es : List Expr) : Bool := (!(decide (ts.length = 2) || decide (ts.length = 3))) || (!(es.any fun | .Starred _ _ => true | _ => false) && (es.all (foldedForSure 8) || !(ts.all (locLine sc ts))))
end
theorem eraseDups_nodup2 {x y : Str} (h : [x, y].Nodup) : ([x, y].eraseDups.length != [x, y].length) = false := by
  have n : (x == y) = false := by
    have := (List.nodup_cons.mp h).1
    simpa using this
  have n2 : (y == x) = false := by
    have := (List.nodup_cons.mp h).1
    simp only [List.mem_singleton] at this
    simpa using fun z => this z.symm
  simp [List.eraseDups_cons, n, n2]
theorem eraseDups_nodup3 {x y z : Str} (h : [x, y, z].Nodup) : ([x, y, z].eraseDups.length != [x, y, z].length) = false := by
  obtain ⟨h1, h2⟩ := List.nodup_cons.mp h
  obtain ⟨h3, _⟩ := List.nodup_cons.mp h2
  simp only [List.mem_cons, List.not_mem_nil, or_false, not_or] at h1 h3
  have a1 : (y == x) = false := by simpa using fun q => h1.1 q.symm
  have a2 : (z == x) = false := by simpa using fun q => h1.2 q.symm
  have a3 : (z == y) = false := by simpa using fun q => h3 q.symm
  simp [List.eraseDups_cons, a1, a2, a3]
theorem sw2_of {x y : Str} {px py pt pt2 : Pos} {kt k2 : Nat} {a b : Expr} {env : Env} (hk : env.scope.kind = .function) (h : parB env.scope [.Name x px, .Name y py] [a, b] = true) : swappedStores [.Tuple [.Name x px, .Name y py] kt pt] (.Tuple [a, b] k2 pt2) env = pure (some [x, y]) ∧ env.scope.names.lookup x = some .local ∧ env.scope.names.lookup y = some .local := by
  have hb : env.blockKind = .function := by unfold Env.blockKind; rw [hk]; rfl
  unfold parB at h
  simp only [Bool.and_eq_true, Bool.not_eq_true', decide_eq_true_eq] at h
  obtain ⟨⟨⟨⟨⟨h1, h2⟩, h3⟩, h4⟩, h5⟩, h6⟩ := h
  have e1 : (env.scope.names.lookup x == some NameKind.local && px.line == px.line) = true := List.all_eq_true.mp h3 (.Name x px) (List.mem_cons_self ..)
  have e2 : (env.scope.names.lookup y == some NameKind.local && py.line == px.line) = true := List.all_eq_true.mp h3 (.Name y py) (List.mem_cons_of_mem _ (List.mem_cons_self ..))
  have n : [x, y].Nodup := h4
  refine ⟨?_, eq_of_beq (Bool.and_eq_true _ _ ▸ e1).1, eq_of_beq (Bool.and_eq_true _ _ ▸ e2).1⟩
  have f1 : (if (env.kindOf x == some NameKind.local && px.line == px.line) = true then some x else none) = some x := if_pos e1
  have f2 : (if (env.kindOf y == some NameKind.local && py.line == px.line) = true then some y else none) = some y := if_pos e2
  have fm : ∀ {f : Expr → Option Str}, f (.Name x px) = some x → f (.Name y py) = some y → [Expr.Name x px, Expr.Name y py].filterMap f = [x, y] := fun {f} q1 q2 => by
    rw [List.filterMap_cons, q1, List.filterMap_cons, q2, List.filterMap_nil]
  unfold swappedStores
  dsimp only
  refine (if_neg (by rw [hb]; show ¬ (false || (ScopeKind.function != ScopeKind.function)) = true; decide)).trans ?_
  refine (if_neg (fun z => Bool.noConfusion (h2.symm.trans z))).trans ?_
  rw [fm f1 f2]
  refine (if_neg (by
    rw [eraseDups_nodup2 n]
    show ¬ ((2 != 2) || false) = true
    decide)).trans ?_
  refine (if_neg (by rw [h5]; decide)).trans ?_
  exact if_neg (by rw [h6]; decide)
theorem sw3_of {x y z : Str} {px py pz pt pt2 : Pos} {kt k2 : Nat} {a b d : Expr} {env : Env} (hk : env.scope.kind = .function) (h : parB env.scope [.Name x px, .Name y py, .Name z pz] [a, b, d] = true) :
    swappedStores [.Tuple [.Name x px, .Name y py, .Name z pz] kt pt] (.Tuple [a, b, d] k2 pt2) env = pure (some [x, y, z]) ∧ env.scope.names.lookup x = some .local ∧ env.scope.names.lookup y = some .local ∧ env.scope.names.lookup z = some .local ∧ [x, y, z].Nodup := by
  have hb : env.blockKind = .function := by unfold Env.blockKind; rw [hk]; rfl
  unfold parB at h
  simp only [Bool.and_eq_true, Bool.not_eq_true', decide_eq_true_eq] at h
  obtain ⟨⟨⟨⟨⟨h1, h2⟩, h3⟩, h4⟩, h5⟩, h6⟩ := h
  have e1 : (env.scope.names.lookup x == some NameKind.local && px.line == px.line) = true := List.all_eq_true.mp h3 (.Name x px) (List.mem_cons_self ..)
  have e2 : (env.scope.names.lookup y == some NameKind.local && py.line == px.line) = true := List.all_eq_true.mp h3 (.Name y py) (List.mem_cons_of_mem _ (List.mem_cons_self ..))
  have e3 : (env.scope.names.lookup z == some NameKind.local && pz.line == px.line) = true := List.all_eq_true.mp h3 (.Name z pz) (List.mem_cons_of_mem _ (List.mem_cons_of_mem _ (List.mem_cons_self ..)))
  have n : [x, y, z].Nodup := h4
  refine ⟨?_, eq_of_beq (Bool.and_eq_true _ _ ▸ e1).1, eq_of_beq (Bool.and_eq_true _ _ ▸ e2).1, eq_of_beq (Bool.and_eq_true _ _ ▸ e3).1, n⟩
  have f1 : (if (env.kindOf x == some NameKind.local && px.line == px.line) = true then some x else none) = some x := if_pos e1
  have f2 : (if (env.kindOf y == some NameKind.local && py.line == px.line) = true then some y else none) = some y := if_pos e2
  have f3 : (if (env.kindOf z == some NameKind.local && pz.line == px.line) = true then some z else none) = some z := if_pos e3
  have fm : ∀ {f : Expr → Option Str}, f (.Name x px) = some x → f (.Name y py) = some y → f (.Name z pz) = some z → [Expr.Name x px, Expr.Name y py, Expr.Name z pz].filterMap f = [x, y, z] := fun {f} q1 q2 q3 => by
    rw [List.filterMap_cons, q1, List.filterMap_cons, q2, List.filterMap_cons, q3, List.filterMap_nil]
  unfold swappedStores
  dsimp only
  refine (if_neg (by rw [hb]; show ¬ (false || (ScopeKind.function != ScopeKind.function)) = true; decide)).trans ?_
  refine (if_neg (fun z => Bool.noConfusion (h2.symm.trans z))).trans ?_
  rw [fm f1 f2 f3]
  refine (if_neg (by
    rw [eraseDups_nodup3 n]
    show ¬ ((3 != 3) || false) = true
    decide)).trans ?_
  refine (if_neg (by rw [h5]; decide)).trans ?_
  exact if_neg (by rw [h6]; decide)
theorem filter_short {α β : Type} {f : α → Option β} : ∀ {l : List α}, (∃ x ∈ l, f x = none) → (l.filterMap f).length < l.length
  | [], ⟨_, h, _⟩ => by cases h
  | a :: r, ⟨x, h, e⟩ => by
    have le : (r.filterMap f).length ≤ r.length := List.length_filterMap_le f r
    rw [List.filterMap_cons]
    rcases List.mem_cons.mp h with rfl | h
    · rw [e]
      exact Nat.lt_succ_of_le le
    · have ih := filter_short ⟨x, h, e⟩
      cases f a with
      | none => exact Nat.lt_succ_of_lt ih
      | some b => exact Nat.succ_lt_succ ih
theorem swN_of {ts es : List Expr} {pt pt2 : Pos} {kt k2 : Nat} {env : Env} (h : ordB env.scope ts es = true) : swappedStores [.Tuple ts kt pt] (.Tuple es k2 pt2) env = pure none := by
  unfold ordB at h
  simp only [Bool.or_eq_true, Bool.and_eq_true, Bool.not_eq_true', decide_eq_true_eq, Bool.or_eq_false_iff, decide_eq_false_iff_not] at h
  unfold swappedStores
  dsimp only
  rcases h with ⟨h1, h2⟩ | ⟨h1, h2⟩
  · refine if_pos ?_
    have a1 : (ts.length == 2) = false := by simpa using h1
    have a2 : (ts.length == 3) = false := by simpa using h2
    rw [a1, a2]
    rfl
  · split
    · rfl
    · refine (if_neg (fun z => Bool.noConfusion (h1.symm.trans z))).trans ?_
      rcases h2 with h2 | h2
      · split
        · rfl
        · first
            | rfl
            | exact if_pos h2
      · refine if_pos ?_
        rw [Bool.or_eq_true]
        left
        rw [List.all_eq_false] at h2
        obtain ⟨t, m, q⟩ := h2
        have lt := filter_short (f := fun e => match e with
          | Expr.Name id pos => if (env.kindOf id == some NameKind.local && pos.line == (Option.map (fun x => x.pos.line) ts.head?).getD 0) = true then some id else none
          | _ => none) (l := ts) ⟨t, m, by
            cases t with
            | Name x p =>
              have q : ¬ ((env.scope.names.lookup x == some NameKind.local) && p.line == (Option.map (fun x => x.pos.line) ts.head?).getD 0) = true := q
              exact if_neg q
            | _ => rfl⟩
        rw [bne_iff_ne]
        exact Nat.ne_of_lt lt
section
variable {X : Cx} {P : Par} {c : Cfg} {sc raw : Scope} {v : Ev} {k : Ck} {p pos pt pt2 : Pos} {kt k2 : Nat} {a b e : Expr} {es ts : List Expr} {st : Stmt}
/-- the machine's step for such an assignment -/
theorem par_post {i : List Nat} (G : GoodS X P c sc raw) {D : Ends} {σ : L2.St} {H : Hp} {R : List V → Hp → Prop} (h : tRS P (fun ρ s => ((evPar c v ts es ρ s).bind fun ds s => match bindNs c.N ts ds ρ with
      | some ρ => .ok ρ s
      | none => .stuck).bind fun ρ s => .ok (.nx ρ) s) D σ H)
    (n : ∀ vs H1 ρ ds g1 s1 ρ', AbsS P.K g1 H1 s1 → EnvOk P g1 s1.size σ ρ → RepL P.K g1 s1.size vs ds → bindNs c.N ts ds ρ = some ρ' → (∀ g' H' σ', Ext g1 s1 H1 g' s1 H' → AbsS P.K g' H' s1 → EnvOk P g' s1.size σ' ρ' → D.nx σ' H') → R vs H1) : tRA P (evPar c v ts es) σ H R := by
  obtain ⟨ρ, g, s, ab, en, po⟩ := h
  refine ⟨ρ, g, s, ab, en, (Post.bind (Post.bind po)).imp fun ds s1 g1 H1 e1 ab1 p1 vs rvs => ?_⟩
  cases q : bindNs c.N ts ds ρ with
  | none => rw [q] at p1; exact p1.elim
  | some ρ' =>
    rw [q] at p1
    have p2 := Post.here p1 ab1
    exact n vs H1 ρ ds g1 s1 ρ' ab1 (en.ext e1) rvs q fun g' H' σ' ex ab' en' => p2 g' H' ex ab' σ' en'
/-- what is asked of a, b = x, y -/
def cTup (c : Cfg) (k : Ck) (sc raw : Scope) (ts es : List Expr) : Bool := cPar c k sc raw ts es && (parB sc ts es || ordB sc ts es) && decide (ts.length ≤ line)
theorem ss_par (S : SndE c v k) (G : GoodS X P c sc raw) (h : cTup c k sc raw ts es = true) :
    PS X (.Assign [.Tuple ts kt pt] (.Tuple es k2 pt2) pos) (tRS P fun ρ s => ((evPar c v ts es ρ s).bind fun ds s => match bindNs c.N ts ds ρ with
      | some ρ => .ok ρ s
      | none => .stuck).bind fun ρ s => .ok (.nx ρ) s) := by
  unfold cTup at h
  simp only [Bool.and_eq_true, Bool.or_eq_true, decide_eq_true_eq] at h
  obtain ⟨⟨h1, h2⟩, h3⟩ := h
  obtain ⟨A, N, hl⟩ := sa_par S G.toGood h1
  have hN := G.hN
  refine ⟨fun pins s σ H D I hq => ?_⟩
  have hk : X.env.scope.kind = .function := I.ok.kind
  rcases h2 with h2 | h2
  · rw [← G.sc] at h2
    have h0 := h2
    unfold parB at h0
    simp only [Bool.and_eq_true, Bool.or_eq_true, decide_eq_true_eq] at h0
    have hlen := h0.1.1.1.1.1
    match ts, es, hlen, hl, h2, A, N, hq with
    | [t1, t2], [a, b], _, _, h2, A, N, hq =>
      obtain ⟨x, px, i, rfl, hi, hx, _⟩ := N t1 (List.mem_cons_self ..)
      obtain ⟨y, py, j, rfl, hj, hy, _⟩ := N t2 (List.mem_cons_of_mem _ (List.mem_cons_self ..))
      obtain ⟨w, lx, ly⟩ := sw2_of (pt := pt) (pt2 := pt2) (kt := kt) (k2 := k2) hk h2
      have nd : [x, y].Nodup := by
        unfold parB at h2
        simp only [Bool.and_eq_true, decide_eq_true_eq] at h2
        exact h2.1.1.2
      have hij : i ≠ j := fun z => by
        have q1 := ix_at hi
        have q2 := ix_at hj
        rw [z, q2] at q1
        cases q1
        exact (List.nodup_cons.mp nd).1 (List.mem_cons_self ..)
      refine (ps_par G.calm G.nd (ix_at hi) (ix_at hj) hij lx ly A w).run pins s σ H D I (par_post (i := []) G hq fun vs H1 ρ ds g1 s1 ρ' ab1 en1 rvs hb fin => ?_)
      obtain ⟨is, e1, e2, e3⟩ := env_binds G.hI en1 rvs hb
      rw [hN] at hi hj
      have e1 : ([Expr.Name x px, Expr.Name y py].mapM fun t => match t with
        | .Name x _ => ix x c.N
        | _ => none) = some is := e1
      rw [List.mapM_cons, List.mapM_cons, List.mapM_nil] at e1
      dsimp only at e1
      rw [hi, hj] at e1
      cases e1
      match vs, e2, e3 with
      | [u1, u2], _, e3 => exact ⟨u1, u2, rfl, fin g1 H1 _ (Ext.refl ..) ab1 e3⟩
    | [t1, t2, t3], [a, b, d], _, _, h2, A, N, hq =>
      obtain ⟨x, px, i, rfl, hi, hx, _⟩ := N t1 (List.mem_cons_self ..)
      obtain ⟨y, py, j, rfl, hj, hy, _⟩ := N t2 (List.mem_cons_of_mem _ (List.mem_cons_self ..))
      obtain ⟨z, pz, l, rfl, hz, hzz, _⟩ := N t3 (List.mem_cons_of_mem _ (List.mem_cons_of_mem _ (List.mem_cons_self ..)))
      obtain ⟨w, lx, ly, lz, nd⟩ := sw3_of (pt := pt) (pt2 := pt2) (kt := kt) (k2 := k2) hk h2
      obtain ⟨n1, n2⟩ := List.nodup_cons.mp nd
      obtain ⟨n3, _⟩ := List.nodup_cons.mp n2
      have ne : ∀ {x y : Str} {i j : Nat}, ix x X.N = some i → ix y X.N = some j → x ≠ y → i ≠ j := fun {x y i j} hi hj hxy z => by
        have q1 := ix_at hi
        have q2 := ix_at hj
        rw [z, q2] at q1
        cases q1
        exact hxy rfl
      have hij := ne hi hj fun q => n1 (q ▸ List.mem_cons_self ..)
      have hil := ne hi hz fun q => n1 (q ▸ List.mem_cons_of_mem _ (List.mem_cons_self ..))
      have hjl := ne hj hz fun q => n3 (q ▸ List.mem_cons_self ..)
      refine (ps_par3 G.calm G.nd (ix_at hi) (ix_at hj) (ix_at hz) hij hil hjl lx ly lz A w).run pins s σ H D I (par_post (i := []) G hq fun vs H1 ρ ds g1 s1 ρ' ab1 en1 rvs hb fin => ?_)
      obtain ⟨is, e1, e2, e3⟩ := env_binds G.hI en1 rvs hb
      rw [hN] at hi hj hz
      have e1 : ([Expr.Name x px, Expr.Name y py, Expr.Name z pz].mapM fun t => match t with
        | .Name x _ => ix x c.N
        | _ => none) = some is := e1
      rw [List.mapM_cons, List.mapM_cons, List.mapM_cons, List.mapM_nil] at e1
      dsimp only at e1
      rw [hi, hj, hz] at e1
      cases e1
      match vs, e2, e3 with
      | [u1, u2, u3], _, e3 => exact ⟨u1, u2, u3, rfl, fin g1 H1 _ (Ext.refl ..) ab1 e3⟩
  · obtain ⟨q1, q2⟩ := each_len N
    rw [← G.sc] at h2
    have hw : swappedStores [.Tuple ts kt pt] (.Tuple es k2 pt2) X.env = pure none := swN_of h2
    refine (ps_asg (pe_tup A) (pg_tup G.calm (sgs_names (P := P) G.hI G.nd N) q1 q2) rfl hw).run pins s σ H D I (par_post (i := []) G hq fun vs H1 ρ ds g1 s1 ρ' ab1 en1 rvs hb fin => ⟨?_, fun q hqn => ?_⟩)
    · rw [rvs.length, bindNs_len hb, ← line_eq]
      exact h3
    · have ex := ext_lay ab1 hqn (.tup vs)
      refine ⟨q, vs, rfl, .inl (.inl upd_same), by rw [rvs.length, bindNs_len hb], ρ, _, s1, ds, ρ', abs_lay ab1 hqn _, en1.ext ex, ex.repL rvs, by rw [hN]; exact hb, fun σ' en' _ => fin _ _ σ' ex (abs_lay ab1 hqn _) en'⟩
end
end DL
set_option Elab.async false
set_option linter.all false
set_option maxRecDepth 100000
set_option maxHeartbeats 4000000
/-! The data layer, part 20: targets of any kind, loops, ends. -/
namespace DL
open PySem PySem.Spec PyProof.Rows L2
/-- a target by a run -/
def tGA (P : Par) (f : D → Rho → S → Res Rho) : TG := fun u σ H Q => ∃ ρ g s d, AbsS P.K g H s ∧ EnvOk P g s.size σ ρ ∧ Rep P.K g s.size u d ∧ Post P H g s (f d ρ s) fun ρ' s' g' H' => ∀ σ', EnvOk P g' s'.size σ' ρ' → Q σ' H'
def tGAs (P : Par) (f : List D → Rho → S → Res Rho) : TGs := fun us σ H Q => ∃ ρ g s ds, AbsS P.K g H s ∧ EnvOk P g s.size σ ρ ∧ RepL P.K g s.size us ds ∧ Post P H g s (f ds ρ s) fun ρ' s' g' H' => ∀ σ', EnvOk P g' s'.size σ' ρ' → Q σ' H'
def noslice (e : Expr) : Bool := match e with
  | .Slice _ _ _ _ => false
  | _ => true
/-- what is asked of a target -/
def cA (c : Cfg) (k : Ck) (sc raw : Scope) (t : Expr) : Bool := match t with
  | .Name x _ => asgC raw x && (ix x c.N).isSome
  | .Subscript o i _ => noslice i && k.E sc raw o && k.E sc raw i
  | _ => false
section
variable {X : Cx} {P : Par} {c : Cfg} {sc raw : Scope} {v : Ev} {k : Ck} {p pos : Pos} {a b e tg : Expr} {es ts : List Expr} {st : Stmt}
theorem set_at {α : Type} {xs : List α} {i : Int} (h : 0 ≤ i ∧ i < xs.length) : ixN xs.length i = some i.toNat := by
  unfold ixN
  rw [if_pos h.1, if_pos h.2]
theorem pg_at (S : SndE c v k) (G : GoodS X P c sc raw) (h : cA c k sc raw tg = true) : PG X tg (tGA P (asgT c v tg)) := by
  unfold cA at h
  split at h
  · rename_i x q
    rw [Bool.and_eq_true] at h
    obtain ⟨i, hi⟩ := Option.isSome_iff_exists.mp h.2
    obtain ⟨h1, h2⟩ := G.asg x h.1
    refine (pg_name G.nd (by rw [G.hN]; exact ix_at hi) h1 h2).ofD fun u σ H Q ⟨ρ, g, s, d, ab, en, ru, po⟩ => ?_
    have po : Post P H g s ((match ix x c.N with
      | some i => fun ρ s => .ok (ρ.set i (some d)) s
      | none => fun _ _ => .stuck : Rho → DL.S → Res Rho) ρ s) fun ρ' s' g' H' => ∀ σ', EnvOk P g' s'.size σ' ρ' → Q σ' H' := po
    rw [hi] at po
    exact Post.here po ab _ (en.set (G.hI _ _ _ en.inv) ru)
  · rename_i o i q
    simp only [Bool.and_eq_true] at h
    obtain ⟨⟨h0, h1⟩, h2⟩ := h
    refine (pg_sub (S.E G.toGood h1) (S.E G.toGood h2) set_list (by intro _; cases i <;> first | rfl | cases h0)).ofD fun u σ H Q ⟨ρ, g, s, d, ab, en, ru, po⟩ => ⟨ρ, g, s, ab, en, ?_⟩
    have po : Post P H g s ((v.E o ρ s).bind fun x s => (v.E i ρ s).bind fun y s => (setD x y d s).bind fun _ s => .ok ρ s) fun ρ' s' g' H' => ∀ σ', EnvOk P g' s'.size σ' ρ' → Q σ' H' := po
    refine po.bind.imp fun x s1 g1 H1 e1 ab1 p1 w rw1 => ⟨ρ, g1, s1, ab1, en.ext e1, p1.bind.imp fun y s2 g2 H2 e2 ab2 p2 w2 rw2 => ?_⟩
    have rx := e2.rep rw1
    have rd := e2.rep (e1.rep ru)
    have en2 := (en.ext e1).ext e2
    cases rx with
    | mref hk =>
      rename_i kk
      cases rw2 with
      | int j =>
        have p2 : Post P H2 g2 s2 ((match s2.get kk with
          | some (.lst ds) => if 0 ≤ j ∧ j < ds.length then .ok () (s2.put kk (.lst (ds.set j.toNat d))) else .stuck
          | _ => .stuck : Res Unit).bind fun _ s => .ok ρ s) _ := p2
        cases hg : s2.get kk with
        | none => rw [hg] at p2; exact p2.elim
        | some mo =>
          cases mo with
          | dct kvs => rw [hg] at p2; exact p2.elim
          | lst ds =>
            rw [hg] at p2
            dsimp only at p2
            by_cases hj : 0 ≤ j ∧ j < ds.length
            · rw [if_pos hj] at p2
              obtain ⟨ob, q1, _, xs, rfl, rl⟩ := ab2.cell kk _ hg
              have ex := ext_put (mo' := .lst (ds.set j.toNat d)) ab2 hg (.lst (xs.set j.toNat u))
              have ab3 := abs_put ab2 hg (RepL.set rd j.toNat rl)
              exact ⟨_, xs, j, j.toNat, rfl, rfl, q1, set_at (by rw [rl.length]; exact hj), p2 _ _ ex ab3 _ (en2.ext ex)⟩
            · rw [if_neg hj] at p2
              exact p2.elim
      | _ => exact p2.elim
    | _ => exact p2.elim
  · cases h
theorem cA_star (h : cA c k sc raw tg = true) (env : Env) (es : List Expr) : assignEach (tg :: es) env = (false, assign tg env) :: assignEach es env := by
  unfold cA at h
  split at h <;> first | rfl | cases h
theorem pgs_at (S : SndE c v k) (G : GoodS X P c sc raw) : ∀ {ts : List Expr}, (∀ t ∈ ts, cA c k sc raw t = true) → PGs X ts (tGAs P (asgTs c v ts))
  | [], _ => pgs_nil.ofD fun us σ H Q ⟨ρ, g, s, ds, ab, en, ru, po⟩ => by
    cases ds with
    | nil =>
      cases ru
      exact ⟨rfl, Post.here po ab σ en⟩
    | cons d ds => exact po.elim
  | t :: ts, h => by
    have ht := h t (List.mem_cons_self ..)
    refine (pgs_cons (pg_at S G ht) (pgs_at S G fun x hx => h x (List.mem_cons_of_mem _ hx)) (by rw [cA_star ht]; rfl)).ofD fun us σ H Q ⟨ρ, g, s, ds, ab, en, ru, po⟩ => ?_
    cases ru with
    | nil => exact po.elim
    | @cons u us d ds r1 rr =>
      have po : Post P H g s ((asgT c v t d ρ s).bind fun ρ s => asgTs c v ts ds ρ s) fun ρ' s' g' H' => ∀ σ', EnvOk P g' s'.size σ' ρ' → Q σ' H' := po
      exact ⟨u, us, rfl, ρ, g, s, d, ab, en, r1, po.bind.imp fun ρ1 s1 g1 H1 e1 ab1 p1 σ1 en1 => ⟨ρ1, g1, s1, ds, ab1, en1, e1.repL rr, p1⟩⟩
theorem eachA_len : ∀ {ts : List Expr}, (∀ t ∈ ts, cA c k sc raw t = true) → (assignEach ts X.env).length = ts.length ∧ (assignEach ts X.env).findIdx? (·.1) = none
  | [], _ => ⟨rfl, rfl⟩
  | t :: r, h => by
    obtain ⟨h1, h2⟩ := eachA_len fun y hy => h y (List.mem_cons_of_mem _ hy)
    rw [cA_star (h t (List.mem_cons_self ..))]
    refine ⟨by rw [List.length_cons, List.length_cons, h1], ?_⟩
    rw [List.findIdx?_cons]
    simp [h2]
/-- no tuple's display -/
def notup (e : Expr) : Bool := match e with
  | .Tuple _ _ _ => false
  | _ => true
theorem swN_tup {tgs : List Expr} (h : notup e = true) (env : Env) : swappedStores tgs e env = pure none := by
  unfold swappedStores
  cases e with
  | Tuple _ _ _ => cases h
  | _ => 
    match tgs with
    | [] => rfl
    | [t] => cases t <;> rfl
    | t :: _ :: _ => cases t <;> rfl
/-- a, b = an expression -/
theorem ss_tup {kt : Nat} {pt : Pos} {f : Rho → DL.S → Res D} (S : SndE c v k) (G : GoodS X P c sc raw) (he : PE X e (tR P f)) (ht : ∀ t ∈ ts, cA c k sc raw t = true) (hn : notup e = true) :
    PS X (.Assign [.Tuple ts kt pt] e pos) (tRS P fun ρ s => ((f ρ s).bind fun d s => match d with
      | .tup ds => if ds.length = ts.length then asgTs c v ts ds ρ s else .stuck
      | _ => .stuck).bind fun ρ s => .ok (.nx ρ) s) := by
  obtain ⟨q1, q2⟩ := eachA_len (X := X) ht
  refine (ps_asg he (pg_tup G.calm (pgs_at S G ht) q1 q2) (by cases e <;> rfl) (swN_tup hn X.env)).ofD fun D σ H ⟨ρ, g, s, ab, en, po⟩ => ⟨ρ, g, s, ab, en, (Post.bind (Post.bind po)).imp fun d s1 g1 H1 e1 ab1 p1 u ru => ?_⟩
  cases ru with
  | @tup q xs ds hs rs =>
    dsimp only at p1
    by_cases hl : ds.length = ts.length
    · rw [if_pos hl] at p1
      exact ⟨q, xs, rfl, by rw [← G.hK]; exact sqT_H ab1 hs, by rw [rs.length]; exact hl, ρ, g1, s1, ds, ab1, en.ext e1, rs, p1.imp fun ρ' s2 g2 H2 e2 ab2 p2 σ' en' => Post.here p2 ab2 σ' en'⟩
    · rw [if_neg hl] at p1
      exact p1.elim
  | _ => exact p1.elim
/-- one target of any kind -/
theorem ss_one {f : Rho → DL.S → Res D} (S : SndE c v k) (G : GoodS X P c sc raw) (he : PE X e (tR P f)) (ht : cA c k sc raw tg = true) (hn : ∀ x q, tg ≠ .Name x q) :
    PS X (.Assign [tg] e pos) (tRS P fun ρ s => ((f ρ s).bind fun d s => asgT c v tg d ρ s).bind fun ρ s => .ok (.nx ρ) s) := by
  have h0 := ht
  unfold cA at h0
  split at h0
  · exact absurd rfl (hn _ _)
  · rename_i o i q
    refine (ps_asg he (pg_at S G ht) (by cases e <;> rfl) (by cases e <;> rfl) rfl).ofD fun D σ H ⟨ρ, g, s, ab, en, po⟩ => ⟨ρ, g, s, ab, en, (Post.bind (Post.bind po)).imp fun d s1 g1 H1 e1 ab1 p1 u ru => ⟨ρ, g1, s1, d, ab1, en.ext e1, ru, p1.imp fun ρ' s2 g2 H2 e2 ab2 p2 σ' en' => Post.here p2 ab2 σ' en'⟩⟩
  · cases h0
/-- name += e -/
theorem ss_aug {i : Nat} {x : Str} {op : Operator} (S : SndE c v k) (G : GoodS X P c sc raw) (hi : ix x X.N = some i) (hx : asgC raw x = true) (he : k.E sc raw e = true) (ho : op = .Add ∨ op = .Sub) : PS X (.AugAssign (.Name x p) op e pos) (tRS P (evAug v i op e)) := by
  obtain ⟨h1, h2⟩ := G.asg x hx
  have main : ∀ {gg : Int → Int → Int} {r : D → D → DL.S → Res D}, OpR X (inplaceOp op) (rI0 fun a b => .int (gg a b)) → (∀ n y s, r (.int n) y s = match y with
      | .int j => .ok (.int (gg n j)) s
      | _ => .stuck) → PS X (.AugAssign (.Name x p) op e pos) (tRS P fun ρ s => match rget ρ i with
        | some (.int n) => (v.E e ρ s).bind fun y s => (r (.int n) y s).bind fun z s => .ok (.nx (ρ.set i (some z))) s
        | _ => .stuck) := fun {gg r} hop hr => (ps_aug G.nd (ix_at hi) h1 (S.E G.toGood he) hop h2).ofD fun D σ H ⟨ρ, g, s, ab, en, po⟩ => by
    dsimp only at po
    cases q : rget ρ i with
    | none => rw [q] at po; exact po.elim
    | some d =>
      rw [q] at po
      cases d with
      | int n =>
        obtain ⟨w, w1, w2⟩ := en.at_ i _ q
        cases w2
        refine ⟨.int n, w1, ρ, g, s, ab, en, (Post.bind (f := fun y s => (r (.int n) y s).bind fun z s => .ok (Fl.nx (ρ.set i (some z))) s) po).imp fun y s1 g1 H1 e1 ab1 p1 u ru => ?_⟩
        rw [hr] at p1
        cases ru with
        | int j => exact ⟨n, j, rfl, rfl, Post.here p1 ab1 _ ((en.ext e1).set (G.hI _ _ _ en.inv) (.int _))⟩
        | _ => exact p1.elim
      | _ => exact po.elim
  rcases ho with rfl | rfl
  · exact main (r := addD) iop_add fun n y s => by
      cases y with
      | int j => rfl
      | _ =>
        unfold addD
        first | rfl | (show (match lstOf s (.int n), _ with
          | some xs, some ys => _
          | _, _ => _) = _; rfl)
  · exact main (r := subD) iop_sub fun n y s => by cases y <;> rfl
/-! ### expressions as statements -/
theorem ss_expr {f : Rho → DL.S → Res D} (he : PE X e (tR P f)) (hn : nocomp e = true) : PS X (.Expr e pos) (tRS P fun ρ s => ((f ρ s).bind fun _ s => .ok () s).bind fun _ s => .ok (.nx ρ) s) :=
  (ps_expr he (sw_no hn none _ _)).ofD fun D σ H ⟨ρ, g, s, ab, en, po⟩ => ⟨ρ, g, s, ab, en, (Post.bind (Post.bind po)).imp fun d s1 g1 H1 e1 ab1 p1 u ru => Post.here (Post.here p1 ab1) ab1 σ (en.ext e1)⟩
/-- no call: super() is none -/
def nocall (e : Expr) : Bool := match e with
  | .Call _ _ _ _ => false
  | _ => true
theorem base_of {o : Expr} (h : nocall o = true) (m : Str) (env : Env) (w : Sem Value) : attributeBase o m env w = w := by
  cases o <;> first | rfl | cases h
theorem ss_recv {o : Expr} {apos q : Pos} {m : Str} {id : String} {r : V → List V → Hp → VK → Prop} {f : D → D → DL.S → Res Unit} (S : SndE c v k) (G : GoodS X P c sc raw) (slot : Slot "list" m id) (hty : typeOf (.builtin id) = pure (.type "method_descriptor")) (hm : MtR X id r)
    (ho : k.E sc raw o = true) (hc : nocall o = true) (ha : k.E sc raw a = true) (hs : nostar a = true) (hl : (apos.endLine == q.line) = true)
    (hf : ∀ {u w : V} {x d : D} {H : Hp} {g : Gh} {s : DL.S} {R : Hp → Prop}, AbsS P.K g H s → Rep P.K g s.size u x → Rep P.K g s.size w d → (Post P H g s (f x d s) fun _ s' g' H' => R H') → r u [w] H fun _ H' => R H') :
    PS X (.Expr (.Call (.Attribute o m apos) [a] [] q) pos) (tRS P fun ρ s => (evRecv v o a f ρ s).bind fun _ s => .ok (.nx ρ) s) := by
  have s1 := star_of hs X.env []
  refine (ps_expr (pe_bm F.plainAttrs_list slot hty hm (S.E G.toGood ho) (pa_cons (S.E G.toGood ha) pa_nil s1) (base_of hc _ _ _) (by rw [s1]; rfl) hl s1 rfl) (sw_no rfl none _ _)).ofD fun D σ H ⟨ρ, g, s, ab, en, po⟩ => ⟨ρ, g, s, ab, en, (Post.bind (Post.bind po)).imp fun x s1 g1 H1 e1 ab1 p1 u ru => ?_⟩
  cases hx : lstOf s1 x with
  | none => rw [hx] at p1; exact p1.elim
  | some ds =>
    rw [hx] at p1
    dsimp only at p1
    obtain ⟨pa, xs, rfl, q1, q2⟩ := lst_at ab1 ru hx
    refine ⟨.inl ⟨rfl, xs, .inl (.inl q1)⟩, ρ, g1, s1, ab1, en.ext e1, p1.bind.imp fun d s2 g2 H2 e2 ab2 p2 w rw2 => ?_⟩
    exact hf ab2 (e2.rep ru) rw2 (p2.imp fun _ s3 g3 H3 e3 ab3 p3 => Post.here p3 ab3 σ (((en.ext e1).ext e2).ext e3))
theorem ss_append {o : Expr} {apos q : Pos} (S : SndE c v k) (G : GoodS X P c sc raw) (ho : k.E sc raw o = true) (hc : nocall o = true) (ha : k.E sc raw a = true) (hs : nostar a = true) (hl : (apos.endLine == q.line) = true) :
    PS X (.Expr (.Call (.Attribute o "append" apos) [a] [] q) pos) (tRS P fun ρ s => (evRecv v o a appendD ρ s).bind fun _ s => .ok (.nx ρ) s) :=
  ss_recv S G F.slot_list_append F.type_list_append mt_append ho hc ha hs hl fun {u w x d H g s R} ab ru rw2 po => by
    cases ru with
    | mref hk =>
      rename_i kk
      have po : Post P H g s (match s.get kk with
        | some (.lst ds) => if ds.length < line then .ok () (s.put kk (.lst (ds ++ [d]))) else .stuck
        | _ => .stuck) fun _ s' g' H' => R H' := po
      cases hg : s.get kk with
      | none => rw [hg] at po; exact po.elim
      | some mo =>
        cases mo with
        | dct kvs => rw [hg] at po; exact po.elim
        | lst ds =>
          rw [hg] at po
          dsimp only at po
          by_cases hj : ds.length < line
          · rw [if_pos hj] at po
            obtain ⟨ob, q1, _, xs, rfl, rl⟩ := ab.cell kk _ hg
            exact ⟨_, xs, w, rfl, rfl, q1, by rw [rl.length, ← line_eq]; exact hj, po _ _ (ext_put ab hg _) (abs_put ab hg (rl.append (.cons rw2 .nil)))⟩
          · rw [if_neg hj] at po
            exact po.elim
    | _ => exact po.elim
theorem ss_extend {o : Expr} {apos q : Pos} (S : SndE c v k) (G : GoodS X P c sc raw) (ho : k.E sc raw o = true) (hc : nocall o = true) (ha : k.E sc raw a = true) (hs : nostar a = true) (hl : (apos.endLine == q.line) = true) :
    PS X (.Expr (.Call (.Attribute o "extend" apos) [a] [] q) pos) (tRS P fun ρ s => (evRecv v o a extendD ρ s).bind fun _ s => .ok (.nx ρ) s) :=
  ss_recv S G F.slot_list_extend F.type_list_extend mt_extend ho hc ha hs hl fun {u w x d H g s R} ab ru rw2 po => by
    cases ru with
    | mref hk =>
      rename_i kk
      have po : Post P H g s (match s.get kk, lstOf s d with
        | some (.lst ds), some es => if ds.length + es.length ≤ line then .ok () (s.put kk (.lst (ds ++ es))) else .stuck
        | _, _ => .stuck) fun _ s' g' H' => R H' := po
      cases hg : s.get kk with
      | none => rw [hg] at po; exact po.elim
      | some mo =>
        cases mo with
        | dct kvs => rw [hg] at po; exact po.elim
        | lst ds =>
          cases hd : lstOf s d with
          | none => rw [hg, hd] at po; exact po.elim
          | some fs =>
            rw [hg, hd] at po
            dsimp only at po
            obtain ⟨pb, zs, rfl, z1, z2⟩ := lst_at ab rw2 hd
            by_cases hj : ds.length + fs.length ≤ line
            · rw [if_pos hj] at po
              obtain ⟨ob, q1, _, xs, rfl, rl⟩ := ab.cell kk _ hg
              exact ⟨_, pb, xs, zs, rfl, rfl, q1, z1, by rw [rl.length, z2.length, ← line_eq]; exact hj, po _ _ (ext_put ab hg _) (abs_put ab hg (rl.append z2))⟩
            · rw [if_neg hj] at po
              exact po.elim
    | _ => exact po.elim
/-! ### loops -/
theorem ss_for {it : Expr} {body : List Stmt} {X' : Stmt → Rho → DL.S → Res Fl} {fI : Rho → DL.S → Res Itm} (G : GoodS X P c sc raw) (hi : PI X tg it (tRI P fI)) (hg : ckTg c raw tg = true) (hb : PSs X body (tRS P (evBlk X' body))) (hset : noset it = true) :
    PS X (.For tg it body [] pos) (tRS P fun ρ s => (fI ρ s).bind fun t s => forL (fun d ρ s => match bindT c.N tg d ρ with
      | some ρ => evBlk X' body ρ s
      | none => .stuck) t.src t.items ρ s) := by
  refine (ps_for G.own G.calm hi (sg_any (P := P) G.hI G.hK G.calm G.nd (tg_of G.toGood hg)) hb (set_of hset X.env)).ofD fun EE σ H ⟨ρ, g, s, ab, en, po⟩ => ⟨ρ, g, s, ab, en, po.bind.imp fun t s1 g1 H1 e1 ab1 p1 J jo => ?_⟩
  rw [G.hN]
  generalize hst : (fun (d : D) (ρ : Rho) (s : DL.S) => match bindT c.N tg d ρ with
      | some ρ => evBlk X' body ρ s
      | none => (.stuck : Res Fl)) = step at p1
  refine ⟨fun i m σ' H' => m = t.items.length - i ∧ i ≤ t.items.length ∧ ∃ ρ' g' s', AbsS P.K g' H' s' ∧ EnvOk P g' s'.size σ' ρ' ∧ Ext g1 s1 H1 g' s' H' ∧ Post P H' g' s' (forL step t.src (t.items.drop i) ρ' s') (flK P EE), ⟨_, rfl, Nat.zero_le _, ρ, g1, s1, ab1, en.ext e1, Ext.refl .., by rw [List.drop_zero]; exact p1⟩, ?_⟩
  rintro i m σ2 H2 ⟨rfl, hi2, ρ2, g2, s2, ab2, en2, ex2, po2⟩
  by_cases hlt : i < t.items.length
  · right
    obtain ⟨d, hd⟩ := some_at hlt
    rw [drop_at hd] at po2
    have po2 : Post P H2 g2 s2 (if still t.src s2 = true then (step d ρ2 s2).bind fun f s => match f with
        | .nx ρ' => forL step t.src (t.items.drop (i + 1)) ρ' s
        | .ct ρ' => forL step t.src (t.items.drop (i + 1)) ρ' s
        | .bk ρ' => .ok (.nx ρ') s
        | .rt d => .ok (.rt d) s
      else .stuck) (flK P EE) := po2
    by_cases hs2 : still t.src s2 = true
    · rw [if_pos hs2] at po2
      obtain ⟨hgo, hy⟩ := jo.item i d g2 s2 H2 ex2 ab2 hs2 hd
      refine ⟨hgo, fun σ' H' => ∃ ρ' g' s', AbsS P.K g' H' s' ∧ EnvOk P g' s'.size σ' ρ' ∧ Ext g1 s1 H1 g' s' H' ∧ Post P H' g' s' (forL step t.src (t.items.drop (i + 1)) ρ' s') (flK P EE), fun σ' H' q => ⟨_, by omega, rfl, hlt, q⟩, fun x H4 hyl => ?_⟩
      obtain ⟨g4, e4, ab4, rx⟩ := hy x H4 hyl
      have po4 := po2.rebase e4
      subst hst
      dsimp only at po4
      cases hb4 : bindT c.N tg d ρ2 with
      | none => rw [hb4] at po4; exact po4.elim
      | some ρ5 =>
        rw [hb4] at po4
        refine ⟨ρ2, g4, s2, d, ρ5, ab4, en2.ext e4, rx, hb4, fun σ5 en5 _ => ⟨ρ5, g4, s2, ab4, en5, po4.bind.imp fun f s6 g6 H6 e6 ab6 p6 => ?_⟩⟩
        have ex6 := (ex2.trans e4).trans e6
        cases f with
        | nx ρ' => exact fun σ' en' => ⟨ρ', g6, s6, ab6, en', ex6, p6⟩
        | ct ρ' => exact fun σ' en' => ⟨ρ', g6, s6, ab6, en', ex6, p6⟩
        | bk ρ' => exact fun σ' en' => Post.here p6 ab6 σ' en'
        | rt d => exact Post.here p6 ab6
    · rw [if_neg hs2] at po2
      exact po2.elim
  · left
    have hi3 : i = t.items.length := by omega
    subst hi3
    rw [List.drop_length] at po2
    have po2 : Post P H2 g2 s2 (if still t.src s2 = true then .ok (.nx ρ2) s2 else .stuck) (flK P EE) := po2
    by_cases hs2 : still t.src s2 = true
    · rw [if_pos hs2] at po2
      exact ⟨jo.stop g2 s2 H2 ex2 ab2 hs2, Post.here po2 ab2 σ2 en2⟩
    · rw [if_neg hs2] at po2
      exact po2.elim
theorem ss_while {t : Expr} {body : List Stmt} {T : Rho → DL.S → Res Bool} {B : Rho → DL.S → Res Fl} (G : GoodS X P c sc raw) (ht : PT X t (tRT P T)) (hb : PSs X body (tRS P B)) : PS X (.While t body [] pos) (tRS P (whileL T B)) := by
  refine (ps_while G.own ht hb).ofD fun D σ H ⟨ρ, g, s, ab, en, po⟩ => ?_
  unfold whileL at po
  split at po
  · rename_i hex
    refine ⟨fun m σ H => ∃ ρ g s, AbsS P.K g H s ∧ EnvOk P g s.size σ ρ ∧ Post P H g s (whileN T B m ρ s) (flK P D), ⟨_, ρ, g, s, ab, en, po⟩, ?_⟩
    rintro m σ2 H2 ⟨ρ2, g2, s2, ab2, en2, po2⟩
    cases m with
    | zero => exact po2.elim
    | succ m =>
      have po2 : Post P H2 g2 s2 ((T ρ2 s2).bind fun b s => match b with
        | false => .ok (.nx ρ2) s
        | true => (B ρ2 s).bind fun f s => match f with
          | .nx ρ' => whileN T B m ρ' s
          | .ct ρ' => whileN T B m ρ' s
          | .bk ρ' => .ok (.nx ρ') s
          | .rt d => .ok (.rt d) s) (flK P D) := po2
      refine ⟨ρ2, g2, s2, ab2, en2, po2.bind.imp fun b s3 g3 H3 e3 ab3 p3 => ?_⟩
      cases b with
      | false => exact iteF (Post.here p3 ab3 σ2 (en2.ext e3))
      | true =>
        refine iteT ⟨fun σ' H' => ∃ ρ g s, AbsS P.K g H' s ∧ EnvOk P g s.size σ' ρ ∧ Post P H' g s (whileN T B m ρ s) (flK P D), fun σ' H' q => ⟨m, Nat.lt_succ_self m, q⟩, ρ2, g3, s3, ab3, en2.ext e3, p3.bind.imp fun f s4 g4 H4 e4 ab4 p4 => ?_⟩
        cases f with
        | nx ρ' => exact fun σ' en' => ⟨ρ', g4, s4, ab4, en', p4⟩
        | ct ρ' => exact fun σ' en' => ⟨ρ', g4, s4, ab4, en', p4⟩
        | bk ρ' => exact fun σ' en' => Post.here p4 ab4 σ' en'
        | rt d => exact Post.here p4 ab4
  · exact po.elim
/-! ### ends -/
theorem mapS_ok {K : PySem.W.Frag} {H : Hp} {f : D → DL.S → Option (D × DL.S)} (i1 : ∀ {g : Gh} {s s' : DL.S} {d d' : D} {w : V}, f d s = some (d', s') → AbsS K g H s → Rep K g s.size w d → ∃ g', Ext g s H g' s' H ∧ AbsS K g' H s' ∧ Rep K g' s'.size w d') :
    ∀ {ds : List D} {g : Gh} {s s' : DL.S} {ds' : List D} {ws : List V}, mapS f ds s = some (ds', s') → AbsS K g H s → RepL K g s.size ws ds → ∃ g', Ext g s H g' s' H ∧ AbsS K g' H s' ∧ RepL K g' s'.size ws ds'
  | [], g, s, s', ds', ws, h, ab, r => by
    cases h
    cases r
    exact ⟨g, Ext.refl .., ab, .nil⟩
  | d :: ds, g, s, s', ds', ws, h, ab, r => by
    cases r with
    | cons r1 rr =>
      have h : (match f d s with
        | some (e, s) => (match mapS f ds s with
          | some (es, s) => some (e :: es, s)
          | none => none)
        | none => none) = some (ds', s') := h
      cases z : f d s with
      | none => rw [z] at h; cases h
      | some y =>
        obtain ⟨e, s1⟩ := y
        rw [z] at h
        dsimp only at h
        cases z2 : mapS f ds s1 with
        | none => rw [z2] at h; cases h
        | some y2 =>
          obtain ⟨es, s2⟩ := y2
          rw [z2] at h
          cases h
          obtain ⟨g1, e1, ab1, q1⟩ := i1 z ab r1
          obtain ⟨g2, e2, ab2, q2⟩ := mapS_ok i1 z2 ab1 (e1.repL rr)
          exact ⟨g2, e1.trans e2, ab2, .cons (e2.rep q1) q2⟩
theorem frz_ok {K : PySem.W.Frag} {H : Hp} : ∀ (n : Nat) {g : Gh} {s s' : DL.S} {d d' : D} {w : V}, frz n d s = some (d', s') → AbsS K g H s → Rep K g s.size w d → ∃ g', Ext g s H g' s' H ∧ AbsS K g' H s' ∧ Rep K g' s'.size w d'
  | 0, _, _, _, _, _, _, h, _, _ => by cases h
  | n + 1, g, s, s', d, d', w, h, ab, r => by
    have i2 := @mapS_ok K H (frz n) (fun {g s s' d d' w} => frz_ok n)
    · cases r with
      | @tup q xs ds hs rs =>
        have h : (match mapS (frz n) ds s with
          | some (es, s) => some (D.tup es, s)
          | none => none) = some (d', s') := h
        cases z : mapS (frz n) ds s with
        | none => rw [z] at h; cases h
        | some y =>
          obtain ⟨es, s1⟩ := y
          rw [z] at h
          cases h
          obtain ⟨g', e1, ab1, r1⟩ := i2 z ab rs
          exact ⟨g', e1, ab1, .tup (sqT_mono e1.zz hs) r1⟩
      | @lst q xs ds hs rs =>
        have h : (match mapS (frz n) ds s with
          | some (es, s) => some (D.lst es, s)
          | none => none) = some (d', s') := h
        cases z : mapS (frz n) ds s with
        | none => rw [z] at h; cases h
        | some y =>
          obtain ⟨es, s1⟩ := y
          rw [z] at h
          cases h
          obtain ⟨g', e1, ab1, r1⟩ := i2 z ab rs
          exact ⟨g', e1, ab1, .lst (e1.zz _ _ hs) r1⟩
      | mref hk =>
        rename_i kk
        have h : (match s.get kk with
          | some (.lst ds) => (match mapS (frz n) ds (s.kill kk) with
            | some (es, s) => some (D.lst es, s)
            | none => none)
          | _ => none) = some (d', s') := h
        cases hg : s.get kk with
        | none => rw [hg] at h; cases h
        | some mo =>
          cases mo with
          | dct kvs => rw [hg] at h; cases h
          | lst ds =>
            rw [hg] at h
            dsimp only at h
            cases z : mapS (frz n) ds (s.kill kk) with
            | none => rw [z] at h; cases h
            | some y =>
              obtain ⟨es, s1⟩ := y
              rw [z] at h
              cases h
              obtain ⟨xs, q1, q2, q3, q4⟩ := ext_kill ab hg
              obtain ⟨g', e1, ab1, r1⟩ := i2 z q4 (q3.repL q2)
              refine ⟨g', q3.trans e1, ab1, .lst (e1.zz _ _ ?_) r1⟩
              exact upd_same
      | non => cases h; exact ⟨g, Ext.refl .., ab, .non⟩
      | bl b => cases h; exact ⟨g, Ext.refl .., ab, .bl b⟩
      | int i => cases h; exact ⟨g, Ext.refl .., ab, .int i⟩
      | str x => cases h; exact ⟨g, Ext.refl .., ab, .str x⟩
      | fix hs rs => cases h; exact ⟨g, Ext.refl .., ab, .fix hs rs⟩
theorem frzR_ok {K : PySem.W.Frag} {H : Hp} {g : Gh} {s s' : DL.S} {d d' : D} {w : V} (h : frzR d s = some (d', s')) (ab : AbsS K g H s) (r : Rep K g s.size w d) : ∃ g', Ext g s H g' s' H ∧ AbsS K g' H s' ∧ Rep K g' s'.size w d' := by
  unfold frzR at h
  cases q : d.plain with
  | true =>
    rw [q] at h
    cases h
    exact ⟨g, Ext.refl .., ab, r⟩
  | false =>
    rw [q] at h
    exact frz_ok deep h ab r
theorem ss_ret (S : SndE c v k) (G : Good X P c sc raw) (h1 : (c.keep && isNew c e) = true → k.N sc raw e = true) (h2 : (c.keep && isNew c e) = false → k.E sc raw e = true) : PS X (.Return (some e) pos) (tRS P (evRet c v e)) := by
  unfold evRet
  cases hk : c.keep with
  | true =>
    rw [hk, Bool.true_and] at h1 h2
    cases hn : isNew c e with
    | true => exact (ps_ret (thaw_of (S.N G (h1 hn)))).ofD fun D σ H ⟨ρ, g, s, ab, en, po⟩ => ⟨ρ, g, s, ab, en, po.bind.imp fun d s1 g1 H1 e1 ab1 p1 w rw1 => Post.here p1 ab1 w rw1⟩
    | false => exact (ps_ret (S.E G (h2 hn))).ofD fun D σ H ⟨ρ, g, s, ab, en, po⟩ => ⟨ρ, g, s, ab, en, po.bind.imp fun d s1 g1 H1 e1 ab1 p1 w rw1 => Post.here p1 ab1 w rw1⟩
  | false =>
    rw [hk, Bool.false_and] at h2
    refine (ps_ret (S.E G (h2 rfl))).ofD fun D σ H ⟨ρ, g, s, ab, en, po⟩ => ⟨ρ, g, s, ab, en, po.bind.imp fun d s1 g1 H1 e1 ab1 p1 w rw1 => ?_⟩
    cases q : frzR d s1 with
    | none => rw [q] at p1; exact p1.elim
    | some y =>
      obtain ⟨d', s'⟩ := y
      rw [q] at p1
      obtain ⟨g', ex, ab', r'⟩ := frzR_ok q ab1 rw1
      exact p1 g' H1 ex ab' w r'
end
end DL
set_option Elab.async false
set_option linter.all false
set_option maxRecDepth 100000
set_option maxHeartbeats 4000000
/-! The data layer, part 21: the check of statements; a def by its run. -/
namespace DL
open PySem PySem.Spec PyProof.Rows L2
section
variable (c : Cfg) (k : Ck) (sc raw : Scope)
def cDo (e : Expr) : Bool := match e with
  | .Call (.Attribute o m p) [a] [] q => if m = ("append" : Str) ∨ m = ("extend" : Str) then k.E sc raw o && nocall o && k.E sc raw a && nostar a && (p.endLine == q.line) else k.E sc raw (.Call (.Attribute o m p) [a] [] q)
  | e => k.E sc raw e && nocomp e
def cAsgN (x : Str) (e : Expr) : Bool := match ix x c.N with
  | some i => asgC raw x && (match e with
    | .ListComp elt [⟨tg, it, ifs, 0⟩] scope _ => cComp c k sc raw elt tg it ifs scope
    | e => cFor c k sc raw i e && nocomp e)
  | none => true
def cAsg (tg e : Expr) : Bool := match tg with
  | .Name x _ => cAsgN c k sc raw x e
  | .Tuple ts _ _ => (match e with
    | .Tuple es _ _ => cTup c k sc raw ts es
    | e => k.E sc raw e && ts.all (cA c k sc raw))
  | tg => k.E sc raw e && cA c k sc raw tg
def cRet (e : Expr) : Bool := match c.keep && isNew c e with
  | true => k.N sc raw e
  | false => k.E sc raw e
def augOk (op : Operator) : Bool := match op with
  | .Add => true
  | .Sub => true
  | _ => false
def cX (st : Stmt) : Bool := match st with
  | .Expr e _ => cDo k sc raw e
  | .Assign [tg] e _ => cAsg c k sc raw tg e
  | .AugAssign (.Name x _) op e _ => asgC raw x && k.E sc raw e && augOk op
  | .For tg it body [] _ => k.I sc raw tg it && ckTg c raw tg && noset it && body.all (k.X sc raw)
  | .While t body [] _ => k.T sc raw t && body.all (k.X sc raw)
  | .If t a b _ => k.T sc raw t && a.all (k.X sc raw) && b.all (k.X sc raw)
  | .Return (some e) _ => cRet c k sc raw e
  | _ => true
end
structure Snd (c : Cfg) (v : Ev) (k : Ck) : Prop extends SndE c v k where
  X : ∀ {X P sc raw st}, GoodS X P c sc raw → k.X sc raw st = true → PS X st (tRS P (v.X st))
section
variable {X : Cx} {P : Par} {c : Cfg} {sc raw : Scope} {v : Ev} {k : Ck} {p pos : Pos} {a b e tg : Expr} {es ts : List Expr} {st : Stmt}
theorem body_of {body : List Stmt} (S : Snd c v k) (G : GoodS X P c sc raw) (h : body.all (k.X sc raw) = true) : PSs X body (tRS P (evBlk v.X body)) := sss_of fun st hst => S.X G (all_of h st hst)
theorem do_of (S : Snd c v k) (G : GoodS X P c sc raw) (h : cDo k sc raw e = true) : PS X (.Expr e pos) (tRS P fun ρ s => (evDo v e ρ s).bind fun _ s => .ok (.nx ρ) s) := by
  unfold evDo
  split
  · rename_i o m p1 a q
    have hc : (if m = ("append" : Str) ∨ m = ("extend" : Str) then k.E sc raw o && nocall o && k.E sc raw a && nostar a && (p1.endLine == q.line) else k.E sc raw (.Call (.Attribute o m p1) [a] [] q)) = true := h
    by_cases m1 : m = ("append" : Str)
    · rw [if_pos (.inl m1)] at hc
      rw [if_pos m1]
      subst m1
      simp only [Bool.and_eq_true] at hc
      obtain ⟨⟨⟨⟨h1, h2⟩, h3⟩, h4⟩, h5⟩ := hc
      exact ss_append S.toSndE G h1 h2 h3 h4 h5
    · by_cases m2 : m = ("extend" : Str)
      · rw [if_pos (.inr m2)] at hc
        rw [if_neg m1, if_pos m2]
        subst m2
        simp only [Bool.and_eq_true] at hc
        obtain ⟨⟨⟨⟨h1, h2⟩, h3⟩, h4⟩, h5⟩ := hc
        exact ss_extend S.toSndE G h1 h2 h3 h4 h5
      · rw [if_neg (fun z => z.elim m1 m2)] at hc
        rw [if_neg m1, if_neg m2]
        exact ss_expr (S.E G.toGood hc) rfl
  · rename_i hne
    have h : (k.E sc raw e && nocomp e) = true := by
      unfold cDo at h
      split at h
      · exact absurd rfl (hne _ _ _ _ _)
      · exact h
    rw [Bool.and_eq_true] at h
    exact ss_expr (S.E G.toGood h.1) h.2
theorem nx_assoc {r : Res D} {f : D → Rho} : (r.bind fun d s => .ok (Fl.nx (f d)) s) = (r.bind fun d s => .ok (f d) s).bind fun ρ s => .ok (Fl.nx ρ) s := by cases r <;> rfl
theorem asgN_of {x : Str} (S : Snd c v k) (G : GoodS X P c sc raw) (h : cAsgN c k sc raw x e = true) : PS X (.Assign [.Name x p] e pos) (tRS P fun ρ s => (evAsg c v (.Name x p) e ρ s).bind fun ρ s => .ok (.nx ρ) s) := by
  unfold cAsgN at h
  unfold evAsg
  dsimp only
  cases hi : ix x c.N with
  | none => exact ss_stuck
  | some i =>
    rw [hi] at h
    dsimp only at h ⊢
    rw [Bool.and_eq_true] at h
    obtain ⟨h1, h2⟩ := h
    have hN : ix x X.N = some i := by rw [G.hN]; exact hi
    split
    · rename_i elt tg it ifs scope q
      have h2 : cComp c k sc raw elt tg it ifs scope = true := h2
      unfold evForC
      cases hm : c.mu.contains i with
      | true =>
        refine ss_eq (ss_comp (p := p) (pos := q) (spos := pos) (f := thaw) S.toSndE G hN h1 h2 fun {H g s r Q} po => ?_) fun ρ s => nx_assoc (f := fun d => ρ.set i (some d))
        exact po.bind.imp fun es s1 g1 H1 e1 ab1 p1 pp ys hp ry => by
          have r : Rep P.K (g1.grow s1.size pp) (s1.push (.lst es)).size (.ref pp) (.mref s1.size) := by
            have z := Rep.mref (K := P.K) (g := g1.grow s1.size pp) (n := (s1.push (.lst es)).size) (i := s1.size) (by rw [_root_.DL.S.size_push]; omega)
            have e : (g1.grow s1.size pp).α s1.size = pp := if_pos rfl
            rw [e] at z
            exact z
          exact p1 _ _ (ext_grow ab1 hp _ _) (abs_grow ab1 hp ry) _ r
      | false =>
        exact ss_eq (ss_comp (p := p) (pos := q) (spos := pos) (f := fun ds s => .ok (.lst ds) s) S.toSndE G hN h1 h2 fun {H g s r Q} po => post_lay po) fun ρ s => nx_assoc (f := fun d => ρ.set i (some d))
    · rename_i hne
      have h2 : (cFor c k sc raw i e && nocomp e) = true := by
        split at h2
        · exact absurd rfl (hne _ _ _ _ _ _)
        · exact h2
      rw [Bool.and_eq_true] at h2
      exact ss_eq (ss_name G hN h1 (cFor_of S.toSndE G.toGood h2.1) (sw_no h2.2 _ _ _)) fun ρ s => nx_assoc (f := fun d => ρ.set i (some d))
theorem asg_ofS (S : Snd c v k) (G : GoodS X P c sc raw) (h : cAsg c k sc raw tg e = true) : PS X (.Assign [tg] e pos) (tRS P fun ρ s => (evAsg c v tg e ρ s).bind fun ρ s => .ok (.nx ρ) s) := by
  unfold cAsg at h
  split at h
  · exact asgN_of S G h
  · rename_i ts kt pt
    split at h
    · exact ss_par S.toSndE G h
    · rename_i hne
      rw [Bool.and_eq_true] at h
      have hn : notup e = true := by
        cases e <;> first | rfl | exact absurd rfl (hne _ _ _)
      have z := ss_tup (kt := kt) (pt := pt) (pos := pos) S.toSndE G (S.E G.toGood h.1) (all_of h.2) hn
      have q : evAsg c v (.Tuple ts kt pt) e = fun ρ s => (v.E e ρ s).bind fun d s => match d with
        | .tup ds => if ds.length = ts.length then asgTs c v ts ds ρ s else .stuck
        | _ => .stuck := by
        cases e <;> first | rfl | exact absurd rfl (hne _ _ _)
      rw [q]
      exact z
  · rename_i h1 h2
    rw [Bool.and_eq_true] at h
    have z := ss_one (pos := pos) S.toSndE G (S.E G.toGood h.1) h.2 fun x q w => h1 x q w
    have q : evAsg c v tg e = fun ρ s => (v.E e ρ s).bind fun d s => asgT c v tg d ρ s := by
      cases tg <;> first | rfl | exact absurd rfl (h1 _ _) | exact absurd rfl (h2 _ _ _)
    rw [q]
    exact z
theorem stX_of (S : Snd c v k) (G : GoodS X P c sc raw) (h : cX c k sc raw st = true) : PS X st (tRS P (stX c v st)) := by
  unfold stX
  split
  · exact do_of S G h
  · exact asg_ofS S G h
  · rename_i x q op e q2
    have h : (asgC raw x && k.E sc raw e && augOk op) = true := h
    simp only [Bool.and_eq_true] at h
    obtain ⟨⟨h1, h2⟩, h3⟩ := h
    cases hi : ix x c.N with
    | none => exact ss_stuck
    | some i => exact ss_aug S.toSndE G (by rw [G.hN]; exact hi) h1 h2 (by
        cases op <;> first | exact .inl rfl | exact .inr rfl | cases h3)
  · rename_i tg it body q
    have h : (k.I sc raw tg it && ckTg c raw tg && noset it && body.all (k.X sc raw)) = true := h
    simp only [Bool.and_eq_true] at h
    obtain ⟨⟨⟨h1, h2⟩, h3⟩, h4⟩ := h
    exact ss_for G (S.I G.toGood h1) h2 (body_of S G h4) h3
  · rename_i t body q
    have h : (k.T sc raw t && body.all (k.X sc raw)) = true := h
    rw [Bool.and_eq_true] at h
    exact ss_while G (S.T G.toGood h.1) (body_of S G h.2)
  · rename_i t a b q
    have h : (k.T sc raw t && a.all (k.X sc raw) && b.all (k.X sc raw)) = true := h
    simp only [Bool.and_eq_true] at h
    exact ss_if (S.T G.toGood h.1.1) (body_of S G h.1.2) (body_of S G h.2)
  · rename_i e q
    have h : (match c.keep && isNew c e with
      | true => k.N sc raw e
      | false => k.E sc raw e) = true := h
    exact ss_ret S.toSndE G.toGood (fun z => by rw [z] at h; exact h) (fun z => by rw [z] at h; exact h)
  · exact ss_retN
  · exact ss_pass
  · exact ss_break
  · exact ss_cont
  · exact ss_stuck
end
/-- so many levels -/
def ck (c : Cfg) : Nat → Ck
  | 0 => ckNo
  | n + 1 => ⟨cE c (ck c n), cN c (ck c n), cT (ck c n), cI c (ck c n), cX c (ck c n)⟩
theorem snd_ev (c : Cfg) : ∀ n : Nat, Snd c (ev c n) (ck c n)
  | 0 => { toSndE := snd_no, X := fun _ _ => ss_stuck }
  | n + 1 => by
    have S := snd_ev c n
    exact { E := fun G h => stE_of S.toSndE G h, N := fun G h => stN_of S.toSndE G h, T := fun G h => stT_of S.toSndE G h, I := fun G h => stI_of S.toSndE G h, X := fun G h => stX_of S G h }
/-! ### the store goes back -/
theorem rep_low {K : PySem.W.Frag} {g : Gh} {n : Nat} : ∀ {w : V} {d : D}, Rep K g n w d → d.plain = true → ∀ m : Nat, Rep K g m w d := by
  intro w d r
  refine Rep.rec (K := K) (g := g) (n := n) (motive_1 := fun w d _ => d.plain = true → ∀ m : Nat, Rep K g m w d) (motive_2 := fun ws ds _ => D.plains ds = true → ∀ m : Nat, RepL K g m ws ds) ?_ ?_ ?_ ?_ ?_ ?_ ?_ ?_ ?_ ?_ r
  · exact fun _ _ => .non
  · exact fun b _ _ => .bl b
  · exact fun i _ _ => .int i
  · exact fun x _ _ => .str x
  · exact fun h _ ih hp m => .tup h (ih hp m)
  · exact fun h _ ih hp m => .lst h (ih hp m)
  · exact fun _ _ _ hp => by cases hp
  · exact fun _ hp => by cases hp
  · exact fun _ _ => .nil
  · exact fun {w ws d ds} _ _ i1 i2 hp m => by
      have hp : (d.plain && D.plains ds) = true := hp
      rw [Bool.and_eq_true] at hp
      exact .cons (i1 hp.1 m) (i2 hp.2 m)
theorem repL_low {K : PySem.W.Frag} {g : Gh} {n : Nat} : ∀ {ws : List V} {ds : List D}, RepL K g n ws ds → D.plains ds = true → ∀ m : Nat, RepL K g m ws ds
  | _, _, .nil, _, _ => .nil
  | _, _, .cons (d := d) (ds := ds) h r, hp, m => by
    have hp : (d.plain && D.plains ds) = true := hp
    rw [Bool.and_eq_true] at hp
    exact .cons (rep_low h hp.1 m) (repL_low r hp.2 m)
/-- of the same trees: the smaller bound does -/
theorem rep_both {K : PySem.W.Frag} {g g' : Gh} {n n' : Nat} : ∀ {w : V} {d : D}, Rep K g n w d → ∀ {w' : V}, Rep K g' n' w' d → Rep K g' n w' d := by
  intro w d r
  refine Rep.rec (K := K) (g := g) (n := n) (motive_1 := fun w d _ => ∀ {w' : V}, Rep K g' n' w' d → Rep K g' n w' d) (motive_2 := fun ws ds _ => ∀ {ws' : List V}, RepL K g' n' ws' ds → RepL K g' n ws' ds) ?_ ?_ ?_ ?_ ?_ ?_ ?_ ?_ ?_ ?_ r
  · intro w' q; cases q; exact .non
  · intro b w' q; cases q; exact .bl b
  · intro i w' q; cases q; exact .int i
  · intro x w' q; cases q; exact .str x
  · intro a xs ds h _ ih w' q
    cases q with
    | tup h' r' => exact .tup h' (ih r')
  · intro a xs ds h _ ih w' q
    cases q with
    | lst h' r' => exact .lst h' (ih r')
  · intro a xs ds h _ ih w' q
    cases q with
    | fix h' r' => exact .fix h' (ih r')
  · intro i hi w' q
    cases q with
    | mref h' => exact .mref hi
  · intro ws' q; cases q; exact .nil
  · intro w ws d ds _ _ i1 i2 ws' q
    cases q with
    | cons h' r' => exact .cons (i1 h') (i2 r')
theorem repL_both {K : PySem.W.Frag} {g g' : Gh} {n n' : Nat} : ∀ {ds : List D} {ws ws' : List V}, RepL K g n ws ds → RepL K g' n' ws' ds → RepL K g' n ws' ds
  | [], _, _, .nil, .nil => .nil
  | _ :: _, _, _, .cons h r, .cons h' r' => .cons (rep_both h h') (repL_both r r')
theorem get_take {s : DL.S} {n i : Nat} : (DL.S.mk (s.cells.take n)).get i = if i < n then s.get i else none := by
  unfold DL.S.get
  by_cases h : i < n
  · rw [if_pos h]
    simp only [List.getElem?_take_of_lt h]
  · rw [if_neg h]
    simp only [List.getElem?_take_eq_none (Nat.le_of_not_lt h)]
theorem back_ok {K : PySem.W.Frag} {g g' : Gh} {s s' : DL.S} {H H' : Hp} {d : D} {w : V} (ab : AbsS K g H s) (ex : Ext g s H g' s' H') (ab' : AbsS K g' H' s') (r : Rep K g' s'.size w d) : Ext g s H g' (back s d s') H' ∧ AbsS K g' H' (back s d s') ∧ Rep K g' (back s d s').size w d := by
  unfold back
  split
  · rename_i h
    obtain ⟨h1, h2⟩ := h
    have sz : (DL.S.mk (s'.cells.take s.size)).size = s.size := by
      show (s'.cells.take s.size).length = s.size
      rw [List.length_take]
      have := ex.le
      exact Nat.min_eq_left this
    have gt := @get_take s' s.size
    have live : ∀ i, ((DL.S.mk (s'.cells.take s.size)).get i).isSome = true → i < s.size ∧ (s'.get i).isSome = true := fun i hi => by
      rw [gt] at hi
      by_cases q : i < s.size
      · rw [if_pos q] at hi
        exact ⟨q, hi⟩
      · rw [if_neg q] at hi
        cases hi
    refine ⟨⟨by rw [sz]; exact Nat.le_refl _, ex.al, ex.zz, ex.keep, fun i hi q => ?_, fun i hi q => ?_, ex.there, ex.tt⟩, ⟨ab'.zH, fun i mo q => ?_, fun i j hi hj q => ab'.inj i j (live i hi).2 (live j hj).2 q, ab'.tabs, ab'.zt⟩, rep_low r h1 _⟩
    · rw [gt, if_pos hi]
      exact ex.dead i hi q
    · exact absurd (live i q).1 (Nat.not_lt.mpr hi)
    · rw [sz]
      rw [gt] at q
      by_cases hi : i < s.size
      · rw [if_pos hi] at q
        obtain ⟨o, q1, q2, q3⟩ := ab'.cell i mo q
        refine ⟨o, q1, q2, ?_⟩
        cases mo with
        | dct kvs => exact q3
        | lst ds =>
          obtain ⟨xs, rfl, rl⟩ := q3
          refine ⟨xs, rfl, ?_⟩
          rcases h2 i hi with z | z
          · rw [z] at q
            obtain ⟨o0, _, _, ys, _, r0⟩ := ab.cell i _ q
            exact repL_both r0 rl
          · rw [q] at z
            exact repL_low rl z _
      · rw [if_neg hi] at q
        cases q
  · exact ⟨ex, ab', r⟩
end DL
set_option Elab.async false
set_option linter.all false
set_option maxRecDepth 100000
set_option maxHeartbeats 4000000
/-! The data layer, part 22: a def keeps its promise. -/
namespace DL
open PySem PySem.Spec PyProof.Rows L2
/-- what is known of a name of the module -/
def GTab (P : Program) (w : World) (K : PySem.W.Frag) (mg : Str → Option Value) (base : Heap) (cl : Str → Option Addr) (T : List (Addr × Str)) (k : Nat) (x : Str) : GV → Prop
  | .fn ps F => ∃ f, mg x = some (.ref f) ∧ PySem.W.keepIn K (.ref f) = true ∧ FnG P w K mg base cl T k f ps F
  | .int i => ∃ u, mg x = some u ∧ RelV (.int i) u
  | .str y => ∃ u, mg x = some u ∧ RelV (.str y) u
  | .cls _ => True
  | .bt b => x = btName b → mg x = none
theorem FnG.mono {P : Program} {w : World} {K : PySem.W.Frag} {mg : Str → Option Value} {base : Heap} {cl : Str → Option Addr} {T : List (Addr × Str)} {j k : Nat} {f : Addr} {ps : List Str} {F : Den} (G : FnG P w K mg base cl T j f ps F) (h : j ≤ k) : FnG P w K mg base cl T k f ps F := by
  obtain ⟨fd, sg, run⟩ := G.run
  exact ⟨fd, sg, fun A outer s H args us vs Q E ds g st hg hr => run A outer s H args us vs Q E ds g st hg (hr.mono h)⟩
theorem GTab.mono {P : Program} {w : World} {K : PySem.W.Frag} {mg : Str → Option Value} {base : Heap} {cl : Str → Option Addr} {T : List (Addr × Str)} {j k : Nat} {x : Str} {gv : GV} (G : GTab P w K mg base cl T j x gv) (h : j ≤ k) : GTab P w K mg base cl T k x gv := by
  cases gv with
  | fn ps F =>
    obtain ⟨f, h1, h2, h3⟩ := G
    exact ⟨f, h1, h2, h3.mono h⟩
  | _ => exact G
theorem env_start {P : Par} {g : Gh} {n : Nat} {N : List Str} {vs : List V} {ds : List D} (hi : P.inv (L2.start N vs)) (ht : g.T = P.T) (r : RepL P.K g n vs ds) : EnvOk P g n (L2.start N vs) (ds.map some ++ List.replicate (N.length - ds.length) none) := by
  have hl := r.length
  refine ⟨hi, ht, ?_, fun i d hd => ?_⟩
  · unfold L2.start
    rw [List.length_append, List.length_append, List.length_map, List.length_map, List.length_replicate, List.length_replicate, hl]
  · unfold rget at hd
    by_cases hlt : i < ds.length
    · rw [List.getElem?_append_left (by rw [List.length_map]; exact hlt), List.getElem?_map] at hd
      obtain ⟨e, he⟩ := some_at hlt
      rw [he] at hd
      cases hd
      obtain ⟨v, h1, h2⟩ := r.get he
      refine ⟨v, ?_, h2⟩
      unfold L2.start
      rw [List.getElem?_append_left (by rw [List.length_map]; omega), List.getElem?_map, h1]
      rfl
    · rw [List.getElem?_append_right (by rw [List.length_map]; omega), List.getElem?_replicate] at hd
      split at hd <;> rename_i q
      · split at q <;> cases q
        cases hd
      · cases hd
theorem run_post {P : Par} {H : Hp} {g : Gh} {st : DL.S} {Q : VK} {c : Cfg} {np : Nat} {body : List Stmt} {ds : List D} (ab : AbsS P.K g H st) (po : Post P H g st (runB c np body ds st) fun d s' g' H' => ∀ v, Rep P.K g' s'.size v d → Q v H') :
    Post P H g st (evBlk (ev c 60).X body (ds.map some ++ List.replicate (c.N.length - ds.length) none) st) (flK P { nx := fun _ H' => Q .non H', rt := Q }) := by
  unfold runB at po
  by_cases hl : ds.length = np
  · rw [if_pos hl] at po
    cases q : evBlk (ev c 60).X body (ds.map some ++ List.replicate (c.N.length - ds.length) none) st with
    | stuck => rw [q] at po; exact po.elim
    | err x s1 => rw [q] at po; exact po
    | ok f s1 =>
      rw [q] at po
      intro g' H' ex ab'
      cases f with
      | nx ρ =>
        intro σ _
        obtain ⟨e1, e2, e3⟩ := back_ok ab ex ab' (.non : Rep P.K g' s1.size .non .non)
        exact po g' H' e1 e2 _ e3
      | rt d =>
        intro v rv
        cases hk : c.keep with
        | true =>
          rw [Res.bind_ok] at po
          dsimp only at po
          rw [hk] at po
          exact po g' H' ex ab' v rv
        | false =>
          rw [Res.bind_ok] at po
          dsimp only at po
          rw [hk] at po
          obtain ⟨e1, e2, e3⟩ := back_ok ab ex ab' rv
          exact po g' H' e1 e2 v e3
      | bk ρ => exact po.elim
      | ct ρ => exact po.elim
  · rw [if_neg hl] at po
    exact po.elim
/-- A DEF OF THE TEXT, BY ITS RUN -/
theorem fnG_of {P : Program} {w : World} {K : PySem.W.Frag} {mg : Str → Option Value} {base : Heap} {cl : Str → Option Addr} {T : List (Addr × Str)} {c : Cfg} {k : Nat} {f : Addr} {nm qual : Str} {ars : Arguments} {body : List Stmt} {scope : Scope} {dV kV dc pm cdv ct oc : Value} {an od : Option Addr}
    {osl : Array (Option Value)} {ps : List Str} (lk : K.lookup f = some ⟨oc, od, .func (PySem.W.fnOf nm qual ars body scope dV kV dc pm an cdv ct), osl⟩) (hcd : PySem.W.codeIn K cdv qual = true) (SC : FnScope c.N ps scope)
    (sg : Sig (PySem.W.fnOf nm qual ars body scope dV kV dc pm an cdv ct) ps) (hck : body.all ((ck c 60).X scope scope) = true)
    (hlam : c.lam = true → ∃ cc tb, cdv = .ref cc ∧ LamX.TabB base mg cc tb ∧ (tb, (qual ++ ".<locals>.") ++ "<lambda>") ∈ T ∧ ∀ p ∈ T, p.1 = tb → p.2 = (qual ++ ".<locals>.") ++ "<lambda>") (tab : ∀ x gv, glook x c.G = some gv → GTab P w K mg base cl T k x gv) : FnG P w K mg base cl T (k + 1) f ps (runB c ps.length body) := by
  refine ⟨_, sg, fun A outer s H args us vs Q E ds g st hgd hr ev0 hbind rel hlen ab ht rep po => ?_⟩
  have inK : K.In s.heap := ev0.mod.kin.keeps fun b o q => (ev0.bs b o q).1
  have noLim : s.heap.NoLimit := ev0.mod.nolimit.keeps fun b o q => (ev0.bs b o q).1
  have kinds : ∀ y ∈ ps.zip us, scope.names.lookup y.1 = some .local ∨ (scope.names.lookup y.1 = some .cell ∧ ((cellsFrom (s.heap.objs.size + 1) scope.names []).lookup y.1).isSome = true) := fun y hy => by
    obtain ⟨x, u⟩ := y
    rcases SC.par x (List.of_mem_zip hy).1 with z | z
    · exact .inl z
    · exact .inr ⟨z, PySem.W.cellsFrom_some _ _ _ (.inl z)⟩
  refine codeAny_call_function hr.depth (inK _ _ lk) rfl SC.co SC.gen rfl (PySem.W.codeRec_of inK hcd) (hbind _ _ _ _ (wpAny_newFunctionEnv_cells SC.kind kinds fun ez hez s1 inC => ?_))
  subst hez
  refine ⟨noLim.keeps inC.toInCall.keep, codeAny_func ?_⟩
  have room := hr.deeper (envOfC qual scope s.heap.objs.size f cdv)
  have I0 : Inv (cxOf (L2.CX P w) P w K mg base c.N qual scope f cdv A outer s H E) [] (L2.start c.N vs) H s1 := inv_start SC hr.hd ev0 hlen rel inC
  have tk : L2.Takes (cxOf (L2.CX P w) P w K mg base c.N qual scope f cdv A outer s H E) (fun cls d _ H => E cls d H) := L2.takes_of rfl rfl rfl rfl
  have G : GoodS (cxOf (L2.CX P w) P w K mg base c.N qual scope f cdv A outer s H E) ⟨K, cl, E, fun _ => True, T⟩ c scope scope :=
    { hK := rfl
      hN := rfl
      nd := SC.nd
      calm := rfl
      un := by
        have q := room.un
        show (A.deeper _).units + 80 < cLine
        omega
      dp := by
        have q := room.dp
        show (A.deeper _).depth + 4 < recursionLimit
        omega
      lam := hlam
      gd := by
        show (A.deeper _).guards = some []
        first
          | exact hgd
          | simpa [Around.deeper] using hgd
      sc := rfl
      asg := fun x hx => by
        refine ⟨?_, .inl rfl⟩
        show Loc scope x
        unfold asgC at hx
        cases q : scope.names.lookup x with
        | none => rw [q] at hx; cases hx
        | some kd =>
          rw [q] at hx
          cases kd with
          | «local» => exact .inl q
          | cell => exact .inr q
          | _ => cases hx
      pass := fun pins σ H' s' e s'' _ I h => L2.passes_call tk (fun _ _ _ _ z => z) pins σ H' s' e s'' I h
      tab := fun x gv hx => by
        have q := tab x gv hx
        cases gv with
        | fn ps F =>
          obtain ⟨f', h1, h2, h3⟩ := q
          exact ⟨f', k, h1, h2, h3, room⟩
        | _ => exact q
      hI := fun _ _ _ _ => trivial
      own := L2.passes_of rfl }
  have body_ok := body_of (snd_ev c 60) G hck
  have fit : tRS ⟨K, cl, E, fun _ => True, T⟩ (evBlk (ev c 60).X body) { nx := fun _ H' => Q .non H', rt := Q } (L2.start c.N vs) H := ⟨_, g, st, ab, env_start (P := ⟨K, cl, E, fun _ => True, T⟩) trivial ht rep, run_post (P := ⟨K, cl, E, fun _ => True, T⟩) ab po⟩
  refine wpAny_mono (body_ok.run [] s1 (L2.start c.N vs) H _ I0 fit) (fun fl s2 h2 => ?_) fun e s2 h2 => h2
  have close : ∀ {σ' : L2.St} {H' : Hp} {v : V} {u : Value}, Inv (cxOf (L2.CX P w) P w K mg base c.N qual scope f cdv A outer s H E) [] σ' H' s2 → RelV v u → Q v H' → CE outer P w H s Q u s2 :=
    fun {σ' H' v u} J rv q => ⟨v, H', J.os, J.bare, J.base, J.hok, rv, q⟩
  match fl, h2 with
  | .ret u, h2 =>
    obtain ⟨v, σ', H', J, rv, q⟩ := h2
    exact close J rv q
  | .next, h2 =>
    obtain ⟨σ', H', J, q⟩ := h2
    exact close (v := V.non) (u := Value.none) J rfl q
  | .brk, h2 =>
    obtain ⟨_, _, _, q⟩ := h2
    exact q.elim
  | .cont, h2 =>
    obtain ⟨_, _, _, q⟩ := h2
    exact q.elim
end DL
set_option Elab.async false
set_option linter.all false
set_option maxRecDepth 100000
set_option maxHeartbeats 4000000
/-! The data layer, part 24: a law's end. -/
namespace DL
open PySem PySem.Spec PyProof.Rows L2
/-- code objects, their tables, the names that the tables tell -/
abbrev Tabl := List (Addr × Addr × Str)
def tabPairs (cs : Tabl) : List (Addr × Str) := cs.map (·.2)
/-- the tables stand empty, outside of the written part -/
structure TabOk (K : PySem.W.Frag) (h : Heap) (cs : Tabl) : Prop where
  emp : ∀ p ∈ cs, h.get? p.2.1 = some { cls := .none, data := .fields #[] }
  out : ∀ p ∈ cs, K.lookup p.2.1 = none
  code : ∀ p ∈ cs, PySem.W.CodeHd h p.1 p.2.1
/-- what is tracked at the law's entry: the script (where the written part does not hold it), the tables -/
def lawH (K : PySem.W.Frag) (cs : Tabl) (a : Addr) (vs : List Value) (ns : List Int) : Hp := fun b =>
  if b = a then (match K.lookup a with
    | some _ => none
    | none => some (.frz { cls := .type "list", data := .seq vs.toArray } (.lst (ns.map V.int))))
  else if b ∈ cs.map (·.2.1) then some (.tbl #[]) else none
def lawZ (K : PySem.W.Frag) (a : Addr) (vs : List Value) (ns : List Int) : Hp := fun b =>
  if b = a then (match K.lookup a with
    | some _ => none
    | none => some (.frz { cls := .type "list", data := .seq vs.toArray } (.lst (ns.map V.int))))
  else none
section
variable {P : Program} {w : World} {K : PySem.W.Frag} {cs : Tabl} {a : Addr} {vs : List Value} {ns : List Int} {s1 : Shared}
theorem tab_ne (T : TabOk K s1.heap cs) (ha : s1.heap.get? a = some { cls := .type "list", data := .seq vs.toArray }) : a ∉ cs.map (·.2.1) := fun z => by
  obtain ⟨p, hp, e⟩ := List.mem_map.mp z
  have q := T.emp p hp
  rw [show p.2.1 = a from e, ha] at q
  have q2 : Data.seq vs.toArray _ = Data.fields #[] := congrArg Obj.data (Option.some.inj q)
  cases q2
theorem lawH_tab (T : TabOk K s1.heap cs) (ha : s1.heap.get? a = some { cls := .type "list", data := .seq vs.toArray }) {b : Addr} (hb : b ∈ cs.map (·.2.1)) : lawH K cs a vs ns b = some (.tbl #[]) := by
  have ne : b ≠ a := fun e => tab_ne T ha (by rw [← e]; exact hb)
  unfold lawH
  rw [if_neg ne, if_pos hb]
theorem lawH_cases (b : Addr) : lawH K cs a vs ns b = none ∨ (b = a ∧ K.lookup a = none ∧ lawH K cs a vs ns b = some (.frz { cls := .type "list", data := .seq vs.toArray } (.lst (ns.map V.int)))) ∨ (b ≠ a ∧ b ∈ cs.map (·.2.1) ∧ lawH K cs a vs ns b = some (.tbl #[])) := by
  unfold lawH
  by_cases e : b = a
  · rw [if_pos e]
    cases q : K.lookup a with
    | some o => exact .inl rfl
    | none => exact .inr (.inl ⟨e, rfl, rfl⟩)
  · rw [if_neg e]
    by_cases m : b ∈ cs.map (·.2.1)
    · rw [if_pos m]
      exact .inr (.inr ⟨e, m, rfl⟩)
    · rw [if_neg m]
      exact .inl rfl
/-- THE END: the law's def, called with the script -/
theorem law_callG {mg mb : Str → Option Value} {cl : Str → Option Addr} {k : Nat} {fa : Addr} {x : Str} {F : Den} (inK : K.In s1.heap) (nsG : s1.heap.Ns mainGlobals mg) (nsB : s1.heap.Ns builtinsNs mb) (boot : ∀ x : Str, x ≠ "__name__" → mb x = bootBuiltins x) (noLim : s1.heap.NoLimit) (gens : s1.gens = #[])
    (T : TabOk K s1.heap cs) (bmain : ∃ (bm : Addr) (ob : Obj), mg "__builtins__" = some (.ref bm) ∧ bm ≠ builtinsNs ∧ s1.heap.get? bm = some ob ∧ ob.cls = .type "module" ∧ ob.dict = some builtinsNs ∧ ob.data = .plain)
    (ha : s1.heap.get? a = some { cls := .type "list", data := .seq vs.toArray }) (hints : IntsAre vs ns) (hlen : ns.length ≤ sizeLine) (hr : Room k callerA)
    (FG : ∀ base : Heap, K.In base → base.Ns mainGlobals mg → (∀ p ∈ cs, LamX.TabB base mg p.1 p.2.1) → FnG P w K mg base cl (tabPairs cs) k fa [x] F) (law : ∃ t, F [.fix (ns.map D.int)] ⟨[]⟩ = .ok (.bl true) t) :
    codeAny (model P w) callerA (.call (.ref fa) ⟨[.ref a], []⟩) (fun r s' => r = .ok (.ret (.bool true)) ∧ OldK s1.heap s'.heap ∧ s'.os = s1.os ∧ AllBare s'.gens) s1 := by
  have rv := vals_ints hints
  have lv := hints.length
  generalize hH : lawH K cs a vs ns = H
  have cases4 := fun b => lawH_cases (K := K) (cs := cs) (a := a) (vs := vs) (ns := ns) b
  rw [hH] at cases4
  have onTab : ∀ {b : Addr}, b ∈ cs.map (·.2.1) → H b = some (.tbl #[]) ∧ s1.heap.get? b = some { cls := .none, data := .fields #[] } := fun {b} hb => by
    refine ⟨by rw [← hH]; exact lawH_tab T ha hb, ?_⟩
    obtain ⟨p, hp, e⟩ := List.mem_map.mp hb
    rw [← e]
    exact T.emp p hp
  -- all that is neither a list nor an empty record is untracked
  have plain : ∀ {b : Addr} {o : Obj}, s1.heap.get? b = some o → (∀ xs n, o.data ≠ .seq xs n) → o.data ≠ .fields #[] → H b = none := fun {b o} e n1 n2 => by
    rcases cases4 b with z | ⟨rfl, _, _⟩ | ⟨_, m, _⟩
    · exact z
    · rw [ha] at e
      cases e
      exact (n1 _ _ rfl).elim
    · rw [(onTab m).2] at e
      cases e
      exact (n2 rfl).elim
  have nsKeep : ∀ {b : Addr} {m : Str → Option Value}, s1.heap.Ns b m → (hidT s1.heap H).Ns b m := fun {b m} ⟨o, es, ep, e, hd, r⟩ =>
    ⟨o, es, ep, hidT_get e (plain e (fun xs n z => by rw [hd] at z; cases z) fun z => by rw [hd] at z; cases z), hd, r⟩
  have inB : K.In (hidT s1.heap H) := fun b o e => hidT_get (inK b o e) (by
    rcases cases4 b with z | ⟨rfl, z, _⟩ | ⟨_, m, _⟩
    · exact z
    · rw [z] at e
      cases e
    · obtain ⟨p, hp, q⟩ := List.mem_map.mp m
      rw [← q, T.out p hp] at e
      cases e)
  have okH : HOk P w H s1.heap := fun b u e => by
    rcases cases4 b with z | ⟨rfl, _, z⟩ | ⟨_, m, z⟩
    · rw [z] at e
      cases e
    · rw [z] at e
      cases e
      exact ⟨ha, by rw [List.length_map]; exact hlen, vs, _, rv, ha⟩
    · rw [z] at e
      cases e
      exact (onTab m).2
  have modB : L2.Mod K mg (hidT s1.heap H) := ⟨inB, nsKeep nsG, ⟨mb, nsKeep nsB, boot⟩, by
    obtain ⟨mc, h1, h2⟩ := noLim
    exact ⟨mc, nsKeep h1, h2⟩⟩
  have tabB : ∀ p ∈ cs, LamX.TabB (hidT s1.heap H) mg p.1 p.2.1 := fun p hp => by
    have atP := T.emp p hp
    refine ⟨?_, ?_, fun z => ?_⟩
    · obtain ⟨o, us, file, tf, flags, tg, inF, text, tt, e1, r1, r2, r3, r4, r5, r6, r7, r8, hne⟩ := T.code p hp
      refine ⟨o, us, file, tf, flags, tg, inF, text, tt, hidT_get e1 (plain e1 (fun xs n z => by rw [r2] at z; cases z) fun z => ?_), r1, r2, r3, r4, r5, r6, r7, r8, hne⟩
      rw [r2] at z
      cases z
      simp at r3
    · obtain ⟨bm, ob, b1, b2, b3, b4, b5, b6⟩ := bmain
      have n1 : bm ≠ mainGlobals := fun q => by
        obtain ⟨o, es, ep, e, hd, _⟩ := nsG
        rw [q, e] at b3
        cases b3
        rw [hd] at b6
        cases b6
      have n2 : bm ≠ p.2.1 := fun q => by
        rw [q, atP] at b3
        cases b3
        cases b6
      exact ⟨bm, ob, b1, b2, n1, n2, hidT_get b3 (plain b3 (fun xs n z => by rw [b6] at z; cases z) fun z => by rw [b6] at z; cases z), b4, b5, b6⟩
    · obtain ⟨o, es, ep, e, hd, _⟩ := nsG
      rw [z, atP] at e
      cases e
      cases hd
  have ev0 : Env0 P w K mg (hidT s1.heap H) callerA [] s1 H := ⟨rfl, modB, fun b o e => of_hidT e, Nat.le_of_eq (hidT_size _ _), trivial, fun b hb => absurd (show b ∈ ([] : List Addr) from hb) (by simp), okH, .of_eq gens⟩
  obtain ⟨fd, sg, run⟩ := (FG _ inB (nsKeep nsG) tabB).run
  -- the trees at the entry
  have zLe : ∀ b u, lawZ K a vs ns b = some u → H b = some u ∧ NT u := fun b u e => by
    rw [← hH]
    unfold lawZ at e
    unfold lawH
    by_cases q : b = a
    · rw [if_pos q] at e ⊢
      cases z : K.lookup a with
      | some o => rw [z] at e; cases e
      | none =>
        rw [z] at e
        cases e
        exact ⟨rfl, fun _ y => by cases y⟩
    · rw [if_neg q] at e
      cases e
  have ab0 : AbsS K ⟨lawZ K a vs ns, fun _ => 0, tabPairs cs⟩ H ⟨[]⟩ := ⟨fun b u e => (zLe b u e).1, fun i mo e => (by cases e), fun i j hi _ _ => (by cases hi), fun p hp => by
      obtain ⟨q, hq, e⟩ := List.mem_map.mp hp
      rw [← e]
      exact LamX.TabS.nil (onTab (List.mem_map.mpr ⟨q, hq, rfl⟩)).1, fun b u e => (zLe b u e).2⟩
  have sq : SqL K (lawZ K a vs ns) a (ns.map V.int) := by
    cases z : K.lookup a with
    | some o =>
      have e := inK a o z
      rw [ha] at e
      cases e
      exact .inr ⟨_, vs.toArray, _, z, rfl, rfl, rfl, by rw [List.size_toArray, lv]; exact hlen, by simpa using rv⟩
    | none => exact .inl (.inr ⟨{ cls := .type "list", data := .seq vs.toArray }, by unfold lawZ; rw [if_pos rfl, z]⟩)
  have isRep : ∀ l : List Int, RepL K ⟨lawZ K a vs ns, fun _ => 0, tabPairs cs⟩ 0 (l.map V.int) (l.map D.int) := fun l => by
    induction l with
    | nil => exact .nil
    | cons i l ih => exact .cons (.int i) ih
  obtain ⟨t, hlaw⟩ := law
  have bound := bind_ok sg (us := [.ref a]) (ws := []) (es := []) (ks := []) rfl (by simp) List.nodup_nil (by simp) rfl
  refine codeAny_mono (run callerA [] s1 H ⟨[.ref a], []⟩ [.ref a] [.ref a] (fun v _ => v = .bl true) (fun _ _ _ => False) [.fix (ns.map D.int)] ⟨lawZ K a vs ns, fun _ => 0, tabPairs cs⟩ ⟨[]⟩ rfl hr ev0 (.of_eq bound) (.cons rfl .nil) rfl ab0 rfl (.cons (.fix sq (isRep ns)) .nil) ?_) fun r s' h => ?_
  · rw [hlaw]
    intro g' H' _ _ v hv
    cases hv
    rfl
  · match r, h with
    | .error e, h =>
      obtain ⟨_, _, _, _, _, _, _, _, _, _, _, _, z⟩ := h
      exact z.elim
    | .ok .next, h => exact False.elim h
    | .ok .brk, h => exact False.elim h
    | .ok .cont, h => exact False.elim h
    | .ok (.ret u), h =>
      obtain ⟨v, H', os, bare, un, okH', ru, q⟩ := h
      have q : v = .bl true := q
      subst q
      obtain rfl : u = Value.bool true := ru
      have same : ∀ b o, b ∉ cs.map (·.2.1) → s1.heap.get? b = some o → s'.heap.get? b = some o := fun b o nb e => by
        rcases cases4 b with z | ⟨_, _, z⟩ | ⟨_, m, _⟩
        · exact un.keep b o e z (fun y => absurd (show b ∈ ([] : List Addr) from y) (by simp)) (by simp)
        · obtain ⟨e1, _⟩ := okH b _ z
          obtain ⟨e2, _⟩ := okH' b _ (un.frzs b _ _ z)
          rw [e] at e1
          cases e1
          exact e2
        · exact absurd m nb
      have grown : ∀ b ∈ cs.map (·.2.1), ∃ more : Array Value, s'.heap.get? b = some { cls := .none, data := .fields more } := fun b hb => by
        obtain ⟨more, z⟩ := un.tbls b #[] (onTab hb).1
        exact ⟨_, okH' b _ z⟩
      refine ⟨rfl, ⟨fun b o e => ?_, fun b o e => ?_⟩, os, bare⟩
      · by_cases hb : b ∈ cs.map (·.2.1)
        · obtain ⟨more, hm⟩ := grown b hb
          have e2 := (onTab hb).2
          rw [e2] at e
          cases e
          obtain ⟨p, hp, ep⟩ := List.mem_map.mp hb
          have cd := T.code p hp
          rw [show p.2.1 = b from ep] at cd
          exact .inr (.inl ⟨(cd.tab e2).isCodeTable, rfl, #[], more, rfl, by rw [Array.empty_append]; exact hm⟩)
        · exact .inl (same b o hb e)
      · by_cases hb : b ∈ cs.map (·.2.1)
        · obtain ⟨more, hm⟩ := grown b hb
          exact ⟨_, hm⟩
        · exact ⟨o, same b o hb e⟩
end
/-- the goal that the head leaves -/
theorem walk_ofG {l : PySem.W.OpenLaw} {n k : Nat} {q : Program} {loose : List Str} {XP : (Str → Option Value) → Heap → Prop} {YP : World → Heap → Prop} {d : DefRec} {x : Str} {F : Den} (hn : l.most = some n) (hn2 : n ≤ sizeLine) (hdf : d.params.defaults = []) (hr : Room k callerA)
    (FG : ∀ (w : World) (mg : Str → Option Value) (fa : Addr) (h : Heap), YP w h → h.Ns mainGlobals mg → mg d.name = some (.ref fa) → ∃ (K : PySem.W.Frag) (cs : Tabl) (cl : Str → Option Addr), K.In h ∧ TabOk K h cs ∧
      ∀ base : Heap, K.In base → base.Ns mainGlobals mg → (∀ p ∈ cs, LamX.TabB base mg p.1 p.2.1) → FnG l.prog w K mg base cl (tabPairs cs) k fa [x] F)
    (law : ∀ ns : List Int, ns.length ≤ n → (∀ z ∈ ns, Builtin.Int.intBits z ≤ 1048576) → ∃ t, F [.fix (ns.map D.int)] ⟨[]⟩ = .ok (.bl true) t) :
    PySem.W.WalkO q loose XP YP l.row.toRowW d [] (fun f vs => PySem.call f vs) := by
  refine Att.attach_callB hn hdf fun w s₀ s₁ mg mb fa o pm cd doc a vs ns G Y ho hd hcd hmg hobj hints hlen hbits hg => ?_
  obtain ⟨K, cs, cl, inK, T, hF⟩ := FG w mg fa _ Y G.T.g hmg
  exact law_callG inK G.T.g G.T.b G.T.builtins G.T.nolimit hg T G.T.bmain hobj hints (Nat.le_trans hlen hn2) hr hF (law ns hlen hbits)
end DL
set_option Elab.async false
set_option linter.all false
set_option maxRecDepth 100000
set_option maxHeartbeats 4000000
/-! The data layer, part 25: tables of defs from the head's facts. -/
namespace DL
open PySem PySem.Spec PyProof.Rows L2
section
variable {P : Program} {w : World} {K : PySem.W.Frag} {mg : Str → Option Value} {base h : Heap} {cl : Str → Option Addr} {T : List (Addr × Str)} {k : Nat}
/-- each name of a table is there -/
inductive GAll (P : Program) (w : World) (K : PySem.W.Frag) (mg : Str → Option Value) (base : Heap) (cl : Str → Option Addr) (T : List (Addr × Str)) (k : Nat) : GEnv → Prop
  | nil : GAll P w K mg base cl T k []
  | cons {x : Str} {gv : GV} {r : GEnv} : GTab P w K mg base cl T k x gv → GAll P w K mg base cl T k r → GAll P w K mg base cl T k ((x, gv) :: r)
theorem GAll.look : ∀ {G : GEnv}, GAll P w K mg base cl T k G → ∀ x gv, glook x G = some gv → GTab P w K mg base cl T k x gv
  | _, .nil, _, _, h => by cases h
  | _, .cons (x := y) (gv := g) (r := r) a b, x, gv, h => by
    unfold glook at h
    by_cases e : y = x
    · rw [if_pos e] at h
      cases h
      rw [← e]
      exact a
    · rw [if_neg e] at h
      exact b.look x gv h
/-- a def, at a level -/
theorem g_fn {x : Str} {j : Nat} {ps : List Str} {F : Den} (m : mg x = some (.ref (He.ga K x))) (kp : PySem.W.keepIn K (.ref (He.ga K x)) = true) (FG : FnG P w K mg base cl T j (He.ga K x) ps F) (hj : j ≤ k) : GTab P w K mg base cl T k x (.fn ps F) := ⟨_, m, kp, FG.mono hj⟩
theorem g_bt {x : Str} {b : Bt} (m : mg x = none) : GTab P w K mg base cl T k x (.bt b) := fun _ => m
theorem g_int {x : Str} {i : Int} (m : ∃ t, mg x = some (.int i t)) : GTab P w K mg base cl T k x (.int i) := by
  obtain ⟨t, e⟩ := m
  exact ⟨_, e, t, rfl⟩
theorem g_str {x y : Str} (m : ∃ t, mg x = some (.str y t)) : GTab P w K mg base cl T k x (.str y) := by
  obtain ⟨t, e⟩ := m
  exact ⟨_, e, t, rfl⟩
theorem g_cls {x y : Str} : GTab P w K mg base cl T k x (.cls y) := trivial
/-- parameters without anything special -/
def plainPs (ar : Arguments) (ps : List Str) : Bool := (match ar.posonlyargs, ar.kwonlyargs, ar.vararg, ar.kwarg with
  | [], [], none, none => true
  | _, _, _, _ => false) && decide (ar.args.map (·.arg) = ps) && decide ps.Nodup
theorem fnG_fun {c : Cfg} {x : Str} {ar : Arguments} {body : List Stmt} {scope : Scope} {fd : FuncData} {ps : List Str} (FD : FunD K x x ar body scope [] [] (He.ga K x) fd) (SC : FnScope c.N ps scope) (hp : plainPs ar ps = true) (hck : body.all ((ck c 60).X scope scope) = true)
    (hlam : c.lam = true → LamX.TabB base mg (He.cT K (x, none)).1 (He.cT K (x, none)).2 ∧ ((He.cT K (x, none)).2, (x ++ ".<locals>.") ++ "<lambda>") ∈ T ∧ ∀ p ∈ T, p.1 = (He.cT K (x, none)).2 → p.2 = (x ++ ".<locals>.") ++ "<lambda>")
    (tab : GAll P w K mg base cl T k c.G) : FnG P w K mg base cl T (k + 1) (He.ga K x) ps (runB c ps.length body) := by
  obtain ⟨oc, od, dV, kV, dc, pm, an, cdv, ct, osl, rfl, lk, hcd, hD, hK⟩ := FD.ex
  rcases hD with ⟨_, rfl⟩ | ⟨e, _⟩
  · unfold plainPs at hp
    simp only [Bool.and_eq_true, decide_eq_true_eq] at hp
    obtain ⟨⟨h1, h2⟩, h3⟩ := hp
    split at h1
    · rename_i e1 e2 e3 e4
      refine fnG_of lk hcd SC ⟨e1, h2, e2, e3, e4, rfl, h3⟩ hck (fun hl => ?_) tab.look
      obtain ⟨c0, e⟩ := He.codeIn_ref hcd
      have q : He.codeOf K (x, none) = c0 := He.codeOf_eq lk e
      obtain ⟨t1, t2, t3⟩ := hlam hl
      exact ⟨(He.cT K (x, none)).1, (He.cT K (x, none)).2, by rw [e]; exact congrArg Value.ref q.symm, t1, t2, t3⟩
    · cases h1
  · exact absurd rfl e
end
end DL
set_option Elab.async false
set_option linter.all false
set_option maxRecDepth 100000
set_option maxHeartbeats 4000000
/-! The data layer, part 26: words for runs over slots. -/
namespace DL
open PySem
def gv (i : Nat) (ρ : Rho) (s : S) : Res D := match rget ρ i with
  | some d => .ok d s
  | none => .stuck
def andD (a : Res D) (k : S → Res D) : Res D := a.bind fun d s => match d with
  | .bl true => k s
  | .bl false => .ok (.bl false) s
  | _ => .stuck
def orD (a : Res D) (k : S → Res D) : Res D := a.bind fun d s => match d with
  | .bl true => .ok (.bl true) s
  | .bl false => k s
  | _ => .stuck
def andT (a : Res Bool) (k : S → Res Bool) : Res Bool := a.bind fun b s => match b with
  | true => k s
  | false => .ok false s
def orT (a : Res Bool) (k : S → Res Bool) : Res Bool := a.bind fun b s => match b with
  | true => .ok true s
  | false => k s
def iteR {α : Type} (t : Res Bool) (a b : S → Res α) : Res α := t.bind fun q s => match q with
  | true => a s
  | false => b s
def nilA (s : S) : Res (List D) := .ok [] s
def consA (a : Res D) (r : S → Res (List D)) : Res (List D) := a.bind fun d s => (r s).bind fun ds s => .ok (d :: ds) s
def bin (op : Operator) (a : Res D) (b : S → Res D) : Res D := a.bind fun x s => (b s).bind fun y s => binop op x y s
def cmpA (op : CmpOp) (a : Res D) (b : S → Res D) : Res D := a.bind fun x s => (b s).bind fun y s => cmpop op x y s
def cmpB (op op' : CmpOp) (a : Res D) (b c : S → Res D) : Res D := a.bind fun x s => (b s).bind fun y s => (cmpop op x y s).bind fun z s => match z with
  | .bl k => (match k with
    | true => (c s).bind fun w s => cmpop op' y w s
    | false => .ok (.bl false) s)
  | _ => .stuck
def tupR (r : Res (List D)) : Res D := r.bind fun ds s => .ok (.tup ds) s
def callD (n : Nat) (F : Den) (r : Res (List D)) : Res D := r.bind fun ds s => if ds.length = n then F ds s else .stuck
def callK (ps ks : List Str) (F : Den) (r : Res (List D)) (r2 : S → Res (List D)) : Res D := r.bind fun ds s => (r2 s).bind fun es s => match kwPick (ks.zip es) (ps.drop ds.length) with
  | some fs => if ds.length + ks.length = ps.length ∧ ks.Nodup ∧ ∀ k ∈ ks, k ∈ ps.drop ds.length then F (ds ++ fs) s else .stuck
  | none => .stuck
def btR (b : Bt) (r : Res (List D)) : Res D := r.bind fun ds s => callB b ds s
def bt1 (b : Bt) (r : Res D) : Res D := r.bind fun d s => callB b [d] s
def isiR (t : Bt) (r : Res D) : Res D := r.bind fun d s => if typed d s = true then .ok (.bl (isT t d)) s else .stuck
def isiRs (ts : List Bt) (r : Res D) : Res D := r.bind fun d s => if typed d s = true then .ok (.bl (ts.any fun t => isT t d)) s else .stuck
def rng1 (a : Res D) : Res (Int × Int) := a.bind fun x s => match x with
  | .int j => .ok (0, j) s
  | _ => .stuck
def rng2 (a : Res D) (b : S → Res D) : Res (Int × Int) := a.bind fun x s => (b s).bind fun y s => match x, y with
  | .int i, .int j => .ok (i, j) s
  | _, _ => .stuck
def rngL (r : Res (Int × Int)) : Res (List D) := r.bind fun r s => if rngOk r.1 = true ∧ rngOk r.2 = true ∧ (r.2 - r.1).toNat ≤ line then .ok (rangeI r.1 r.2) s else .stuck
def rngI (r : Res (Int × Int)) : Res Itm := r.bind fun r s => if rngOk r.1 = true ∧ rngOk r.2 = true then .ok ⟨rangeI r.1 r.2, []⟩ s else .stuck
def seqI (r : Res D) : Res Itm := r.bind fun d s => match seqOf s d with
  | some ds => .ok ⟨ds, srcOf d ds⟩ s
  | none => .stuck
def zipI (a : Res D) (b : S → Res D) : Res Itm := a.bind fun x s => (b s).bind fun y s => match seqOf s x, seqOf s y with
  | some xs, some ys => if kindL x = kindL y then .ok ⟨zip2 xs ys, srcOf x xs ++ srcOf y ys⟩ s else .stuck
  | _, _ => .stuck
def enumI (a : Res D) : Res Itm := a.bind fun x s => match seqOf s x with
  | some xs => .ok ⟨enumF 0 xs, srcOf x xs⟩ s
  | none => .stuck
def ixR (a : Res D) (b : S → Res D) : Res D := a.bind fun x s => (b s).bind fun y s => getD x y s
def optR (r : Res D) : Res (Option Int) := r.bind fun d s => match d with
  | .int i => .ok (some i) s
  | _ => .stuck
def nopt (s : S) : Res (Option Int) := .ok none s
def cutR (a : Res D) (i j : S → Res (Option Int)) : Res D := a.bind fun x s => (i s).bind fun i s => (j s).bind fun j s => cutD x i j s
def negR (a : Res D) : Res D := a.bind fun x s => negD x s
def notR (a : Res D) : Res D := a.bind fun x s => (evTruth x s).bind fun b s => .ok (.bl !b) s
def notT (a : Res Bool) : Res Bool := a.bind fun b s => .ok (!b) s
/-- a comprehension -/
noncomputable def compR (i : Res Itm) (step : D → S → Res (Option D)) : Res (List D) := i.bind fun t s => (compL step t.src t.items s).calm.bind fun ds s => if t.items.length ≤ line then .ok ds s else .stuck
def stepR (o : Option Rho) (t : Rho → S → Res Bool) (e : Rho → S → Res D) (s : S) : Res (Option D) := match o with
  | none => .stuck
  | some ρ => (t ρ s).bind fun b s => match b with
    | true => (e ρ s).bind fun y s => .ok (some y) s
    | false => .ok none s
def yes (_ : Rho) (s : S) : Res Bool := .ok true s
def mulR (a : Res D) (b : S → Res D) : Res (List D) := a.bind fun x s => (b s).bind fun y s => mulN x y s
def addR (a : Res D) (b : S → Res D) : Res (List D) := a.bind fun x s => (b s).bind fun y s => addN x y s
def keyR (a : Res D) : Res (List D) := a.bind fun d s => sortedKN d s
def list1 (a : Res D) : Res (List D) := a.bind fun d s => listN [d] s
def sort1 (a : Res D) : Res (List D) := a.bind fun d s => sortedN [d] s
def thawR (r : Res (List D)) : Res D := r.bind thaw
/-! ### statements -/
def sq (x : Res Fl) (k : Rho → S → Res Fl) : Res Fl := x.bind fun f s => match f with
  | .nx ρ => k ρ s
  | f => .ok f s
def nxR (r : Res Rho) : Res Fl := r.bind fun ρ s => .ok (.nx ρ) s
def asg (i : Nat) (ρ : Rho) (r : Res D) : Res Fl := nxR (r.bind fun d s => .ok (ρ.set i (some d)) s)
def par (is : List Nat) (ρ : Rho) (r : Res (List D)) : Res Fl := nxR (r.bind fun ds s => match setIs is ds ρ with
  | some ρ => .ok ρ s
  | none => .stuck)
def asgFs : List (D → Rho → S → Res Rho) → List D → Rho → S → Res Rho
  | [], [], ρ, s => .ok ρ s
  | t :: ts, d :: ds, ρ, s => (t d ρ s).bind fun ρ s => asgFs ts ds ρ s
  | _, _, _, _ => .stuck
def tgN (i : Nat) (d : D) (ρ : Rho) (s : S) : Res Rho := .ok (ρ.set i (some d)) s
def tgS (o i : Rho → S → Res D) (d : D) (ρ : Rho) (s : S) : Res Rho := (o ρ s).bind fun x s => (i ρ s).bind fun y s => (setD x y d s).bind fun _ s => .ok ρ s
def asgU (ts : List (D → Rho → S → Res Rho)) (n : Nat) (ρ : Rho) (r : Res D) : Res Fl := nxR (r.bind fun d s => match d with
  | .tup ds => if ds.length = n then asgFs ts ds ρ s else .stuck
  | _ => .stuck)
def asg1 (t : D → Rho → S → Res Rho) (ρ : Rho) (r : Res D) : Res Fl := nxR (r.bind fun d s => t d ρ s)
def recvR (f : D → D → S → Res Unit) (o : Res D) (a : S → Res D) (ρ : Rho) : Res Fl := (o.bind fun x s => match lstOf s x with
  | some _ => (a s).bind fun d s => f x d s
  | none => .stuck).bind fun _ s => .ok (.nx ρ) s
def doR (r : Res D) (ρ : Rho) : Res Fl := (r.bind fun _ s => .ok () s).bind fun _ s => .ok (.nx ρ) s
noncomputable def forR (ρ : Rho) (i : Res Itm) (o : D → Rho → Option Rho) (b : Rho → S → Res Fl) : Res Fl := i.bind fun t s => forL (fun d ρ s => match o d ρ with
  | some ρ => b ρ s
  | none => .stuck) t.src t.items ρ s
def toN (i : Nat) (d : D) (ρ : Rho) : Option Rho := some (ρ.set i (some d))
def augR (op : D → D → S → Res D) (i : Nat) (ρ : Rho) (e : S → Res D) (s : S) : Res Fl := match rget ρ i with
  | some (.int n) => (e s).bind fun y s => (op (.int n) y s).bind fun z s => .ok (.nx (ρ.set i (some z))) s
  | _ => .stuck
def retR (r : Res D) : Res Fl := r.bind fun d s => match frzR d s with
  | some (d, s) => .ok (.rt d) s
  | none => .stuck
def retK (r : Res D) : Res Fl := r.bind fun d s => .ok (.rt d) s
end DL
set_option Elab.async false
set_option linter.all false
set_option maxRecDepth 100000
set_option maxHeartbeats 4000000
/-! Runs in plain Lean, part 1: a def by its slots, pure walks. -/
namespace DL
open PySem
/-- a def's end -/
noncomputable def fin (keep : Bool) (s : S) (f : Fl) (s' : S) : Res D := match f with
  | .rt d => .ok d (match keep with
    | true => s'
    | false => back s d s')
  | .nx _ => .ok .non (back s .non s')
  | _ => .stuck
theorem runB_eq {c : Cfg} {np : Nat} {b : List Stmt} {B : Rho → S → Res Fl} (h : ∀ ρ s, evBlk (ev c 60).X b ρ s = B ρ s) (ds : List D) (s : S) (hl : ds.length = np) : runB c np b ds s = (B (ds.map some ++ List.replicate (c.N.length - ds.length) none) s).bind (fin c.keep s) := by
  unfold runB
  rw [if_pos hl, h]
  rfl
/-! ### the store comes back -/
theorem cells_eq {s s' : S} (h : s'.size = s.size) (g : ∀ i, i < s.size → s'.get i = s.get i) : s' = s := by
  obtain ⟨cs⟩ := s
  obtain ⟨cs'⟩ := s'
  have h : cs'.length = cs.length := h
  congr 1
  refine List.ext_getElem? fun i => ?_
  by_cases hi : i < cs.length
  · have q := g i hi
    unfold S.get at q
    have hi2 : i < cs'.length := by rw [h]; exact hi
    have e1 : cs[i]? = some cs[i] := List.getElem?_eq_getElem hi
    have e2 : cs'[i]? = some cs'[i] := List.getElem?_eq_getElem hi2
    dsimp only at q
    rw [e1, e2] at q
    rw [e1, e2]
    exact congrArg some q
  · rw [List.getElem?_eq_none (by omega), List.getElem?_eq_none (by omega)]
/-- what was there is still so -/
structure Kept (s s' : S) : Prop where
  le : s.size ≤ s'.size
  at_ : ∀ i, i < s.size → s'.get i = s.get i
theorem Kept.refl (s : S) : Kept s s := ⟨Nat.le_refl _, fun _ _ => rfl⟩
theorem Kept.trans {a b c : S} (h : Kept a b) (k : Kept b c) : Kept a c := ⟨Nat.le_trans h.le k.le, fun i hi => (k.at_ i (Nat.lt_of_lt_of_le hi h.le)).trans (h.at_ i hi)⟩
theorem Kept.push {s s' : S} (h : Kept s s') (o : MO) : Kept s (s'.push o) := ⟨by rw [S.size_push]; exact Nat.le_succ_of_le h.le, fun i hi => by
  rw [S.get_push, if_neg (Nat.ne_of_lt (Nat.lt_of_lt_of_le hi h.le))]
  exact h.at_ i hi⟩
theorem Kept.put {s s' : S} (h : Kept s s') {k : Nat} (hk : s.size ≤ k) (hl : k < s'.size) (o : MO) : Kept s (s'.put k o) := ⟨by rw [S.size_put]; exact h.le, fun i hi => by
  rw [S.get_put _ _ _ _ hl, if_neg (Nat.ne_of_lt (Nat.lt_of_lt_of_le hi hk))]
  exact h.at_ i hi⟩
theorem Kept.kill {s s' : S} (h : Kept s s') {k : Nat} (hk : s.size ≤ k) : Kept s (s'.kill k) := ⟨by rw [S.size_kill]; exact h.le, fun i hi => by
  rw [S.get_kill, if_neg (Nat.ne_of_lt (Nat.lt_of_lt_of_le hi hk))]
  exact h.at_ i hi⟩
theorem back_kept {s s' : S} {d : D} (h : Kept s s') (hd : d.plain = true) : back s d s' = s := by
  unfold back
  rw [if_pos ⟨hd, fun i hi => .inl (h.at_ i hi)⟩]
  have sz : (S.mk (s'.cells.take s.size)).size = s.size := by
    show (s'.cells.take s.size).length = s.size
    rw [List.length_take]
    exact Nat.min_eq_left h.le
  refine cells_eq sz fun i hi => ?_
  rw [get_take, if_pos hi]
  exact h.at_ i hi
theorem fin_rt {s s' : S} {d : D} (h : Kept s s') (hd : d.plain = true) : fin false s (.rt d) s' = .ok d s := by
  unfold fin
  dsimp only
  rw [back_kept h hd]
theorem fin_nx {s s' : S} {ρ : Rho} {k : Bool} (h : Kept s s') : fin k s (.nx ρ) s' = .ok .non s := by
  unfold fin
  dsimp only
  rw [back_kept h rfl]
theorem retR_plain {d : D} {s : S} (h : d.plain = true) : retR (.ok d s) = .ok (.rt d) s := by
  unfold retR
  rw [Res.bind_ok]
  unfold frzR
  rw [h]
/-! ### walks that leave the store as it is -/
@[simp] theorem still_nil (s : S) : still [] s = true := rfl
theorem compL_pure {step : D → S → Res (Option D)} {src : List (Nat × List D)} {s : S} (hs : still src s = true) {f : D → Option D} : ∀ {items : List D}, (∀ d ∈ items, step d s = .ok (f d) s) → compL step src items s = .ok (items.filterMap f) s
  | [], _ => by
    unfold compL
    rw [if_pos hs]
    rfl
  | d :: r, h => by
    unfold compL
    rw [if_pos hs, h d (List.mem_cons_self ..), Res.bind_ok, compL_pure hs fun x hx => h x (List.mem_cons_of_mem _ hx), Res.bind_ok, List.filterMap_cons]
    cases f d <;> rfl
theorem compR_pure {step : D → S → Res (Option D)} {src : List (Nat × List D)} {items : List D} {s : S} {f : D → Option D} (hs : still src s = true) (hl : items.length ≤ line) (h : ∀ d ∈ items, step d s = .ok (f d) s) : compR (.ok ⟨items, src⟩ s) step = .ok (items.filterMap f) s := by
  unfold compR
  rw [Res.bind_ok]
  dsimp only
  rw [compL_pure hs h]
  show (if items.length ≤ line then .ok (items.filterMap f) s else (.stuck : Res (List D))) = _
  rw [if_pos hl]
/-- a loop by its invariant: J, what holds of the slots and the store ahead of the item at i -/
theorem forL_inv {step : D → Rho → S → Res Fl} {src : List (Nat × List D)} {J : List D → Rho → S → Prop} {R : Res Fl → Prop}
    (nil : ∀ ρ s, J [] ρ s → still src s = true ∧ R (.ok (.nx ρ) s))
    (cons : ∀ d r ρ s, J (d :: r) ρ s → still src s = true ∧ ((∃ ρ' s', (step d ρ s = .ok (.nx ρ') s' ∨ step d ρ s = .ok (.ct ρ') s') ∧ J r ρ' s') ∨ (∃ ρ' s', step d ρ s = .ok (.bk ρ') s' ∧ R (.ok (.nx ρ') s')) ∨ ∃ x s', step d ρ s = .ok (.rt x) s' ∧ R (.ok (.rt x) s'))) :
    ∀ (items : List D) (ρ : Rho) (s : S), J items ρ s → R (forL step src items ρ s)
  | [], ρ, s, j => by
    obtain ⟨h1, h2⟩ := nil ρ s j
    unfold forL
    rw [if_pos h1]
    exact h2
  | d :: r, ρ, s, j => by
    obtain ⟨h1, h2⟩ := cons d r ρ s j
    unfold forL
    rw [if_pos h1]
    rcases h2 with ⟨ρ', s', h | h, j'⟩ | ⟨ρ', s', h, hr⟩ | ⟨x, s', h, hr⟩
    · rw [h, Res.bind_ok]
      exact forL_inv nil cons r ρ' s' j'
    · rw [h, Res.bind_ok]
      exact forL_inv nil cons r ρ' s' j'
    · rw [h, Res.bind_ok]
      exact hr
    · rw [h, Res.bind_ok]
      exact hr
end DL
set_option Elab.async false
set_option linter.all false
set_option maxRecDepth 100000
set_option maxHeartbeats 4000000
/-! Runs in plain Lean, part 2: the words where all is well. -/
namespace DL
open PySem
section
variable {s : S} {ρ : Rho} {i n : Nat} {d x y z : D} {o : Option D} {a b c : Int} {p q : Bool} {u v : Str} {xs ys : List D} {ds es : List D} {α β : Type}
@[simp] theorem gv_0 : gv 0 (some d :: ρ) s = .ok d s := Eq.trans rfl rfl
@[simp] theorem gv_s : gv (i + 1) (o :: ρ) s = gv i ρ s := Eq.trans rfl rfl
@[simp] theorem wipeR_nil : wipeR ρ [] = ρ := Eq.trans rfl rfl
@[simp] theorem wipeR_cons {vs : List Nat} : wipeR ρ (i :: vs) = (wipeR ρ vs).set i none := Eq.trans rfl rfl
@[simp] theorem toN_eq : toN i d ρ = some (ρ.set i (some d)) := Eq.trans rfl rfl
@[simp] theorem bindTup_eq {is : List Nat} : bindTup is (.tup ds) ρ = setIs is ds ρ := Eq.trans rfl rfl
@[simp] theorem bindTup_lst {is : List Nat} : bindTup is (.lst ds) ρ = setIs is ds ρ := Eq.trans rfl rfl
@[simp] theorem setIs_nil : setIs [] [] ρ = some ρ := Eq.trans rfl rfl
@[simp] theorem setIs_cons {is : List Nat} : setIs (i :: is) (d :: ds) ρ = setIs is ds (ρ.set i (some d)) := Eq.trans rfl rfl
@[simp] theorem nilA_eq : nilA s = .ok [] s := Eq.trans rfl rfl
@[simp] theorem consA_ok {r : S → Res (List D)} : consA (.ok d s) r = (r s).bind fun ds s => .ok (d :: ds) s := Eq.trans rfl rfl
@[simp] theorem tupR_ok : tupR (.ok ds s) = .ok (.tup ds) s := Eq.trans rfl rfl
@[simp] theorem asLst_ok : asLst (.ok ds s) = .ok (.lst ds) s := Eq.trans rfl rfl
@[simp] theorem bin_ok {op : Operator} {f : S → Res D} : bin op (.ok x s) f = (f s).bind fun y s => binop op x y s := Eq.trans rfl rfl
@[simp] theorem cmpA_ok {op : CmpOp} {f : S → Res D} : cmpA op (.ok x s) f = (f s).bind fun y s => cmpop op x y s := Eq.trans rfl rfl
@[simp] theorem cmpB_ok {op op' : CmpOp} {f g : S → Res D} : cmpB op op' (.ok x s) f g = (f s).bind fun y s => (cmpop op x y s).bind fun z s => match z with
  | .bl k => (match k with
    | true => (g s).bind fun w s => cmpop op' y w s
    | false => .ok (.bl false) s)
  | _ => .stuck := Eq.trans rfl rfl
@[simp] theorem andD_t {k : S → Res D} : andD (.ok (.bl true) s) k = k s := Eq.trans rfl rfl
@[simp] theorem andD_f {k : S → Res D} : andD (.ok (.bl false) s) k = .ok (.bl false) s := Eq.trans rfl rfl
@[simp] theorem orD_t {k : S → Res D} : orD (.ok (.bl true) s) k = .ok (.bl true) s := Eq.trans rfl rfl
@[simp] theorem orD_f {k : S → Res D} : orD (.ok (.bl false) s) k = k s := Eq.trans rfl rfl
@[simp] theorem andT_t {k : S → Res Bool} : andT (.ok true s) k = k s := Eq.trans rfl rfl
@[simp] theorem andT_f {k : S → Res Bool} : andT (.ok false s) k = .ok false s := Eq.trans rfl rfl
@[simp] theorem orT_t {k : S → Res Bool} : orT (.ok true s) k = .ok true s := Eq.trans rfl rfl
@[simp] theorem orT_f {k : S → Res Bool} : orT (.ok false s) k = k s := Eq.trans rfl rfl
@[simp] theorem iteR_t {k l : S → Res α} : iteR (.ok true s) k l = k s := Eq.trans rfl rfl
@[simp] theorem iteR_f {k l : S → Res α} : iteR (.ok false s) k l = l s := Eq.trans rfl rfl
theorem iteR_ok {k l : S → Res α} : iteR (.ok p s) k l = if p = true then k s else l s := by cases p <;> rfl
@[simp] theorem callD_ok {F : Den} : callD n F (.ok ds s) = if ds.length = n then F ds s else .stuck := Eq.trans rfl rfl
@[simp] theorem btR_ok {t : Bt} : btR t (.ok ds s) = callB t ds s := Eq.trans rfl rfl
@[simp] theorem bt1_ok {t : Bt} : bt1 t (.ok d s) = callB t [d] s := Eq.trans rfl rfl
@[simp] theorem isiR_ok {t : Bt} : isiR t (.ok d s) = if typed d s = true then .ok (.bl (isT t d)) s else .stuck := Eq.trans rfl rfl
@[simp] theorem rng1_ok : rng1 (.ok (.int a) s) = .ok (0, a) s := Eq.trans rfl rfl
@[simp] theorem rng2_ok {f : S → Res D} : rng2 (.ok (.int a) s) f = (f s).bind fun y s => match y with
  | .int j => .ok (a, j) s
  | _ => .stuck := by
  unfold rng2
  rw [Res.bind_ok]
  congr 1
  funext y s
  cases y <;> rfl
@[simp] theorem rngL_ok {r : Int × Int} : rngL (.ok r s) = if rngOk r.1 = true ∧ rngOk r.2 = true ∧ (r.2 - r.1).toNat ≤ line then .ok (rangeI r.1 r.2) s else .stuck := Eq.trans rfl rfl
@[simp] theorem rngI_ok {r : Int × Int} : rngI (.ok r s) = if rngOk r.1 = true ∧ rngOk r.2 = true then .ok ⟨rangeI r.1 r.2, []⟩ s else .stuck := Eq.trans rfl rfl
@[simp] theorem seqI_tup : seqI (.ok (.tup ds) s) = .ok ⟨ds, []⟩ s := Eq.trans rfl rfl
@[simp] theorem seqI_lst : seqI (.ok (.lst ds) s) = .ok ⟨ds, []⟩ s := Eq.trans rfl rfl
@[simp] theorem zipI_ok {f : S → Res D} : zipI (.ok x s) f = (f s).bind fun y s => match seqOf s x, seqOf s y with
  | some xs, some ys => if kindL x = kindL y then .ok ⟨zip2 xs ys, srcOf x xs ++ srcOf y ys⟩ s else .stuck
  | _, _ => .stuck := Eq.trans rfl rfl
@[simp] theorem enumI_lst : enumI (.ok (.lst ds) s) = .ok ⟨enumF 0 ds, []⟩ s := Eq.trans rfl rfl
@[simp] theorem enumI_tup : enumI (.ok (.tup ds) s) = .ok ⟨enumF 0 ds, []⟩ s := Eq.trans rfl rfl
@[simp] theorem ixR_ok {f : S → Res D} : ixR (.ok x s) f = (f s).bind fun y s => getD x y s := Eq.trans rfl rfl
@[simp] theorem optR_ok : optR (.ok (.int a) s) = .ok (some a) s := Eq.trans rfl rfl
@[simp] theorem nopt_eq : nopt s = .ok none s := Eq.trans rfl rfl
@[simp] theorem cutR_ok {f g : S → Res (Option Int)} : cutR (.ok x s) f g = (f s).bind fun i s => (g s).bind fun j s => cutD x i j s := Eq.trans rfl rfl
@[simp] theorem negR_ok : negR (.ok (.int a) s) = .ok (.int (-a)) s := Eq.trans rfl rfl
@[simp] theorem notR_ok : notR (.ok (.bl p) s) = .ok (.bl !p) s := Eq.trans rfl rfl
@[simp] theorem notT_ok : notT (.ok p s) = .ok (!p) s := Eq.trans rfl rfl
@[simp] theorem toB_ok : toB (.bl p) s = .ok p s := Eq.trans rfl rfl
@[simp] theorem evTruth_bl : evTruth (.bl p) s = .ok p s := Eq.trans rfl rfl
@[simp] theorem evTruth_tup : evTruth (.tup ds) s = .ok (!ds.isEmpty) s := Eq.trans rfl rfl
@[simp] theorem evTruth_lst : evTruth (.lst ds) s = .ok (!ds.isEmpty) s := Eq.trans rfl rfl
@[simp] theorem stepR_some {t : Rho → S → Res Bool} {e : Rho → S → Res D} : stepR (some ρ) t e s = (t ρ s).bind fun b s => match b with
  | true => (e ρ s).bind fun y s => .ok (some y) s
  | false => .ok none s := Eq.trans rfl rfl
@[simp] theorem yes_eq : yes ρ s = .ok true s := Eq.trans rfl rfl
@[simp] theorem thawR_ok : thawR (.ok ds s) = .ok (.mref s.size) (s.push (.lst ds)) := Eq.trans rfl rfl
@[simp] theorem keyR_ok : keyR (.ok d s) = sortedKN d s := Eq.trans rfl rfl
@[simp] theorem list1_ok : list1 (.ok d s) = listN [d] s := Eq.trans rfl rfl
@[simp] theorem sort1_ok : sort1 (.ok d s) = sortedN [d] s := Eq.trans rfl rfl
@[simp] theorem sq_nx {k : Rho → S → Res Fl} : sq (.ok (.nx ρ) s) k = k ρ s := Eq.trans rfl rfl
@[simp] theorem sq_rt {k : Rho → S → Res Fl} : sq (.ok (.rt d) s) k = .ok (.rt d) s := Eq.trans rfl rfl
@[simp] theorem sq_bk {k : Rho → S → Res Fl} : sq (.ok (.bk ρ) s) k = .ok (.bk ρ) s := Eq.trans rfl rfl
@[simp] theorem sq_ct {k : Rho → S → Res Fl} : sq (.ok (.ct ρ) s) k = .ok (.ct ρ) s := Eq.trans rfl rfl
@[simp] theorem nxR_ok : nxR (.ok ρ s) = .ok (.nx ρ) s := Eq.trans rfl rfl
@[simp] theorem asg_ok : asg i ρ (.ok d s) = .ok (.nx (ρ.set i (some d))) s := Eq.trans rfl rfl
@[simp] theorem par_ok {is : List Nat} : par is ρ (.ok ds s) = nxR (match setIs is ds ρ with
  | some ρ => .ok ρ s
  | none => .stuck) := Eq.trans rfl rfl
@[simp] theorem asgFs_nil : asgFs [] [] ρ s = .ok ρ s := Eq.trans rfl rfl
@[simp] theorem asgFs_cons {t : D → Rho → S → Res Rho} {ts : List (D → Rho → S → Res Rho)} : asgFs (t :: ts) (d :: ds) ρ s = (t d ρ s).bind fun ρ s => asgFs ts ds ρ s := Eq.trans rfl rfl
@[simp] theorem tgN_eq : tgN i d ρ s = .ok (ρ.set i (some d)) s := Eq.trans rfl rfl
@[simp] theorem asgU_ok {ts : List (D → Rho → S → Res Rho)} : asgU ts n ρ (.ok (.tup ds) s) = nxR (if ds.length = n then asgFs ts ds ρ s else .stuck) := Eq.trans rfl rfl
@[simp] theorem asg1_ok {t : D → Rho → S → Res Rho} : asg1 t ρ (.ok d s) = nxR (t d ρ s) := Eq.trans rfl rfl
@[simp] theorem doR_ok : doR (.ok d s) ρ = .ok (.nx ρ) s := Eq.trans rfl rfl
@[simp] theorem retK_ok : retK (.ok d s) = .ok (.rt d) s := Eq.trans rfl rfl
@[simp] theorem forR_ok {t : Itm} {to : D → Rho → Option Rho} {B : Rho → S → Res Fl} : forR ρ (.ok t s) to B = forL (fun d ρ s => match to d ρ with
  | some ρ => B ρ s
  | none => .stuck) t.src t.items ρ s := Eq.trans rfl rfl
@[simp] theorem plain_non : D.plain .non = true := Eq.trans rfl rfl
@[simp] theorem plain_bl : D.plain (.bl p) = true := Eq.trans rfl rfl
@[simp] theorem plain_int : D.plain (.int a) = true := Eq.trans rfl rfl
@[simp] theorem plain_str : D.plain (.str u) = true := Eq.trans rfl rfl
@[simp] theorem plain_tup : D.plain (.tup ds) = D.plains ds := Eq.trans rfl rfl
@[simp] theorem plain_lst : D.plain (.lst ds) = D.plains ds := Eq.trans rfl rfl
@[simp] theorem plains_nil : D.plains [] = true := Eq.trans rfl rfl
@[simp] theorem plains_cons : D.plains (d :: ds) = (D.plain d && D.plains ds) := Eq.trans rfl rfl
theorem plains_all : ∀ {ds : List D}, D.plains ds = true ↔ ∀ d ∈ ds, D.plain d = true
  | [] => by simp
  | d :: r => by simp [plains_all (ds := r)]
theorem plains_map {f : α → D} {l : List α} (h : ∀ x ∈ l, D.plain (f x) = true) : D.plains (l.map f) = true := plains_all.mpr fun d hd => by
  obtain ⟨x, hx, rfl⟩ := List.mem_map.mp hd
  exact h x hx
@[simp] theorem typed_bl : typed (.bl p) s = true := Eq.trans rfl rfl
@[simp] theorem typed_int : typed (.int a) s = true := Eq.trans rfl rfl
@[simp] theorem typed_str : typed (.str u) s = true := Eq.trans rfl rfl
@[simp] theorem typed_non : typed .non s = true := Eq.trans rfl rfl
@[simp] theorem typed_tup : typed (.tup ds) s = true := Eq.trans rfl rfl
@[simp] theorem typed_lst : typed (.lst ds) s = true := Eq.trans rfl rfl
/-- return -/
theorem ret_ok {k : Rho → S → Res Fl} (h : d.plain = true) : sq (retR (.ok d s)) k = .ok (.rt d) s := by rw [retR_plain h, sq_rt]
theorem fin_same (h : d.plain = true) : fin false s (.rt d) s = .ok d s := fin_rt (Kept.refl s) h
theorem fin_keep {s' : S} : fin true s (.rt d) s' = .ok d s' := rfl
/-! ### operators on plain data -/
@[simp] theorem add_ints : binop .Add (.int a) (.int b) s = .ok (.int (a + b)) s := Eq.trans rfl rfl
@[simp] theorem sub_ints : binop .Sub (.int a) (.int b) s = .ok (.int (a - b)) s := Eq.trans rfl rfl
@[simp] theorem add_tups : binop .Add (.tup ds) (.tup es) s = if ds.length + es.length ≤ line then .ok (.tup (ds ++ es)) s else .stuck := Eq.trans rfl rfl
@[simp] theorem add_lsts : binop .Add (.lst ds) (.lst es) s = if ds.length + es.length ≤ line then .ok (.lst (ds ++ es)) s else .stuck := Eq.trans rfl rfl
@[simp] theorem mul_ints : binop .Mult (.int a) (.int b) s = if mulOk a b = true then .ok (.int (a * b)) s else .stuck := Eq.trans rfl rfl
@[simp] theorem mul_tup : binop .Mult (.tup ds) (.int b) s = if ds.isEmpty = false ∧ 2 ≤ b ∧ b ≤ 1000 ∧ ds.length ≤ 1000 then .ok (.tup (repl ds b.toNat)) s else .stuck := Eq.trans rfl rfl
@[simp] theorem mul_lst : binop .Mult (.lst ds) (.int b) s = if 0 ≤ b ∧ ds.length * b.toNat ≤ line ∧ b < 1000000 then .ok (.lst (repl ds b.toNat)) s else .stuck := Eq.trans rfl rfl
@[simp] theorem fdiv_ints : binop .FloorDiv (.int a) (.int b) s = if divOk b = true then .ok (.int (a.fdiv b)) s else .stuck := Eq.trans rfl rfl
@[simp] theorem mod_ints : binop .Mod (.int a) (.int b) s = if b ≠ 0 then .ok (.int (a.fmod b)) s else .stuck := Eq.trans rfl rfl
@[simp] theorem pow_ints : binop .Pow (.int a) (.int b) s = if 0 ≤ b ∧ b ≤ 1000000 ∧ a.natAbs < 2 ^ 64 then .ok (.int (a ^ b.toNat)) s else .stuck := Eq.trans rfl rfl
@[simp] theorem eq_strs : cmpop .Eq (.str u) (.str v) s = .ok (.bl (decide (u = v))) s := Eq.trans rfl rfl
@[simp] theorem ne_strs : cmpop .NotEq (.str u) (.str v) s = .ok (.bl !(decide (u = v))) s := Eq.trans rfl rfl
theorem eqd_ints : eqd (.int a) (.int b) = decide (a = b) := by
  unfold eqd
  show PyData.eqv (.int a) (.int b) = _
  rfl
end
end DL
set_option Elab.async false
set_option linter.all false
set_option maxRecDepth 100000
set_option maxHeartbeats 4000000
/-! Runs in plain Lean, part 3: comparisons of plain data, walks over lists that are given by a function. -/
namespace DL
open PySem
/-! ### plain data without truth values: Python's == is equality -/
mutual
def D.noB : D → Bool
  | .tup ds => D.noBs ds
  | .lst ds => D.noBs ds
  | .non => true
  | .int _ => true
  | .str _ => true
  | _ => false
def D.noBs : List D → Bool
  | [] => true
  | d :: r => D.noB d && D.noBs r
end
theorem noBs_cons {d : D} {r : List D} (h : D.noBs (d :: r) = true) : d.noB = true ∧ D.noBs r = true := by
  have h : (d.noB && D.noBs r) = true := h
  rwa [Bool.and_eq_true] at h
theorem eqv_iff : ∀ (a : D), a.noB = true → ∀ b : D, b.noB = true → (PyData.eqv a.pd b.pd = true ↔ a = b) := by
  intro a
  refine D.rec (motive_1 := fun a => a.noB = true → ∀ b : D, b.noB = true → (PyData.eqv a.pd b.pd = true ↔ a = b)) (motive_2 := fun as => D.noBs as = true → ∀ bs : List D, D.noBs bs = true → (PyData.eqvAll (D.pds as) (D.pds bs) = true ↔ as = bs)) ?_ ?_ ?_ ?_ ?_ ?_ ?_ ?_ ?_ ?_ ?_ a
  · intro _ b hb
    cases b <;> first | (cases hb; done) | exact ⟨fun _ => rfl, fun _ => rfl⟩ | exact ⟨fun h => (by cases h), fun h => (by cases h)⟩
  · intro b h
    cases h
  · intro i _ b hb
    cases b with
    | int j =>
      show (i == j) = true ↔ _
      rw [beq_iff_eq]
      exact ⟨fun h => by rw [h], fun h => by cases h; rfl⟩
    | _ => first | (cases hb; done) | exact ⟨fun h => (by cases h), fun h => (by cases h)⟩
  · intro x _ b hb
    cases b with
    | str y =>
      show (x == y) = true ↔ _
      rw [beq_iff_eq]
      exact ⟨fun h => by rw [h], fun h => by cases h; rfl⟩
    | _ => first | (cases hb; done) | exact ⟨fun h => (by cases h), fun h => (by cases h)⟩
  · intro ds ih h b hb
    cases b with
    | tup es =>
      show PyData.eqvAll (D.pds ds) (D.pds es) = true ↔ _
      rw [ih h es hb]
      exact ⟨fun h => by rw [h], fun h => by cases h; rfl⟩
    | _ => first | (cases hb; done) | exact ⟨fun h => (by cases h), fun h => (by cases h)⟩
  · intro ds ih h b hb
    cases b with
    | lst es =>
      show PyData.eqvAll (D.pds ds) (D.pds es) = true ↔ _
      rw [ih h es hb]
      exact ⟨fun h => by rw [h], fun h => by cases h; rfl⟩
    | _ => first | (cases hb; done) | exact ⟨fun h => (by cases h), fun h => (by cases h)⟩
  · intro ds _ h
    cases h
  · intro i h
    cases h
  · intro i h
    cases h
  · intro _ bs hb
    cases bs with
    | nil => exact ⟨fun _ => rfl, fun _ => rfl⟩
    | cons b r => exact ⟨fun h => (by cases h), fun h => (by cases h)⟩
  · intro d r i1 i2 h bs hb
    obtain ⟨h1, h2⟩ := noBs_cons h
    cases bs with
    | nil => exact ⟨fun h => (by cases h), fun h => (by cases h)⟩
    | cons b s =>
      obtain ⟨g1, g2⟩ := noBs_cons hb
      show (PyData.eqv d.pd b.pd && PyData.eqvAll (D.pds r) (D.pds s)) = true ↔ _
      rw [Bool.and_eq_true, i1 h1 b g1, i2 h2 s g2]
      exact ⟨fun ⟨a, b⟩ => by rw [a, b], fun h => by cases h; exact ⟨rfl, rfl⟩⟩
theorem eqd_iff {a b : D} (ha : a.noB = true) (hb : b.noB = true) : eqd a b = true ↔ a = b := eqv_iff a ha b hb
/-! ### data that fits -/
mutual
def fits : Nat → D → Bool
  | 0, _ => false
  | n + 1, d => match d with
    | .tup ds => fitsL n ds
    | .lst ds => fitsL n ds
    | .str x => PyData.strOk x
    | .non => true
    | .bl _ => true
    | .int _ => true
    | _ => false
def fitsL : Nat → List D → Bool
  | _, [] => true
  | n, d :: r => fits n d && fitsL n r
end
theorem fitsL_all {n : Nat} : ∀ {ds : List D}, fitsL n ds = true ↔ ∀ d ∈ ds, fits n d = true
  | [] => by simp [fitsL]
  | d :: r => by
    rw [fitsL, Bool.and_eq_true, fitsL_all (ds := r)]
    simp
theorem rsv_fits {s : S} : ∀ (n : Nat) {d : D}, fits n d = true → rsv s n d = some d
  | 0, _, h => by
    rw [fits] at h
    cases h
  | n + 1, d, h => by
    have all : ∀ {ds : List D}, fitsL n ds = true → mapO (rsv s n) ds = some ds := by
      intro ds
      induction ds with
      | nil => intro _; rfl
      | cons a r ih =>
        intro q
        rw [fitsL, Bool.and_eq_true] at q
        unfold mapO
        rw [rsv_fits n q.1, ih q.2]
    cases d with
    | tup ds =>
      have h : fitsL n ds = true := h
      show (match mapO (rsv s n) ds with
        | some es => some (D.tup es)
        | none => none) = _
      rw [all h]
    | lst ds =>
      have h : fitsL n ds = true := h
      show (match mapO (rsv s n) ds with
        | some es => some (D.lst es)
        | none => none) = _
      rw [all h]
    | str x =>
      have h : PyData.strOk x = true := h
      show (if PyData.strOk x = true then some (D.str x) else none) = _
      rw [if_pos h]
    | non => rfl
    | bl b => rfl
    | int i => rfl
    | fix ds => cases h
    | mref i => cases h
    | clo i => cases h
theorem frz_fits {s : S} : ∀ (n : Nat) {d : D}, fits n d = true → frz n d s = some (d, s)
  | 0, _, h => by
    rw [fits] at h
    cases h
  | n + 1, d, h => by
    have all : ∀ {ds : List D}, fitsL n ds = true → mapS (frz n) ds s = some (ds, s) := by
      intro ds
      induction ds with
      | nil => intro _; rfl
      | cons a r ih =>
        intro q
        rw [fitsL, Bool.and_eq_true] at q
        unfold mapS
        rw [frz_fits n q.1]
        dsimp only
        rw [ih q.2]
    cases d with
    | tup ds =>
      have h : fitsL n ds = true := h
      show (match mapS (frz n) ds s with
        | some (es, s) => some (D.tup es, s)
        | none => none) = _
      rw [all h]
    | lst ds =>
      have h : fitsL n ds = true := h
      show (match mapS (frz n) ds s with
        | some (es, s) => some (D.lst es, s)
        | none => none) = _
      rw [all h]
    | str x => rfl
    | non => rfl
    | bl b => rfl
    | int i => rfl
    | fix ds => cases h
    | mref i => cases h
    | clo i => cases h
theorem mapS_fits {n : Nat} {s : S} : ∀ {ds : List D}, fitsL n ds = true → mapS (frz n) ds s = some (ds, s)
  | [], _ => rfl
  | a :: r, q => by
    rw [fitsL, Bool.and_eq_true] at q
    unfold mapS
    rw [frz_fits n q.1]
    dsimp only
    rw [mapS_fits q.2]
/-- a list of the store, handed back -/
theorem retR_mref {k : Nat} {ds : List D} {s : S} (hg : s.get k = some (.lst ds)) (h : fitsL 39 ds = true) : retR (.ok (.mref k) s) = .ok (.rt (.lst ds)) (s.kill k) := by
  unfold retR
  rw [Res.bind_ok]
  have e : frzR (.mref k) s = some (.lst ds, s.kill k) := by
    show frz 40 (.mref k) s = _
    show (match s.get k with
      | some (.lst ds) => (match mapS (frz 39) ds (s.kill k) with
        | some (es, s) => some (D.lst es, s)
        | none => none)
      | _ => none) = _
    rw [hg]
    dsimp only
    rw [mapS_fits h]
  rw [e]
/-! ### a list at the store's end -/
theorem push_get {s : S} {o : MO} : (s.push o).get s.size = some o := by rw [S.get_push, if_pos rfl]
theorem push_put {s : S} {o o' : MO} : (s.push o).put s.size o' = s.push o' := by
  obtain ⟨cs⟩ := s
  show S.mk ((cs ++ [some o]).set cs.length (some o')) = S.mk (cs ++ [some o'])
  congr 1
  simp
theorem fits_mono : ∀ {n m : Nat} {d : D}, n ≤ m → fits n d = true → fits m d = true
  | 0, _, _, _, h => by
    rw [fits] at h
    cases h
  | n + 1, 0, _, hm, _ => by omega
  | n + 1, m + 1, d, hm, h => by
    have le : n ≤ m := by omega
    cases d with
    | tup ds =>
      have h : fitsL n ds = true := h
      show fitsL m ds = true
      exact fitsL_all.mpr fun x hx => fits_mono le (fitsL_all.mp h x hx)
    | lst ds =>
      have h : fitsL n ds = true := h
      show fitsL m ds = true
      exact fitsL_all.mpr fun x hx => fits_mono le (fitsL_all.mp h x hx)
    | _ => exact h
section
variable {s : S} {a b d : D} {ds es : List D}
/-- x == y, x in y where both fit -/
theorem cmp_eq (ha : fits deep a = true) (hb : fits deep b = true) (hs : ∀ x y, a = .str x → b = .str y → False) : cmpop .Eq a b s = .ok (.bl (eqd a b)) s := by
  have e : eqD a b s = match rsv s deep a, rsv s deep b with
    | some a, some b => .ok (.bl (eqd a b)) s
    | _, _ => .stuck := by
    unfold eqD
    split
    · exact (hs _ _ rfl rfl).elim
    · rfl
  show eqD a b s = _
  rw [e, rsv_fits deep ha, rsv_fits deep hb]
theorem cmp_ne (ha : fits deep a = true) (hb : fits deep b = true) (hs : ∀ x y, a = .str x → b = .str y → False) : cmpop .NotEq a b s = .ok (.bl !(eqd a b)) s := by
  show notD (cmpop .Eq a b s) = _
  rw [cmp_eq ha hb hs]
  rfl
theorem cmp_in_tup (ha : fits deep a = true) (hb : fits deep (.tup ds) = true) : cmpop .In a (.tup ds) s = .ok (.bl (ds.any fun b => eqd b a)) s := by
  show inD a (.tup ds) s = _
  unfold inD
  rw [rsv_fits deep ha, rsv_fits deep hb]
theorem cmp_in_lst (ha : fits deep a = true) (hb : fits deep (.lst ds) = true) : cmpop .In a (.lst ds) s = .ok (.bl (ds.any fun b => eqd b a)) s := by
  show inD a (.lst ds) s = _
  unfold inD
  rw [rsv_fits deep ha, rsv_fits deep hb]
theorem cmp_notin_tup (ha : fits deep a = true) (hb : fits deep (.tup ds) = true) : cmpop .NotIn a (.tup ds) s = .ok (.bl !(ds.any fun b => eqd b a)) s := by
  show notD (cmpop .In a (.tup ds) s) = _
  rw [cmp_in_tup ha hb]
  rfl
theorem cmp_notin_lst (ha : fits deep a = true) (hb : fits deep (.lst ds) = true) : cmpop .NotIn a (.lst ds) s = .ok (.bl !(ds.any fun b => eqd b a)) s := by
  show notD (cmpop .In a (.lst ds) s) = _
  rw [cmp_in_lst ha hb]
  rfl
end
/-! ### walks over lists that a function gives -/
section
variable {α : Type} {s : S} {l : List α} {e : α → D} {step : D → S → Res (Option D)}
theorem comp_opt {f : α → Option D} (hl : l.length ≤ line) (h : ∀ x ∈ l, step (e x) s = .ok (f x) s) : compR (.ok ⟨l.map e, []⟩ s) step = .ok (l.filterMap f) s := by
  have main : ∀ {l : List α}, (∀ x ∈ l, step (e x) s = .ok (f x) s) → compL step [] (l.map e) s = .ok (l.filterMap f) s := by
    intro l
    induction l with
    | nil => intro _; rfl
    | cons x r ih =>
      intro h
      rw [List.map_cons]
      unfold compL
      rw [if_pos (still_nil s), h x (List.mem_cons_self ..), Res.bind_ok, ih fun y hy => h y (List.mem_cons_of_mem _ hy), Res.bind_ok, List.filterMap_cons]
      cases f x <;> rfl
  unfold compR
  rw [Res.bind_ok]
  dsimp only
  rw [main h]
  show (if (l.map e).length ≤ line then .ok (l.filterMap f) s else (.stuck : Res (List D))) = _
  rw [if_pos (by rw [List.length_map]; exact hl)]
theorem comp_if {p : α → Bool} {g : α → D} (hl : l.length ≤ line) (h : ∀ x ∈ l, step (e x) s = .ok (if p x = true then some (g x) else none) s) : compR (.ok ⟨l.map e, []⟩ s) step = .ok ((l.filter p).map g) s := by
  rw [comp_opt hl h]
  congr 1
  clear h hl
  induction l with
  | nil => rfl
  | cons x r ih =>
    rw [List.filterMap_cons, List.filter_cons]
    cases hp : p x with
    | true => rw [if_pos rfl, if_pos rfl, List.map_cons, ← ih]
    | false => rw [if_neg (by decide), if_neg (by decide), ← ih]
theorem comp_map {g : α → D} (hl : l.length ≤ line) (h : ∀ x ∈ l, step (e x) s = .ok (some (g x)) s) : compR (.ok ⟨l.map e, []⟩ s) step = .ok (l.map g) s := by
  rw [comp_opt hl h]
  congr 1
  clear h hl
  induction l with
  | nil => rfl
  | cons x r ih => rw [List.filterMap_cons, List.map_cons, ← ih]
/-- a natural number as a value -/
abbrev nat (n : Nat) : D := .int (n : Nat)
theorem rangeI_nat (n : Nat) : rangeI 0 (n : Nat) = (List.range n).map nat := by
  unfold rangeI
  have e : ((n : Int) - 0).toNat = n := by omega
  rw [e]
  refine List.map_congr_left fun i _ => ?_
  show D.int (0 + (i : Int)) = D.int i
  rw [Int.zero_add]
theorem rngOk_nat {n : Nat} (h : n ≤ line) : rngOk (n : Nat) = true := by
  unfold rngOk
  have : line = 16777216 := rfl
  rw [Bool.and_eq_true, decide_eq_true_eq, decide_eq_true_eq]
  omega
theorem rng_nat {n : Nat} (h : n ≤ line) : rngI (.ok (0, (n : Nat)) s) = .ok ⟨(List.range n).map nat, []⟩ s := by
  rw [rngI_ok, if_pos ⟨(by decide : rngOk 0 = true), rngOk_nat h⟩, rangeI_nat]
end
/-- a loop that folds: R, St the slots and the store by what is gathered; j, what else lies in the slots -/
theorem forL_fold {α β γ : Type} {e : α → D} {step : D → Rho → S → Res Fl} {R : γ → β → Rho} {St : β → S} {f : β → α → β} : ∀ {l : List α} (_ : ∀ j b x, x ∈ l → ∃ j', step (e x) (R j b) (St b) = .ok (.nx (R j' (f b x))) (St (f b x))) (j : γ) (b : β),
    ∃ j', forL step [] (l.map e) (R j b) (St b) = .ok (.nx (R j' (l.foldl f b))) (St (l.foldl f b))
  | [], _, j, b => ⟨j, rfl⟩
  | x :: r, h, j, b => by
    obtain ⟨j1, h1⟩ := h j b x (List.mem_cons_self ..)
    obtain ⟨j2, h2⟩ := forL_fold (l := r) (fun j b y hy => h j b y (List.mem_cons_of_mem _ hy)) j1 (f b x)
    refine ⟨j2, ?_⟩
    rw [List.map_cons]
    unfold forL
    rw [if_pos (still_nil _), h1, Res.bind_ok]
    exact h2
/-- a loop by what has been walked: R, St the slots and the store -/
theorem forL_pre {α γ : Type} {e : α → D} {step : D → Rho → S → Res Fl} {R : γ → List α → Rho} {St : List α → S} : ∀ (pre l : List α) (_ : ∀ p x q, pre ++ l = p ++ x :: q → ∀ j, ∃ j', step (e x) (R j p) (St p) = .ok (.nx (R j' (p ++ [x]))) (St (p ++ [x]))) (j : γ),
    ∃ j', forL step [] (l.map e) (R j pre) (St pre) = .ok (.nx (R j' (pre ++ l))) (St (pre ++ l))
  | pre, [], _, j => ⟨j, by rw [List.append_nil]; rfl⟩
  | pre, x :: r, h, j => by
    obtain ⟨j1, h1⟩ := h pre x r rfl j
    have e1 : pre ++ x :: r = (pre ++ [x]) ++ r := by rw [List.append_assoc]; rfl
    rw [e1] at h ⊢
    obtain ⟨j2, h2⟩ := forL_pre (R := R) (St := St) (pre ++ [x]) r h j1
    refine ⟨j2, ?_⟩
    rw [List.map_cons]
    unfold forL
    rw [if_pos (still_nil _), h1, Res.bind_ok]
    exact h2
theorem range_at {n x : Nat} {p q : List Nat} (h : List.range n = p ++ x :: q) : p = List.range x ∧ x < n := by
  have hl : p.length < n := by
    have := congrArg List.length h
    rw [List.length_range, List.length_append, List.length_cons] at this
    omega
  have hx : x = p.length := by
    have : (List.range n)[p.length]? = (p ++ x :: q)[p.length]? := by rw [h]
    rw [List.getElem?_range hl, List.getElem?_append_right (Nat.le_refl _), Nat.sub_self] at this
    injection this with this
    exact this.symm
  refine ⟨?_, by omega⟩
  have := congrArg (List.take p.length) h
  rw [List.take_left', List.take_range, Nat.min_eq_left (Nat.le_of_lt hl)] at this
  · rw [hx]; exact this.symm
  · rfl
theorem forL_range {γ : Type} {step : D → Rho → S → Res Fl} {R : γ → Nat → Rho} {St : Nat → S} {n : Nat} (h : ∀ i, i < n → ∀ j, ∃ j', step (nat i) (R j i) (St i) = .ok (.nx (R j' (i + 1))) (St (i + 1))) (j : γ) :
    ∃ j', forL step [] ((List.range n).map nat) (R j 0) (St 0) = .ok (.nx (R j' n)) (St n) := by
  have := forL_pre (e := nat) (step := step) (R := fun j p => R j p.length) (St := fun p => St p.length) [] (List.range n) (fun p x q e j => by
    obtain ⟨e1, e2⟩ := range_at e
    subst e1
    simp only [List.length_append, List.length_range, List.length_cons, List.length_nil]
    exact h x e2 j) j
  simpa using this
/-- the same where the slots are known -/
theorem forL_rangeE {step : D → Rho → S → Res Fl} {R : Nat → Rho} {St : Nat → S} {n : Nat} (h : ∀ i, i < n → step (nat i) (R i) (St i) = .ok (.nx (R (i + 1))) (St (i + 1))) :
    forL step [] ((List.range n).map nat) (R 0) (St 0) = .ok (.nx (R n)) (St n) := by
  obtain ⟨_, h⟩ := forL_range (γ := Unit) (R := fun _ => R) (St := St) (fun i hi _ => ⟨(), h i hi⟩) ()
  exact h
theorem eqd_nilR (ds : List D) : eqd (.lst ds) (.lst []) = ds.isEmpty := by cases ds <;> rfl
theorem eq_nil {ds : List D} {s : S} (h : fits deep (.lst ds) = true) : cmpop .Eq (.lst ds) (.lst []) s = .ok (.bl ds.isEmpty) s := by
  rw [cmp_eq h rfl (fun x y h => by cases h), eqd_nilR]
theorem ne_nil {ds : List D} {s : S} (h : fits deep (.lst ds) = true) : cmpop .NotEq (.lst ds) (.lst []) s = .ok (.bl !ds.isEmpty) s := by
  rw [cmp_ne h rfl (fun x y h => by cases h), eqd_nilR]
theorem fits_lst_map {α : Type} {n : Nat} {e : α → D} {l : List α} (h : ∀ a ∈ l, fits n (e a) = true) : fits (n + 1) (.lst (l.map e)) = true := by
  show fitsL n (l.map e) = true
  exact fitsL_all.mpr fun d hd => by
    obtain ⟨p, hp, rfl⟩ := List.mem_map.mp hd
    exact h p hp
theorem fits_tup_map {α : Type} {n : Nat} {e : α → D} {l : List α} (h : ∀ a ∈ l, fits n (e a) = true) : fits (n + 1) (.tup (l.map e)) = true := fits_lst_map (n := n) h
theorem fits_nats (n : Nat) (l : List Nat) : fits (n + 2) (.lst (l.map nat)) = true := fits_lst_map (n := n + 1) fun _ _ => rfl
theorem fits_natsT (n : Nat) (l : List Nat) : fits (n + 2) (.tup (l.map nat)) = true := fits_lst_map (n := n + 1) fun _ _ => rfl
theorem extend_push {s : S} {ds es : List D} (h : ds.length + es.length ≤ line) : extendD (.mref s.size) (.lst es) (s.push (.lst ds)) = .ok () (s.push (.lst (ds ++ es))) := by
  unfold extendD
  dsimp only
  rw [push_get, show lstOf (s.push (.lst ds)) (.lst es) = some es from rfl]
  dsimp only
  rw [if_pos h, push_put]
theorem append_push {s : S} {ds : List D} {d : D} (h : ds.length < line) : appendD (.mref s.size) d (s.push (.lst ds)) = .ok () (s.push (.lst (ds ++ [d]))) := by
  unfold appendD
  dsimp only
  rw [push_get]
  dsimp only
  rw [if_pos h, push_put]
theorem lstOf_push {s : S} {ds : List D} : lstOf (s.push (.lst ds)) (.mref s.size) = some ds := by
  show (match (s.push (.lst ds)).get s.size with
    | some (.lst ds) => some ds
    | _ => none) = _
  rw [push_get]
theorem recvR_push {s : S} {ds : List D} {f : D → D → S → Res Unit} {a : S → Res D} {ρ : Rho} : recvR f (.ok (.mref s.size) (s.push (.lst ds))) a ρ = ((a (s.push (.lst ds))).bind fun d s' => f (.mref s.size) d s').bind fun _ s => .ok (.nx ρ) s := by
  unfold recvR
  rw [Res.bind_ok, lstOf_push]
theorem kept_push_kill (s : S) (o : MO) : Kept s ((s.push o).kill s.size) := ((Kept.refl s).push o).kill (Nat.le_refl _)
/-- a list at the store's end, handed back -/
theorem ret_push {s : S} {ds : List D} {k : Rho → S → Res Fl} (h : fitsL 39 ds = true) : sq (retR (.ok (.mref s.size) (s.push (.lst ds)))) k = .ok (.rt (.lst ds)) ((s.push (.lst ds)).kill s.size) := by
  rw [retR_mref push_get h, sq_rt]
mutual
theorem plain_fits : ∀ (n : Nat) (d : D), fits n d = true → d.plain = true
  | 0, _, h => by
    rw [fits] at h
    cases h
  | n + 1, d, h => by
    cases d with
    | tup ds => exact plains_fits n ds h
    | lst ds => exact plains_fits n ds h
    | fix ds => cases h
    | mref i => cases h
    | clo i => cases h
    | _ => rfl
theorem plains_fits : ∀ (n : Nat) (ds : List D), fitsL n ds = true → D.plains ds = true
  | _, [], _ => rfl
  | n, d :: r, h => by
    rw [fitsL, Bool.and_eq_true] at h
    rw [plains_cons, plain_fits n d h.1, plains_fits n r h.2]
    rfl
end
theorem fin_push {s : S} {ds : List D} (h : fitsL 39 ds = true) : fin false s (.rt (.lst ds)) ((s.push (.lst ds)).kill s.size) = .ok (.lst ds) s := fin_rt (kept_push_kill s _) (by
  rw [plain_lst]
  exact plains_fits 39 ds h)
theorem for_range {γ : Type} {to : D → Rho → Option Rho} {B : Rho → S → Res Fl} {R : γ → Nat → Rho} {St : Nat → S} {n : Nat} (h : ∀ i, i < n → ∀ j, ∃ ρ j', to (nat i) (R j i) = some ρ ∧ B ρ (St i) = .ok (.nx (R j' (i + 1))) (St (i + 1))) (j : γ) :
    ∃ j', forR (R j 0) (.ok ⟨(List.range n).map nat, []⟩ (St 0)) to B = .ok (.nx (R j' n)) (St n) := by
  rw [forR_ok]
  exact forL_range (R := R) (St := St) (fun i hi j => by
    obtain ⟨ρ, j', h1, h2⟩ := h i hi j
    exact ⟨j', by rw [h1]; exact h2⟩) j
theorem for_map {α γ : Type} {e : α → D} {to : D → Rho → Option Rho} {B : Rho → S → Res Fl} {R : γ → List α → Rho} {St : List α → S} {l : List α} (h : ∀ p x q, l = p ++ x :: q → ∀ j, ∃ ρ j', to (e x) (R j p) = some ρ ∧ B ρ (St p) = .ok (.nx (R j' (p ++ [x]))) (St (p ++ [x]))) (j : γ) :
    ∃ j', forR (R j []) (.ok ⟨l.map e, []⟩ (St [])) to B = .ok (.nx (R j' l)) (St l) := by
  rw [forR_ok]
  exact forL_pre (R := R) (St := St) [] l (fun p x q hq j => by
    obtain ⟨ρ, j', h1, h2⟩ := h p x q hq j
    exact ⟨j', by rw [h1]; exact h2⟩) j
end DL
set_option Elab.async false
set_option linter.all false
set_option maxRecDepth 100000
set_option maxHeartbeats 4000000
/-! Runs in plain Lean, part 4: built-ins, slices, loops with an early end, walks that change the store. -/
namespace DL
open PySem
theorem le_line {n : Nat} (h : n ≤ 16000000) : n ≤ line := Nat.le_trans h (by decide +kernel)
theorem lt_line {n : Nat} (h : n < 16000000) : n < line := Nat.lt_of_lt_of_le h (by decide +kernel)
section
variable {s : S} {ρ : Rho} {i n : Nat} {d x y z : D} {o : Option D} {a b c : Int} {p q : Bool} {u v : Str} {xs ys : List D} {ds es : List D} {α β : Type}
/-! ### comparisons -/
theorem cmp_lt (a b : Int) (s : S) : cmpop .Lt (.int a) (.int b) s = .ok (.bl (decide (a < b))) s := rfl
theorem cmp_le (a b : Int) (s : S) : cmpop .LtE (.int a) (.int b) s = .ok (.bl (decide (a ≤ b))) s := rfl
theorem cmp_gt (a b : Int) (s : S) : cmpop .Gt (.int a) (.int b) s = .ok (.bl (decide (b < a))) s := rfl
theorem cmp_ge (a b : Int) (s : S) : cmpop .GtE (.int a) (.int b) s = .ok (.bl (decide (b ≤ a))) s := rfl
theorem eqd_int (a b : Int) : eqd (.int a) (.int b) = decide (a = b) := by
  rw [Bool.eq_iff_iff, eqd_iff rfl rfl, decide_eq_true_eq]
  exact ⟨fun h => by injection h, fun h => by rw [h]⟩
theorem cmp_eqi (a b : Int) (s : S) : cmpop .Eq (.int a) (.int b) s = .ok (.bl (decide (a = b))) s := by
  rw [cmp_eq rfl rfl (fun x y h => by cases h), eqd_int]
theorem cmp_nei (a b : Int) (s : S) : cmpop .NotEq (.int a) (.int b) s = .ok (.bl !(decide (a = b))) s := by
  rw [cmp_ne rfl rfl (fun x y h => by cases h), eqd_int]
theorem nat_lt (a b : Nat) (s : S) : cmpop .Lt (nat a) (nat b) s = .ok (.bl (decide (a < b))) s := by
  rw [cmp_lt]; congr 3; exact propext Int.ofNat_lt
theorem nat_le (a b : Nat) (s : S) : cmpop .LtE (nat a) (nat b) s = .ok (.bl (decide (a ≤ b))) s := by
  rw [cmp_le]; congr 3; exact propext Int.ofNat_le
theorem nat_gt (a b : Nat) (s : S) : cmpop .Gt (nat a) (nat b) s = .ok (.bl (decide (b < a))) s := by
  rw [cmp_gt]; congr 3; exact propext Int.ofNat_lt
theorem nat_ge (a b : Nat) (s : S) : cmpop .GtE (nat a) (nat b) s = .ok (.bl (decide (b ≤ a))) s := by
  rw [cmp_ge]; congr 3; exact propext Int.ofNat_le
theorem nat_eq (a b : Nat) (s : S) : cmpop .Eq (nat a) (nat b) s = .ok (.bl (decide (a = b))) s := by
  rw [cmp_eqi]; congr 3; exact propext Int.ofNat_inj
theorem nat_ne (a b : Nat) (s : S) : cmpop .NotEq (nat a) (nat b) s = .ok (.bl !(decide (a = b))) s := by
  rw [cmp_nei]; congr 4; exact propext Int.ofNat_inj
/-- == of things that a function gives, one to one -/
theorem eqd_enc {e : α → D} [DecidableEq α] (hb : ∀ x, (e x).noB = true) (inj : ∀ x y, e x = e y → x = y) (x y : α) [Decidable (x = y)] : eqd (e x) (e y) = decide (x = y) := by
  rw [Bool.eq_iff_iff, eqd_iff (hb x) (hb y), decide_eq_true_eq]
  exact ⟨inj x y, fun h => by rw [h]⟩
theorem any_enc {e : α → D} [DecidableEq α] (hb : ∀ x, (e x).noB = true) (inj : ∀ x y, e x = e y → x = y) (l : List α) (x : α) [Decidable (x ∈ l)] : ((l.map e).any fun b => eqd b (e x)) = decide (x ∈ l) := by
  rw [Bool.eq_iff_iff, List.any_eq_true, decide_eq_true_eq]
  constructor
  · rintro ⟨d, hd, h⟩
    obtain ⟨y, hy, rfl⟩ := List.mem_map.mp hd
    rw [eqd_enc hb inj, decide_eq_true_eq] at h
    rw [← h]
    exact hy
  · intro h
    exact ⟨e x, List.mem_map.mpr ⟨x, h, rfl⟩, by rw [eqd_enc hb inj, decide_eq_true_eq]⟩
theorem nat_inj (x y : Nat) (h : nat x = nat y) : x = y := by
  injection h with h
  exact Int.ofNat.inj h
theorem in_lst {e : α → D} [DecidableEq α] (hb : ∀ x, (e x).noB = true) (inj : ∀ x y, e x = e y → x = y) {m : Nat} (hm : m ≤ 38) (hf : ∀ x, fits m (e x) = true) (l : List α) (x : α) [Decidable (x ∈ l)] (s : S) : cmpop .In (e x) (.lst (l.map e)) s = .ok (.bl (decide (x ∈ l))) s := by
  rw [cmp_in_lst (fits_mono (by show m ≤ 40; omega) (hf x)) (fits_lst_map (n := 39) fun a _ => fits_mono (by omega) (hf a)), any_enc hb inj]
theorem in_tup {e : α → D} [DecidableEq α] (hb : ∀ x, (e x).noB = true) (inj : ∀ x y, e x = e y → x = y) {m : Nat} (hm : m ≤ 38) (hf : ∀ x, fits m (e x) = true) (l : List α) (x : α) [Decidable (x ∈ l)] (s : S) : cmpop .In (e x) (.tup (l.map e)) s = .ok (.bl (decide (x ∈ l))) s := by
  rw [cmp_in_tup (fits_mono (by show m ≤ 40; omega) (hf x)) (fits_tup_map (n := 39) fun a _ => fits_mono (by omega) (hf a)), any_enc hb inj]
theorem notin_lst {e : α → D} [DecidableEq α] (hb : ∀ x, (e x).noB = true) (inj : ∀ x y, e x = e y → x = y) {m : Nat} (hm : m ≤ 38) (hf : ∀ x, fits m (e x) = true) (l : List α) (x : α) [Decidable (x ∈ l)] (s : S) : cmpop .NotIn (e x) (.lst (l.map e)) s = .ok (.bl !(decide (x ∈ l))) s := by
  show notD (cmpop .In (e x) (.lst (l.map e)) s) = _
  rw [in_lst hb inj hm hf]
  rfl
theorem notin_tup {e : α → D} [DecidableEq α] (hb : ∀ x, (e x).noB = true) (inj : ∀ x y, e x = e y → x = y) {m : Nat} (hm : m ≤ 38) (hf : ∀ x, fits m (e x) = true) (l : List α) (x : α) [Decidable (x ∈ l)] (s : S) : cmpop .NotIn (e x) (.tup (l.map e)) s = .ok (.bl !(decide (x ∈ l))) s := by
  show notD (cmpop .In (e x) (.tup (l.map e)) s) = _
  rw [in_tup hb inj hm hf]
  rfl
theorem nat_in_lst (l : List Nat) (x : Nat) (s : S) : cmpop .In (nat x) (.lst (l.map nat)) s = .ok (.bl (decide (x ∈ l))) s := in_lst (fun _ => rfl) nat_inj (m := 1) (by omega) (fun _ => rfl) l x s
theorem nat_in_tup (l : List Nat) (x : Nat) (s : S) : cmpop .In (nat x) (.tup (l.map nat)) s = .ok (.bl (decide (x ∈ l))) s := in_tup (fun _ => rfl) nat_inj (m := 1) (by omega) (fun _ => rfl) l x s
theorem nat_notin_lst (l : List Nat) (x : Nat) (s : S) : cmpop .NotIn (nat x) (.lst (l.map nat)) s = .ok (.bl !(decide (x ∈ l))) s := notin_lst (fun _ => rfl) nat_inj (m := 1) (by omega) (fun _ => rfl) l x s
theorem nat_notin_tup (l : List Nat) (x : Nat) (s : S) : cmpop .NotIn (nat x) (.tup (l.map nat)) s = .ok (.bl !(decide (x ∈ l))) s := notin_tup (fun _ => rfl) nat_inj (m := 1) (by omega) (fun _ => rfl) l x s
/-! ### built-ins -/
theorem len_tup (ds : List D) (s : S) : callB .len [.tup ds] s = .ok (nat ds.length) s := rfl
theorem len_lst (ds : List D) (s : S) : callB .len [.lst ds] s = .ok (nat ds.length) s := rfl
theorem min2 (a b : Nat) (s : S) : callB .min [nat a, nat b] s = .ok (nat (min a b)) s := by
  show (.ok (.int (if (b : Int) < a then (b : Int) else a)) s : Res D) = .ok (.int ((min a b : Nat) : Int)) s
  congr 2
  split <;> omega
theorem max2 (a b : Nat) (s : S) : callB .max [nat a, nat b] s = .ok (nat (max a b)) s := by
  show (.ok (.int (if (b : Int) > a then (b : Int) else a)) s : Res D) = .ok (.int ((max a b : Nat) : Int)) s
  congr 2
  split <;> omega
theorem intsO_map (f : α → Int) : ∀ l : List α, intsO (l.map fun x => D.int (f x)) = some (l.map f)
  | [] => rfl
  | x :: r => by
    have ih := intsO_map f r
    unfold intsO at ih ⊢
    rw [List.map_cons, mapO]
    dsimp only
    rw [ih]
    rfl
theorem sum_cast (l : List Nat) : (l.map fun n : Nat => (n : Int)).sum = (l.sum : Nat) := by
  induction l with
  | nil => rfl
  | cons x r ih => rw [List.map_cons, List.sum_cons, List.sum_cons, ih]; omega
theorem sum_nats (l : List Nat) (s : S) : callB .sum [.lst (l.map nat)] s = .ok (nat l.sum) s := by
  show (match intsO (l.map nat) with
      | some ns => .ok (.int ns.sum) s
      | _ => .stuck : Res D) = _
  rw [show l.map nat = l.map (fun x : Nat => D.int ((fun n : Nat => (n : Int)) x)) from rfl, intsO_map]
  dsimp only
  rw [sum_cast]
theorem blsO_map (f : α → Bool) : ∀ l : List α, blsO (l.map fun x => D.bl (f x)) = some (l.map f)
  | [] => rfl
  | x :: r => by
    have ih := blsO_map f r
    unfold blsO at ih ⊢
    rw [List.map_cons, mapO]
    dsimp only
    rw [ih]
    rfl
theorem all_bls (f : α → Bool) (l : List α) (s : S) : callB .all [.lst (l.map fun x => D.bl (f x))] s = .ok (.bl (l.all f)) s := by
  show (match blsO (l.map fun x => D.bl (f x)) with
      | some ns => .ok (.bl (ns.all id)) s
      | _ => .stuck : Res D) = _
  rw [blsO_map]
  dsimp only
  rw [List.all_map]
  rfl
theorem int_bl (p : Bool) (s : S) : callB .int [.bl p] s = .ok (nat (if p = true then 1 else 0)) s := by cases p <;> rfl
theorem int_int (a : Int) (s : S) : callB .int [.int a] s = .ok (.int a) s := rfl
theorem list_tup (ds : List D) (s : S) : callB .list [.tup ds] s = .ok (.lst ds) s := rfl
theorem list_lst (ds : List D) (s : S) : callB .list [.lst ds] s = .ok (.lst ds) s := rfl
theorem tuple_lst (ds : List D) (s : S) : callB .tuple [.lst ds] s = .ok (.tup ds) s := rfl
theorem tuple_tup (ds : List D) (s : S) : callB .tuple [.tup ds] s = .ok (.tup ds) s := rfl
theorem listN_tup (ds : List D) (s : S) : listN [.tup ds] s = .ok ds s := rfl
theorem listN_lst (ds : List D) (s : S) : listN [.lst ds] s = .ok ds s := rfl
/-! ### sequences -/
@[simp] theorem seqOf_tup : seqOf s (.tup ds) = some ds := Eq.trans rfl rfl
@[simp] theorem seqOf_lst : seqOf s (.lst ds) = some ds := Eq.trans rfl rfl
@[simp] theorem lstOf_lst : lstOf s (.lst ds) = some ds := Eq.trans rfl rfl
@[simp] theorem kindL_tup : kindL (.tup ds) = false := Eq.trans rfl rfl
@[simp] theorem kindL_lst : kindL (.lst ds) = true := Eq.trans rfl rfl
@[simp] theorem srcOf_tup : srcOf (.tup ds) es = [] := Eq.trans rfl rfl
@[simp] theorem srcOf_lst : srcOf (.lst ds) es = [] := Eq.trans rfl rfl
theorem zip2_map {e : α → D} {f : β → D} : ∀ (l : List α) (m : List β), zip2 (l.map e) (m.map f) = (l.zip m).map fun p => .tup [e p.1, f p.2]
  | [], m => by cases m <;> rfl
  | x :: r, [] => rfl
  | x :: r, y :: t => by
    rw [List.map_cons, List.map_cons, zip2, zip2_map r t]
    rfl
theorem enumF_map {e : α → D} : ∀ (i : Nat) (l : List α), enumF i (l.map e) = (l.zipIdx i).map fun p => .tup [nat p.2, e p.1]
  | _, [] => rfl
  | i, x :: r => by
    rw [List.map_cons, enumF, enumF_map (i + 1) r]
    rfl
/-- xs[:k], xs[k:] -/
theorem cutL_take (xs : List D) (k : Nat) : cutL xs none (some (k : Int)) = xs.take k := by
  unfold cutL clip
  dsimp only
  rw [if_neg (by omega), List.drop_zero, Nat.sub_zero]
  rw [show ((k : Nat) : Int).toNat = k from rfl]
  by_cases h : k ≤ xs.length
  · rw [Nat.min_eq_left h]
  · rw [Nat.min_eq_right (by omega), List.take_length, List.take_of_length_le (by omega)]
theorem cutL_drop (xs : List D) (k : Nat) : cutL xs (some (k : Int)) none = xs.drop k := by
  unfold cutL clip
  dsimp only
  rw [if_neg (by omega), show ((k : Nat) : Int).toNat = k from rfl]
  by_cases h : k ≤ xs.length
  · rw [Nat.min_eq_left h]
    exact List.take_of_length_le (by rw [List.length_drop]; omega)
  · rw [Nat.min_eq_right (by omega), List.drop_length, List.drop_of_length_le (by omega), List.take_nil]
theorem cut_take (xs : List D) (k : Nat) (s : S) : cutD (.tup xs) none (some (k : Int)) s = .ok (.tup (xs.take k)) s := by rw [← cutL_take]; rfl
theorem cut_drop (xs : List D) (k : Nat) (s : S) : cutD (.tup xs) (some (k : Int)) none s = .ok (.tup (xs.drop k)) s := by rw [← cutL_drop]; rfl
theorem cut_takeL (xs : List D) (k : Nat) (s : S) : cutD (.lst xs) none (some (k : Int)) s = .ok (.lst (xs.take k)) s := by rw [← cutL_take]; rfl
theorem cut_dropL (xs : List D) (k : Nat) (s : S) : cutD (.lst xs) (some (k : Int)) none s = .ok (.lst (xs.drop k)) s := by rw [← cutL_drop]; rfl
theorem pick_map (l : List α) (e : α → D) (i : Nat) {x : α} (h : l[i]? = some x) : pick (l.map e) (i : Nat) = some (e x) := by
  unfold pick
  rw [if_pos (Int.natCast_nonneg i), show ((i : Nat) : Int).toNat = i from rfl, List.getElem?_map, h]
  rfl
theorem get_map {l : List α} {e : α → D} {i : Nat} {x : α} (h : l[i]? = some x) (s : S) : getD (.tup (l.map e)) (nat i) s = .ok (e x) s := by
  show (match pick (l.map e) ((i : Nat) : Int) with
      | some d => .ok d s
      | none => .stuck : Res D) = _
  rw [pick_map l e i h]
theorem get_mapL {l : List α} {e : α → D} {i : Nat} {x : α} (h : l[i]? = some x) (s : S) : getD (.lst (l.map e)) (nat i) s = .ok (e x) s := by
  show (match pick (l.map e) ((i : Nat) : Int) with
      | some d => .ok d s
      | none => .stuck : Res D) = _
  rw [pick_map l e i h]
theorem get_t0 (x : D) (r : List D) (s : S) : getD (.tup (x :: r)) (.int 0) s = .ok x s := rfl
theorem get_t1 (x y : D) (r : List D) (s : S) : getD (.tup (x :: y :: r)) (.int 1) s = .ok y s := rfl
theorem get_t2 (x y z : D) (r : List D) (s : S) : getD (.tup (x :: y :: z :: r)) (.int 2) s = .ok z s := rfl
theorem get_t3 (x y z w : D) (r : List D) (s : S) : getD (.tup (x :: y :: z :: w :: r)) (.int 3) s = .ok w s := rfl
theorem get_l0 (x : D) (r : List D) (s : S) : getD (.lst (x :: r)) (.int 0) s = .ok x s := rfl
theorem get_l1 (x y : D) (r : List D) (s : S) : getD (.lst (x :: y :: r)) (.int 1) s = .ok y s := rfl
theorem get_l2 (x y z : D) (r : List D) (s : S) : getD (.lst (x :: y :: z :: r)) (.int 2) s = .ok z s := rfl
theorem get_l3 (x y z w : D) (r : List D) (s : S) : getD (.lst (x :: y :: z :: w :: r)) (.int 3) s = .ok w s := rfl
end
section
variable {α γ : Type} {s : S} {e : α → D}
/-- a loop that ends early where one is not right; the store stays -/
theorem forL_all {step : D → Rho → S → Res Fl} {R : γ → Rho} {p : α → Bool} {v : D} : ∀ {l : List α} (_ : ∀ x ∈ l, ∀ j, (p x = true → ∃ j', step (e x) (R j) s = .ok (.nx (R j')) s) ∧ (p x = false → step (e x) (R j) s = .ok (.rt v) s)) (j : γ),
    (l.all p = true → ∃ j', forL step [] (l.map e) (R j) s = .ok (.nx (R j')) s) ∧ (l.all p = false → forL step [] (l.map e) (R j) s = .ok (.rt v) s)
  | [], _, j => ⟨fun _ => ⟨j, rfl⟩, fun h => by cases h⟩
  | x :: r, h, j => by
    obtain ⟨h1, h2⟩ := h x (List.mem_cons_self ..) j
    rw [List.map_cons]
    unfold forL
    rw [if_pos (still_nil _), List.all_cons]
    cases q : p x with
    | true =>
      obtain ⟨j', h1⟩ := h1 q
      obtain ⟨k1, k2⟩ := forL_all (l := r) (fun y hy => h y (List.mem_cons_of_mem _ hy)) j'
      rw [h1, Res.bind_ok]
      exact ⟨fun z => k1 (by simpa using z), fun z => k2 (by simpa using z)⟩
    | false =>
      rw [h2 q, Res.bind_ok]
      exact ⟨fun z => by simp at z, fun _ => rfl⟩
theorem for_all {to : D → Rho → Option Rho} {B : Rho → S → Res Fl} {R : γ → Rho} {p : α → Bool} {v : D} {l : List α} (h : ∀ x ∈ l, ∀ j, ∃ ρ, to (e x) (R j) = some ρ ∧ (p x = true → ∃ j', B ρ s = .ok (.nx (R j')) s) ∧ (p x = false → B ρ s = .ok (.rt v) s)) (j : γ) :
    (l.all p = true → ∃ j', forR (R j) (.ok ⟨l.map e, []⟩ s) to B = .ok (.nx (R j')) s) ∧ (l.all p = false → forR (R j) (.ok ⟨l.map e, []⟩ s) to B = .ok (.rt v) s) := by
  rw [forR_ok]
  exact forL_all (fun x hx j => by
    obtain ⟨ρ, h0, h1, h2⟩ := h x hx j
    exact ⟨fun q => by
      obtain ⟨j', h1⟩ := h1 q
      exact ⟨j', by rw [h0]; exact h1⟩, fun q => by rw [h0]; exact h2 q⟩) j
/-- a loop whose slots fold -/
theorem for_fold {β : Type} {to : D → Rho → Option Rho} {B : Rho → S → Res Fl} {R : γ → β → Rho} {f : β → α → β} {l : List α} (h : ∀ j b x, x ∈ l → ∃ ρ j', to (e x) (R j b) = some ρ ∧ B ρ s = .ok (.nx (R j' (f b x))) s) (j : γ) (b : β) :
    ∃ j', forR (R j b) (.ok ⟨l.map e, []⟩ s) to B = .ok (.nx (R j' (l.foldl f b))) s := by
  rw [forR_ok]
  exact forL_fold (St := fun _ => s) (R := R) (fun j b x hx => by
    obtain ⟨ρ, j', h0, h1⟩ := h j b x hx
    exact ⟨j', by rw [h0]; exact h1⟩) j b
/-- the same with a bound on what is gathered -/
theorem for_foldI {β : Type} {to : D → Rho → Option Rho} {B : Rho → S → Res Fl} {R : γ → β → Rho} {f : β → α → β} {I : List α → β → Prop} {l : List α} (b : β) (h0 : I [] b) (hI : ∀ p x q b, l = p ++ x :: q → I p b → I (p ++ [x]) (f b x)) (h : ∀ j b p x q, l = p ++ x :: q → I p b → ∃ ρ j', to (e x) (R j b) = some ρ ∧ B ρ s = .ok (.nx (R j' (f b x))) s) (j : γ) :
    ∃ j', forR (R j b) (.ok ⟨l.map e, []⟩ s) to B = .ok (.nx (R j' (l.foldl f b))) s := by
  rw [forR_ok]
  have main : ∀ (r p : List α) (b : β) (j : γ), l = p ++ r → I p b → ∃ j', forL (fun d ρ s => match to d ρ with
  | some ρ => B ρ s
  | none => .stuck) [] (r.map e) (R j b) s = .ok (.nx (R j' (r.foldl f b))) s := by
    intro r
    induction r with
    | nil => intro p b j _ _; exact ⟨j, rfl⟩
    | cons x r ih =>
      intro p b j hl i
      obtain ⟨ρ, j', g0, g1⟩ := h j b p x r hl i
      obtain ⟨j2, g2⟩ := ih (p ++ [x]) (f b x) j' (by rw [hl, List.append_assoc]; rfl) (hI p x r b hl i)
      refine ⟨j2, ?_⟩
      rw [List.map_cons]
      unfold forL
      rw [if_pos (still_nil _), g0]
      dsimp only
      rw [g1, Res.bind_ok]
      exact g2
  exact main l [] b j rfl h0
end
/-! ### walks that change the store -/
section
variable {α : Type} {e : α → D} {step : D → S → Res (Option D)} {T : S → S → Prop}
/-- each turn keeps or drops, as it likes; the store goes on by T -/
theorem comp_sub {β : Type} {g : α → D} (rf : ∀ s, T s s) (tr : ∀ a b c, T a b → T b c → T a c) (s0 : S) : ∀ {l : List α} {s : S}, T s0 s → (∀ x ∈ l, ∀ s, T s0 s → ∃ (b : Bool) (s' : S), step (e x) s = .ok (if b = true then some (g x) else none) s' ∧ T s s') →
    ∃ (l' : List α) (s' : S), compL step [] (l.map e) s = .ok (l'.map g) s' ∧ T s s' ∧ l'.Sublist l
  | [], s, _, _ => ⟨[], s, rfl, rf s, .slnil⟩
  | x :: r, s, h0, h => by
    obtain ⟨b, s1, h1, t1⟩ := h x (List.mem_cons_self ..) s h0
    obtain ⟨l', s2, h2, t2, q2⟩ := comp_sub (β := β) rf tr s0 (l := r) (s := s1) (tr _ _ _ h0 t1) (fun y hy => h y (List.mem_cons_of_mem _ hy))
    rw [List.map_cons]
    unfold compL
    cases b with
    | true =>
      refine ⟨x :: l', s2, ?_, tr _ _ _ t1 t2, q2.cons_cons x⟩
      rw [if_pos (still_nil _), h1, Res.bind_ok, h2, Res.bind_ok]
      rfl
    | false =>
      refine ⟨l', s2, ?_, tr _ _ _ t1 t2, q2.cons x⟩
      rw [if_pos (still_nil _), h1, Res.bind_ok, h2, Res.bind_ok]
      rfl
theorem comp_each {β : Type} {g : β → D} {k : β → α} {Q : β → Prop} (rf : ∀ s, T s s) (tr : ∀ a b c, T a b → T b c → T a c) (s0 : S) : ∀ {l : List α} {s : S}, T s0 s → (∀ x ∈ l, ∀ s, T s0 s → ∃ (y : β) (s' : S), step (e x) s = .ok (some (g y)) s' ∧ T s s' ∧ k y = x ∧ Q y) →
    ∃ (l' : List β) (s' : S), compL step [] (l.map e) s = .ok (l'.map g) s' ∧ T s s' ∧ l'.map k = l ∧ ∀ y ∈ l', Q y
  | [], s, _, _ => ⟨[], s, rfl, rf s, rfl, fun y hy => by cases hy⟩
  | x :: r, s, h0, h => by
    obtain ⟨y, s1, h1, t1, k1, q1⟩ := h x (List.mem_cons_self ..) s h0
    obtain ⟨l', s2, h2, t2, k2, q2⟩ := comp_each rf tr s0 (l := r) (s := s1) (tr _ _ _ h0 t1) (fun y hy => h y (List.mem_cons_of_mem _ hy))
    rw [List.map_cons]
    unfold compL
    refine ⟨y :: l', s2, ?_, tr _ _ _ t1 t2, by rw [List.map_cons, k1, k2], fun z hz => ?_⟩
    · rw [if_pos (still_nil _), h1, Res.bind_ok, h2, Res.bind_ok]
      rfl
    · rcases List.mem_cons.mp hz with rfl | hz
      · exact q1
      · exact q2 z hz
theorem compR_of {l : List α} {ds : List D} {s s' : S} (hl : l.length ≤ line) (h : compL step [] (l.map e) s = .ok ds s') : compR (.ok ⟨l.map e, []⟩ s) step = .ok ds s' := by
  unfold compR
  rw [Res.bind_ok]
  dsimp only
  rw [h]
  show (if (l.map e).length ≤ line then .ok ds s' else (.stuck : Res (List D))) = _
  rw [if_pos (by rw [List.length_map]; exact hl)]
end
end DL
set_option Elab.async false
set_option linter.all false
set_option maxRecDepth 100000
set_option maxHeartbeats 4000000
/-! Runs in plain Lean, part 5: the pot of numbers, own lists of a def. -/
namespace DL
open PySem
/-- a loop whose slots and store are known by what was walked -/
theorem for_st {α : Type} {e : α → D} {to : D → Rho → Option Rho} {B : Rho → S → Res Fl} {J : List α → Rho → S → Prop} {l : List α}
    (h : ∀ p x q, l = p ++ x :: q → ∀ ρ s, J p ρ s → ∃ ρ1, to (e x) ρ = some ρ1 ∧ ∃ ρ' s', B ρ1 s = .ok (.nx ρ') s' ∧ J (p ++ [x]) ρ' s') {ρ : Rho} {s : S} (j : J [] ρ s) :
    ∃ ρ' s', forR ρ (.ok ⟨l.map e, []⟩ s) to B = .ok (.nx ρ') s' ∧ J l ρ' s' := by
  rw [forR_ok]
  have main : ∀ (r p : List α) (ρ : Rho) (s : S), l = p ++ r → J p ρ s → ∃ ρ' s', forL (fun d ρ s => match to d ρ with
  | some ρ => B ρ s
  | none => .stuck) [] (r.map e) ρ s = .ok (.nx ρ') s' ∧ J l ρ' s' := by
    intro r
    induction r with
    | nil =>
      intro p ρ s hl j
      rw [List.append_nil] at hl
      exact ⟨ρ, s, rfl, hl ▸ j⟩
    | cons x r ih =>
      intro p ρ s hl j
      obtain ⟨ρ1, g0, ρ2, s2, g1, j2⟩ := h p x r hl ρ s j
      obtain ⟨ρ3, s3, g2, j3⟩ := ih (p ++ [x]) ρ2 s2 (by rw [hl, List.append_assoc]; rfl) j2
      refine ⟨ρ3, s3, ?_, j3⟩
      rw [List.map_cons]
      unfold forL
      rw [if_pos (still_nil _), g0]
      dsimp only
      rw [g1, Res.bind_ok]
      exact g2
  exact main l [] ρ s rfl j
/-! ### the pot -/
def Pot (s : S) (k : Nat) : Prop := ∃ a b : Int, s.get k = some (.lst [.int a, .int b]) ∧ 0 ≤ a ∧ 0 ≤ b ∧ b < 4294967296
/-- but for the pot all is as it was -/
structure PE (k : Nat) (s s' : S) : Prop where
  sz : s'.size = s.size
  at_ : ∀ i, i ≠ k → s'.get i = s.get i
  pot : Pot s k → Pot s' k
theorem PE.refl (k : Nat) (s : S) : PE k s s := ⟨rfl, fun _ _ => rfl, id⟩
theorem PE.trans {k : Nat} {a b c : S} (h : PE k a b) (g : PE k b c) : PE k a c := ⟨g.sz.trans h.sz, fun i hi => (g.at_ i hi).trans (h.at_ i hi), fun p => g.pot (h.pot p)⟩
theorem Pot.lt {s : S} {k : Nat} (h : Pot s k) : k < s.size := by
  obtain ⟨a, b, h, _⟩ := h
  by_cases q : k < s.size
  · exact q
  · exfalso
    unfold S.get at h
    rw [List.getElem?_eq_none (Nat.le_of_not_lt q)] at h
    cases h
/-- a def's own lists behind the store; the pot may change -/
structure Fr (k : Nat) (s X : S) (ls : List (List D)) : Prop where
  sz : X.size = s.size + ls.length
  old : ∀ i, i < s.size → i ≠ k → X.get i = s.get i
  own : ∀ j l, ls[j]? = some l → X.get (s.size + j) = some (.lst l)
  pot : Pot X k
  lt : k < s.size
theorem Fr.start {k : Nat} {s : S} (h : Pot s k) : Fr k s s [] := ⟨rfl, fun _ _ _ => rfl, fun j l e => (by rw [List.getElem?_nil] at e; cases e), h, h.lt⟩
theorem Fr.push {k : Nat} {s X : S} {ls : List (List D)} (h : Fr k s X ls) (l : List D) : Fr k s (X.push (.lst l)) (ls ++ [l]) := by
  refine ⟨?_, fun i hi ne => ?_, fun j m e => ?_, ?_, h.lt⟩
  · rw [S.size_push, h.sz, List.length_append]; rfl
  · rw [S.get_push, if_neg (by rw [h.sz]; omega)]
    exact h.old i hi ne
  · rw [S.get_push]
    by_cases q : j < ls.length
    · rw [if_neg (by rw [h.sz]; omega)]
      rw [List.getElem?_append_left q] at e
      exact h.own j m e
    · have : j = ls.length := by
        by_cases z : j = ls.length
        · exact z
        · rw [List.getElem?_eq_none (by rw [List.length_append, List.length_cons, List.length_nil]; omega)] at e
          cases e
      subst this
      rw [if_pos (by rw [h.sz])]
      rw [List.getElem?_append_right (Nat.le_refl _), Nat.sub_self] at e
      injection e with e
      rw [e]
  · obtain ⟨a, b, g, r⟩ := h.pot
    refine ⟨a, b, ?_, r⟩
    rw [S.get_push, if_neg (by have := h.lt; rw [h.sz]; omega)]
    exact g
theorem Fr.pe {k : Nat} {s X Y : S} {ls : List (List D)} (h : Fr k s X ls) (p : PE k X Y) : Fr k s Y ls :=
  ⟨p.sz.trans h.sz, fun i hi ne => (p.at_ i ne).trans (h.old i hi ne), fun j l e => (p.at_ _ (by have := h.lt; omega)).trans (h.own j l e), p.pot h.pot, h.lt⟩
theorem Fr.put {k : Nat} {s X : S} {ls : List (List D)} (h : Fr k s X ls) {j : Nat} (hj : j < ls.length) (l : List D) : Fr k s (X.put (s.size + j) (.lst l)) (ls.set j l) := by
  have lt : s.size + j < X.size := by rw [h.sz]; omega
  refine ⟨?_, fun i hi ne => ?_, fun i m e => ?_, ?_, h.lt⟩
  · rw [S.size_put, h.sz, List.length_set]
  · rw [S.get_put _ _ _ _ lt, if_neg (by omega)]
    exact h.old i hi ne
  · rw [S.get_put _ _ _ _ lt]
    by_cases q : i = j
    · subst q
      rw [if_pos rfl]
      rw [List.getElem?_set_self hj] at e
      injection e with e
      rw [e]
    · rw [if_neg (by omega)]
      rw [List.getElem?_set_ne (by omega)] at e
      exact h.own i m e
  · obtain ⟨a, b, g, r⟩ := h.pot
    refine ⟨a, b, ?_, r⟩
    rw [S.get_put _ _ _ _ lt, if_neg (by have := h.lt; omega)]
    exact g
theorem Fr.append {k : Nat} {s X : S} {ls : List (List D)} (h : Fr k s X ls) {j : Nat} {l : List D} (e : ls[j]? = some l) (d : D) (hl : l.length < line) : ∃ Y, appendD (.mref (s.size + j)) d X = .ok () Y ∧ Fr k s Y (ls.set j (l ++ [d])) := by
  have hj : j < ls.length := by
    by_cases q : j < ls.length
    · exact q
    · rw [List.getElem?_eq_none (by omega)] at e
      cases e
  refine ⟨X.put (s.size + j) (.lst (l ++ [d])), ?_, h.put hj _⟩
  unfold appendD
  dsimp only
  rw [h.own j l e]
  dsimp only
  rw [if_pos hl]
theorem Fr.extend {k : Nat} {s X : S} {ls : List (List D)} (h : Fr k s X ls) {j : Nat} {l : List D} (e : ls[j]? = some l) (es : List D) (hl : l.length + es.length ≤ line) : ∃ Y, extendD (.mref (s.size + j)) (.lst es) X = .ok () Y ∧ Fr k s Y (ls.set j (l ++ es)) := by
  have hj : j < ls.length := by
    by_cases q : j < ls.length
    · exact q
    · rw [List.getElem?_eq_none (by omega)] at e
      cases e
  refine ⟨X.put (s.size + j) (.lst (l ++ es)), ?_, h.put hj _⟩
  unfold extendD
  dsimp only
  rw [h.own j l e, show lstOf X (.lst es) = some es from rfl]
  dsimp only
  rw [if_pos hl]
theorem Fr.lstOf {k : Nat} {s X : S} {ls : List (List D)} (h : Fr k s X ls) {j : Nat} {l : List D} (e : ls[j]? = some l) : DL.lstOf X (.mref (s.size + j)) = some l := by
  show (match X.get (s.size + j) with
    | some (.lst ds) => some ds
    | _ => none) = _
  rw [h.own j l e]
theorem Fr.seqOf {k : Nat} {s X : S} {ls : List (List D)} (h : Fr k s X ls) {j : Nat} {l : List D} (e : ls[j]? = some l) : DL.seqOf X (.mref (s.size + j)) = some l := by
  show (match X.get (s.size + j) with
    | some (.lst ds) => some ds
    | _ => none) = _
  rw [h.own j l e]
theorem plainMO_pot {s : S} {k : Nat} (h : Pot s k) : plainMO (s.get k) = true := by
  obtain ⟨a, b, g, _⟩ := h
  rw [g]
  rfl
theorem get_none {s : S} {i : Nat} (h : s.size ≤ i) : s.get i = none := by
  unfold S.get
  rw [List.getElem?_eq_none h]
theorem Fr.back {k : Nat} {s X : S} {ls : List (List D)} (h : Fr k s X ls) {d : D} (hd : d.plain = true) : ∃ Y, DL.back s d X = Y ∧ PE k s Y := by
  refine ⟨_, rfl, ?_⟩
  unfold DL.back
  rw [if_pos ⟨hd, fun i hi => by
    by_cases q : i = k
    · subst q; exact .inr (plainMO_pot h.pot)
    · exact .inl (h.old i hi q)⟩]
  have sz : (S.mk (X.cells.take s.size)).size = s.size := by
    show (X.cells.take s.size).length = s.size
    rw [List.length_take]
    exact Nat.min_eq_left (show s.size ≤ X.size by rw [h.sz]; omega)
  refine ⟨sz, fun i ne => ?_, fun _ => ?_⟩
  · rw [get_take]
    by_cases hi : i < s.size
    · rw [if_pos hi]; exact h.old i hi ne
    · rw [if_neg hi, get_none (by omega)]
  · obtain ⟨a, b, g, r⟩ := h.pot
    refine ⟨a, b, ?_, r⟩
    rw [get_take, if_pos h.lt]
    exact g
theorem Fr.fin {k : Nat} {s X : S} {ls : List (List D)} (h : Fr k s X ls) {d : D} (hd : d.plain = true) : ∃ Y, DL.fin false s (.rt d) X = .ok d Y ∧ PE k s Y := by
  obtain ⟨Y, e, p⟩ := h.back hd
  refine ⟨Y, ?_, p⟩
  show Res.ok d (DL.back s d X) = _
  rw [e]
theorem PE.fr {k : Nat} {s X : S} (h : PE k s X) (p : Pot s k) : Fr k s X [] := (Fr.start p).pe h
theorem PE.fin {k : Nat} {s X : S} (h : PE k s X) (p : Pot s k) {d : D} (hd : d.plain = true) : ∃ Y, DL.fin false s (.rt d) X = .ok d Y ∧ PE k s Y := (h.fr p).fin hd
/-! ### the method of a list that is known -/
theorem recvR_at {f : D → D → S → Res Unit} {x : D} {X : S} {l : List D} {a : S → Res D} {ρ : Rho} (h : lstOf X x = some l) : recvR f (.ok x X) a ρ = ((a X).bind fun d s => f x d s).bind fun _ s => .ok (.nx ρ) s := by
  unfold recvR
  rw [Res.bind_ok, h]
theorem tuple_at {x : D} {X : S} {l : List D} (h : seqOf X x = some l) : callB .tuple [x] X = .ok (.tup l) X := by
  show (match seqOf X x with
    | some xs => .ok (.tup xs) X
    | none => .stuck : Res D) = _
  rw [h]
end DL
set_option Elab.async false
set_option linter.all false
/-! k20, plain: calls, pairs, deals. -/
namespace LK
structure Call where
  people : List (Nat × Nat)
  papers : List (Nat × List Nat)
  ties : List (Nat × Nat)
def pr (a b : Nat) : Nat × Nat := (min a b, max a b)
def tied (c : Call) (a b : Nat) : Bool := decide (pr a b ∈ c.ties)
/-- who of a paper's authors stands in a person's way -/
def barsOf (c : Call) (au : List Nat) (p : Nat) : List Nat := au.filter fun a => decide (a = p) || tied c a p
def whoOf (c : Call) (au : List Nat) : List Nat := (List.range c.people.length).filter fun p => (barsOf c au p).isEmpty
def auOf (c : Call) (i : Nat) : List Nat := (c.papers[i]?.getD (0, [])).2
def pairsOf (c : Call) : List (Nat × Nat) := (List.range c.papers.length).flatMap fun i => (whoOf c (auOf c i)).map fun p => (i, p)
def without (c : Call) (t : Nat × Nat) : Call := { c with ties := c.ties.filter fun u => !decide (u = t) }
def lexLt (p q : Nat × Nat) : Prop := p.1 < q.1 ∨ (p.1 = q.1 ∧ p.2 < q.2)
instance (p q : Nat × Nat) : Decidable (lexLt p q) := by unfold lexLt; infer_instance
structure Good (c : Call) : Prop where
  p1 : 1 ≤ c.people.length
  p8 : c.people.length ≤ 8
  pl : ∀ p ∈ c.people, p.1 ≤ p.2 ∧ p.2 ≤ 9
  r1 : 1 ≤ c.papers.length
  r8 : c.papers.length ≤ 8
  rw : ∀ r ∈ c.papers, 1 ≤ r.1 ∧ r.1 ≤ 4
  ra : ∀ r ∈ c.papers, r.2.Pairwise (· < ·)
  rb : ∀ r ∈ c.papers, ∀ a ∈ r.2, a < c.people.length
  tw : ∀ t ∈ c.ties, t.1 < t.2 ∧ t.2 < c.people.length
  ts : c.ties.Pairwise lexLt
/-! ### how many -/
theorem asc_len' : ∀ (l : List Nat) (a n : Nat), l.Pairwise (· < ·) → (∀ x ∈ l, a ≤ x ∧ x < n) → l.length ≤ n - a
  | [], _, _, _, _ => Nat.zero_le _
  | x :: r, a, n, h, b => by
    rw [List.pairwise_cons] at h
    have h1 := asc_len' r (x + 1) n h.2 fun y hy => ⟨h.1 y hy, (b y (List.mem_cons_of_mem _ hy)).2⟩
    have h2 := b x (List.mem_cons_self ..)
    rw [List.length_cons]
    omega
theorem asc_len {l : List Nat} {n : Nat} (h : l.Pairwise (· < ·)) (b : ∀ x ∈ l, x < n) : l.length ≤ n := asc_len' l 0 n h fun x hx => ⟨Nat.zero_le _, b x hx⟩
theorem Good.au8 {c : Call} (g : Good c) {r : Nat × List Nat} (h : r ∈ c.papers) : r.2.length ≤ 8 := Nat.le_trans (asc_len (g.ra r h) (g.rb r h)) g.p8
theorem Good.ties64 {c : Call} (g : Good c) : c.ties.length ≤ 64 := by
  have h : (c.ties.map fun t => 8 * t.1 + t.2).length ≤ 64 := by
    refine asc_len ?_ ?_
    · rw [List.pairwise_map]
      refine List.Pairwise.imp_of_mem ?_ g.ts
      intro a b ha hb hl
      have h1 := g.tw a ha
      have h2 := g.tw b hb
      have h3 := g.p8
      unfold lexLt at hl
      omega
    · intro x hx
      obtain ⟨t, ht, rfl⟩ := List.mem_map.mp hx
      have h1 := g.tw t ht
      have h3 := g.p8
      omega
  rwa [List.length_map] at h
theorem Good.at_ {c : Call} (g : Good c) {i : Nat} (h : i < c.papers.length) : ∃ w, c.papers[i]? = some (w, auOf c i) ∧ (w, auOf c i) ∈ c.papers := by
  have e := List.getElem?_eq_getElem h
  have e2 : auOf c i = c.papers[i].2 := by unfold auOf; rw [e]; rfl
  refine ⟨c.papers[i].1, ?_, ?_⟩
  · rw [e2, e]
  · rw [e2]
    exact List.getElem_mem h
theorem auOf_mem {c : Call} {i : Nat} (h : i < c.papers.length) : ∃ w, (w, auOf c i) ∈ c.papers := by
  have e := List.getElem?_eq_getElem h
  refine ⟨c.papers[i].1, ?_⟩
  have e2 : auOf c i = c.papers[i].2 := by unfold auOf; rw [e]; rfl
  rw [e2]
  exact List.getElem_mem h
theorem whoOf_len (c : Call) (au : List Nat) : (whoOf c au).length ≤ c.people.length := by
  unfold whoOf
  refine Nat.le_trans (List.length_filter_le ..) ?_
  rw [List.length_range]; exact Nat.le_refl _
theorem without_good {c : Call} (g : Good c) (t : Nat × Nat) : Good (without c t) where
  p1 := g.p1
  p8 := g.p8
  pl := g.pl
  r1 := g.r1
  r8 := g.r8
  rw := g.rw
  ra := g.ra
  rb := g.rb
  tw := fun u hu => g.tw u (List.mem_filter.mp hu).1
  ts := g.ts.filter _
/-! ### fewer ties, more pairs -/
theorem bars_mono {c d : Call} (h : ∀ t ∈ d.ties, t ∈ c.ties) (au : List Nat) (p : Nat) (e : (barsOf c au p).isEmpty = true) : (barsOf d au p).isEmpty = true := by
  unfold barsOf at *
  rw [List.isEmpty_iff, List.filter_eq_nil_iff] at *
  intro a ha q
  refine e a ha ?_
  rw [Bool.or_eq_true] at *
  rcases q with q | q
  · exact .inl q
  · refine .inr ?_
    unfold tied at *
    rw [decide_eq_true_eq] at *
    exact h _ q
theorem who_mono {c d : Call} (hp : c.people.length = d.people.length) (h : ∀ t ∈ d.ties, t ∈ c.ties) (au : List Nat) (p : Nat) (e : p ∈ whoOf c au) : p ∈ whoOf d au := by
  unfold whoOf at *
  rw [List.mem_filter] at *
  rw [← hp]
  exact ⟨e.1, bars_mono h au p e.2⟩
theorem mem_pairs {c : Call} {i p : Nat} : (i, p) ∈ pairsOf c ↔ i < c.papers.length ∧ p ∈ whoOf c (auOf c i) := by
  unfold pairsOf
  rw [List.mem_flatMap]
  constructor
  · rintro ⟨j, hj, h⟩
    obtain ⟨q, hq, e⟩ := List.mem_map.mp h
    injection e with e1 e2
    subst e1 e2
    exact ⟨List.mem_range.mp hj, hq⟩
  · rintro ⟨h1, h2⟩
    exact ⟨i, List.mem_range.mpr h1, List.mem_map.mpr ⟨p, h2, rfl⟩⟩
theorem pairs_mono {c d : Call} (hp : c.people.length = d.people.length) (hr : d.papers = c.papers) (h : ∀ t ∈ d.ties, t ∈ c.ties) {x : Nat × Nat} (e : x ∈ pairsOf c) : x ∈ pairsOf d := by
  obtain ⟨i, p⟩ := x
  rw [mem_pairs] at *
  have a : auOf d i = auOf c i := by unfold auOf; rw [hr]
  rw [hr, a]
  exact ⟨e.1, who_mono hp h _ _ e.2⟩
def grid (m n : Nat) : List (Nat × Nat) := (List.range m).flatMap fun i => (List.range n).map fun p => (i, p)
theorem pairs_grid (c : Call) : pairsOf c = (grid c.papers.length c.people.length).filter fun x => (barsOf c (auOf c x.1) x.2).isEmpty := by
  unfold pairsOf grid
  rw [List.filter_flatMap]
  congr 1
  funext i
  rw [List.filter_map]
  rfl
theorem filter_le {α : Type} {P Q : α → Bool} : ∀ (l : List α), (∀ x ∈ l, P x = true → Q x = true) → (l.filter P).length ≤ (l.filter Q).length ∧ ((l.filter P).length < (l.filter Q).length ↔ ∃ x ∈ l, Q x = true ∧ P x = false)
  | [], _ => ⟨Nat.le_refl _, by simp⟩
  | a :: r, h => by
    obtain ⟨h1, h2⟩ := filter_le r fun x hx => h x (List.mem_cons_of_mem _ hx)
    have ha := h a (List.mem_cons_self ..)
    rw [List.filter_cons, List.filter_cons]
    cases p : P a with
    | true =>
      rw [ha p, if_pos rfl, if_pos rfl, List.length_cons, List.length_cons]
      refine ⟨by omega, ?_⟩
      rw [Nat.add_lt_add_iff_right, h2]
      constructor
      · rintro ⟨x, hx, q⟩
        exact ⟨x, List.mem_cons_of_mem _ hx, q⟩
      · rintro ⟨x, hx, q1, q2⟩
        rcases List.mem_cons.mp hx with rfl | hx
        · rw [p] at q2; cases q2
        · exact ⟨x, hx, q1, q2⟩
    | false =>
      cases q : Q a with
      | true =>
        rw [if_neg (by decide), if_pos rfl, List.length_cons]
        exact ⟨by omega, fun _ => ⟨a, List.mem_cons_self .., q, p⟩, fun _ => by omega⟩
      | false =>
        rw [if_neg (by decide), if_neg (by decide)]
        refine ⟨h1, ?_⟩
        rw [h2]
        constructor
        · rintro ⟨x, hx, z⟩
          exact ⟨x, List.mem_cons_of_mem _ hx, z⟩
        · rintro ⟨x, hx, q1, q2⟩
          rcases List.mem_cons.mp hx with rfl | hx
          · rw [q] at q1; cases q1
          · exact ⟨x, hx, q1, q2⟩
theorem sub_ties {c : Call} {t : Nat × Nat} : ∀ u ∈ (without c t).ties, u ∈ c.ties := fun u hu => (List.mem_filter.mp hu).1
/-- a tie counts by how many, by which -/
theorem counts_iff (c : Call) (t : Nat × Nat) : (pairsOf c).length < (pairsOf (without c t)).length ↔ ∃ x ∈ pairsOf (without c t), x ∉ pairsOf c := by
  have e := pairs_grid (without c t)
  rw [show (without c t).papers = c.papers from rfl, show (without c t).people = c.people from rfl] at e
  have f := pairs_grid c
  have := (filter_le (P := fun x => (barsOf c (auOf c x.1) x.2).isEmpty) (Q := fun x => (barsOf (without c t) (auOf (without c t) x.1) x.2).isEmpty) (grid c.papers.length c.people.length) (fun x _ h => by exact bars_mono (c := c) (d := without c t) sub_ties (auOf c x.1) x.2 h)).2
  rw [← e, ← f] at this
  rw [this]
  constructor
  · rintro ⟨x, hx, h1, h2⟩
    refine ⟨x, ?_, ?_⟩
    · rw [e]
      exact List.mem_filter.mpr ⟨hx, h1⟩
    · rw [f]
      intro z
      have := (List.mem_filter.mp z).2
      rw [h2] at this
      cases this
  · rintro ⟨x, h1, h2⟩
    rw [e] at h1
    rw [f] at h2
    obtain ⟨a, b⟩ := List.mem_filter.mp h1
    refine ⟨x, a, b, ?_⟩
    cases z : (barsOf c (auOf c x.1) x.2).isEmpty with
    | false => rfl
    | true => exact absurd (List.mem_filter.mpr ⟨a, z⟩) h2
/-! ### a tie that counts alone -/
theorem nodup_single {l : List Nat} {a : Nat} (h : l.Pairwise (· < ·)) (ne : l ≠ []) (all : ∀ x ∈ l, x = a) : l = [a] := by
  match l, h, ne, all with
  | [x], _, _, all => rw [all x (List.mem_cons_self ..)]
  | x :: y :: r, h, _, all =>
    have h1 := all x (by simp)
    have h2 := all y (by simp)
    rw [List.pairwise_cons] at h
    have := h.1 y (by simp)
    omega
theorem alone_iff {c : Call} (g : Good c) {t : Nat × Nat} (ht : t ∈ c.ties) : (∃ x ∈ pairsOf (without c t), x ∉ pairsOf c) ↔ ∃ i, i < c.papers.length ∧ ∃ y, (y = (t.1, t.2) ∨ y = (t.2, t.1)) ∧ y.1 ∈ auOf c i ∧ y.2 ∉ auOf c i ∧ barsOf c (auOf c i) y.2 = [y.1] := by
  have tw := g.tw t ht
  constructor
  · rintro ⟨⟨i, p⟩, h1, h2⟩
    rw [mem_pairs] at h1 h2
    obtain ⟨hi, h1⟩ := h1
    replace hi : i < c.papers.length := hi
    obtain ⟨w, hw⟩ := auOf_mem hi
    replace h2 : p ∉ whoOf c (auOf c i) := fun z => h2 ⟨hi, z⟩
    replace h1 : p ∈ whoOf (without c t) (auOf c i) := h1
    unfold whoOf at h1 h2
    rw [List.mem_filter] at h1 h2
    replace h2 : ¬ (barsOf c (auOf c i) p).isEmpty = true := fun z => h2 ⟨h1.1, z⟩
    have h1 := h1.2
    have key : ∀ a ∈ barsOf c (auOf c i) p, a ≠ p ∧ pr a p = t := by
      intro a ha
      unfold barsOf at ha h1
      rw [List.isEmpty_iff, List.filter_eq_nil_iff] at h1
      obtain ⟨a1, a2⟩ := List.mem_filter.mp ha
      have n := h1 a a1
      rw [Bool.or_eq_true, decide_eq_true_eq] at a2 n
      have np : a ≠ p := fun z => n (.inl z)
      have a2 := a2.resolve_left np
      have n : ¬ tied (without c t) a p = true := fun z => n (.inr z)
      unfold tied at a2 n
      rw [decide_eq_true_eq] at a2 n
      refine ⟨np, ?_⟩
      refine Decidable.byContradiction fun z => n ?_
      exact List.mem_filter.mpr ⟨a2, by rw [decide_eq_false z]; rfl⟩
    have asc : (barsOf c (auOf c i) p).Pairwise (· < ·) := (g.ra _ hw).filter _
    have pn : p ∉ auOf c i := fun z => (key p (List.mem_filter.mpr ⟨z, by simp⟩)).1 rfl
    have ne : barsOf c (auOf c i) p ≠ [] := fun z => h2 (by rw [z]; rfl)
    obtain ⟨a, ha⟩ := List.exists_mem_of_ne_nil _ ne
    have ka := key a ha
    have one : barsOf c (auOf c i) p = [a] := nodup_single asc ne fun x hx => by
      have kx := key x hx
      have e := kx.2.trans ka.2.symm
      unfold pr at e
      injection e with e1 e2
      have := kx.1
      have := ka.1
      omega
    refine ⟨i, hi, (a, p), ?_, (List.mem_filter.mp ha).1, pn, one⟩
    have e := ka.2
    have := ka.1
    unfold pr at e
    have e1 : min a p = t.1 := by rw [← e]
    have e2 : max a p = t.2 := by rw [← e]
    rcases Nat.lt_or_gt_of_ne ka.1 with q | q
    · left
      rw [← e1, ← e2]
      congr 1 <;> omega
    · right
      rw [← e1, ← e2]
      congr 1 <;> omega
  · rintro ⟨i, hi, ⟨a, p⟩, hy, h1, h2, h3⟩
    dsimp only at h1 h2 h3
    have pt : pr a p = t := by
      unfold pr
      rcases hy with hy | hy <;> (injection hy with e1 e2; rw [e1, e2]; obtain ⟨t1, t2⟩ := t; dsimp only at tw ⊢; congr 1 <;> omega)
    have pn : p < c.people.length := by
      rcases hy with hy | hy <;> (injection hy with e1 e2; omega)
    have nap : a ≠ p := by
      rcases hy with hy | hy <;> (injection hy with e1 e2; omega)
    refine ⟨(i, p), ?_, ?_⟩
    · rw [mem_pairs]
      refine ⟨hi, ?_⟩
      show p ∈ whoOf (without c t) (auOf c i)
      unfold whoOf
      rw [List.mem_filter]
      refine ⟨List.mem_range.mpr pn, ?_⟩
      rw [List.isEmpty_iff]
      unfold barsOf
      rw [List.filter_eq_nil_iff]
      intro x hx q
      rw [Bool.or_eq_true, decide_eq_true_eq] at q
      have nx : x ≠ p := fun z => h2 (z ▸ hx)
      have q := q.resolve_left nx
      unfold tied at q
      rw [decide_eq_true_eq] at q
      obtain ⟨q1, q2⟩ := List.mem_filter.mp q
      have : x ∈ barsOf c (auOf c i) p := List.mem_filter.mpr ⟨hx, by
        rw [Bool.or_eq_true]
        exact .inr (decide_eq_true q1)⟩
      rw [h3, List.mem_singleton] at this
      rw [this, pt] at q2
      simp at q2
    · rw [mem_pairs]
      rintro ⟨_, z⟩
      unfold whoOf at z
      have := (List.mem_filter.mp z).2
      rw [h3] at this
      cases this
end LK
set_option Elab.async false
set_option linter.all false
/-! plain: lots, deals. -/
namespace LK
section
variable {α β : Type}
theorem snoc_ind {P : List α → Prop} (h0 : P []) (h1 : ∀ l x, P l → P (l ++ [x])) (l : List α) : P l := by
  have : ∀ r : List α, P r.reverse := by
    intro r
    induction r with
    | nil => exact h0
    | cons x r ih => rw [List.reverse_cons]; exact h1 _ _ ih
  have := this l.reverse
  rwa [List.reverse_reverse] at this
def lots (l : List α) : List (List α) := l.foldl (fun f x => f ++ f.map (· ++ [x])) [[]]
theorem lots_snoc (l : List α) (x : α) : lots (l ++ [x]) = lots l ++ (lots l).map (· ++ [x]) := by
  unfold lots
  rw [List.foldl_append]
  rfl
theorem lots_len (l : List α) : (lots l).length = 2 ^ l.length := by
  refine snoc_ind (P := fun l => (lots l).length = 2 ^ l.length) rfl (fun l x ih => ?_) l
  show (lots (l ++ [x])).length = 2 ^ (l ++ [x]).length
  rw [lots_snoc, List.length_append, List.length_map, ih, List.length_append, List.length_cons, List.length_nil, Nat.pow_succ]
  omega
theorem lots_map (f : α → β) (l : List α) : lots (l.map f) = (lots l).map (List.map f) := by
  refine snoc_ind (P := fun l => lots (l.map f) = (lots l).map (List.map f)) rfl (fun l x ih => ?_) l
  show lots ((l ++ [x]).map f) = (lots (l ++ [x])).map (List.map f)
  rw [List.map_append, List.map_cons, List.map_nil, lots_snoc, lots_snoc, ih, List.map_append, List.map_map, List.map_map]
  congr 1
  refine List.map_congr_left fun a _ => ?_
  show List.map f a ++ [f x] = List.map f (a ++ [x])
  rw [List.map_append]
  rfl
theorem mem_lots (l m : List α) : m ∈ lots l ↔ m.Sublist l := by
  refine snoc_ind (P := fun l => ∀ m, m ∈ lots l ↔ m.Sublist l) (fun m => ?_) (fun l x ih m => ?_) l m
  · show m ∈ [[]] ↔ _
    rw [List.mem_singleton, List.sublist_nil]
  · rw [lots_snoc, List.mem_append, List.sublist_append_iff, List.mem_map]
    constructor
    · rintro (h | ⟨a, h, rfl⟩)
      · exact ⟨m, [], (List.append_nil m).symm, (ih m).mp h, List.nil_sublist _⟩
      · exact ⟨a, [x], rfl, (ih a).mp h, List.Sublist.refl _⟩
    · rintro ⟨a, b, rfl, h1, h2⟩
      cases h2 with
      | cons _ h2 =>
        cases h2
        left
        rw [List.append_nil]
        exact (ih a).mpr h1
      | cons_cons _ h2 =>
        cases h2
        exact .inr ⟨a, (ih a).mpr h1, rfl⟩
theorem lots_le (l : List α) {m : List α} (h : m ∈ lots l) : m.length ≤ l.length := ((mem_lots l m).mp h).length_le
theorem lots_sub (l : List α) {m : List α} (h : m ∈ lots l) {x : α} (hx : x ∈ m) : x ∈ l := ((mem_lots l m).mp h).subset hx
end
/-! ### deals -/
def wantOf (c : Call) (i : Nat) : Nat := (c.papers[i]?.getD (0, [])).1
def leastOf (c : Call) (p : Nat) : Nat := (c.people[p]?.getD (0, 0)).1
def loadOf (c : Call) (p : Nat) : Nat := (c.people[p]?.getD (0, 0)).2
def mayOf (c : Call) (i p : Nat) : Bool := decide (p ∈ whoOf c (auOf c i))
def cntP (c : Call) (lot : List Nat) (p : Nat) : Nat := (lot.filter fun i => mayOf c i p).length
def cntL (c : Call) (lot : List Nat) (i : Nat) : Nat := (lot.filter fun p => mayOf c i p).length
def Pd (c : Call) (lot : List Nat) : Bool := decide ((lot.map (wantOf c)).sum ≤ ((List.range c.people.length).map fun p => min (loadOf c p) (cntP c lot p)).sum)
def Pl (c : Call) (lot : List Nat) : Bool := decide ((lot.map (leastOf c)).sum ≤ ((List.range c.papers.length).map fun i => min (wantOf c i) (cntL c lot i)).sum)
def dealB (c : Call) : Bool := (lots (List.range c.papers.length)).all (Pd c) && (lots (List.range c.people.length)).all (Pl c)
def posP (c : Call) : List Nat := (List.range c.people.length).filter fun p => decide (0 < leastOf c p)
theorem sum_mono {α : Type} {f g : α → Nat} : ∀ (l : List α), (∀ x ∈ l, f x ≤ g x) → (l.map f).sum ≤ (l.map g).sum
  | [], _ => Nat.le_refl _
  | x :: r, h => by
    rw [List.map_cons, List.map_cons, List.sum_cons, List.sum_cons]
    exact Nat.add_le_add (h x (List.mem_cons_self ..)) (sum_mono r fun y hy => h y (List.mem_cons_of_mem _ hy))
theorem sum_pos {f : Nat → Nat} : ∀ (l : List Nat), (l.map f).sum = ((l.filter fun p => decide (0 < f p)).map f).sum
  | [] => rfl
  | x :: r => by
    rw [List.filter_cons, List.map_cons, List.sum_cons, sum_pos r]
    by_cases h : 0 < f x
    · rw [if_pos (decide_eq_true h), List.map_cons, List.sum_cons]
    · rw [if_neg (by simp [h])]
      omega
theorem filter_len_mono {α : Type} {P : α → Bool} {l m : List α} (h : l.Sublist m) : (l.filter P).length ≤ (m.filter P).length := (h.filter P).length_le
/-- only people with a least -/
theorem pl_pos (c : Call) : (lots (posP c)).all (Pl c) = (lots (List.range c.people.length)).all (Pl c) := by
  rw [Bool.eq_iff_iff, List.all_eq_true, List.all_eq_true]
  constructor
  · intro h lot hl
    have h1 := (mem_lots _ _).mp hl
    have h2 := h (lot.filter fun p => decide (0 < leastOf c p)) ((mem_lots _ _).mpr (h1.filter _))
    unfold Pl at h2 ⊢
    rw [decide_eq_true_eq] at h2 ⊢
    rw [sum_pos]
    refine Nat.le_trans h2 (sum_mono _ fun i _ => ?_)
    have := filter_len_mono (P := fun p => mayOf c i p) (List.filter_sublist (p := fun p => decide (0 < leastOf c p)) (l := lot))
    unfold cntL
    omega
  · intro h lot hl
    exact h lot ((mem_lots _ _).mpr (((mem_lots _ _).mp hl).trans List.filter_sublist))
theorem filter_imp_len {α : Type} {P Q : α → Bool} (l : List α) (h : ∀ x ∈ l, P x = true → Q x = true) : (l.filter P).length ≤ (l.filter Q).length := (filter_le l h).1
/-- more pairs, more deals -/
theorem deal_mono {c d : Call} (hp : d.people = c.people) (hr : d.papers = c.papers) (h : ∀ t ∈ d.ties, t ∈ c.ties) (e : dealB c = true) : dealB d = true := by
  have may : ∀ i p, mayOf c i p = true → mayOf d i p = true := by
    intro i p
    unfold mayOf
    rw [decide_eq_true_eq, decide_eq_true_eq, show auOf d i = auOf c i by unfold auOf; rw [hr]]
    exact who_mono (by rw [hp]) h _ _
  unfold dealB at *
  rw [Bool.and_eq_true, List.all_eq_true, List.all_eq_true] at *
  obtain ⟨e1, e2⟩ := e
  refine ⟨fun lot hl => ?_, fun lot hl => ?_⟩
  · rw [hr] at hl
    have q := e1 lot hl
    unfold Pd at q ⊢
    rw [decide_eq_true_eq] at q ⊢
    rw [show wantOf d = wantOf c by funext i; unfold wantOf; rw [hr], show loadOf d = loadOf c by funext i; unfold loadOf; rw [hp], hp]
    refine Nat.le_trans q (sum_mono _ fun p _ => ?_)
    have := filter_imp_len (P := fun i => mayOf c i p) (Q := fun i => mayOf d i p) lot fun i _ => may i p
    unfold cntP
    omega
  · rw [hp] at hl
    have q := e2 lot hl
    unfold Pl at q ⊢
    rw [decide_eq_true_eq] at q ⊢
    rw [show wantOf d = wantOf c by funext i; unfold wantOf; rw [hr], show leastOf d = leastOf c by funext i; unfold leastOf; rw [hp], hr]
    refine Nat.le_trans q (sum_mono _ fun i _ => ?_)
    have := filter_imp_len (P := fun p => mayOf c i p) (Q := fun p => mayOf d i p) lot fun p _ => may i p
    unfold cntL
    omega
/-! ### lists by places -/
theorem map_range {α β : Type} (l : List α) (f : α → β) (a : α) : l.map f = (List.range l.length).map fun i => f (l[i]?.getD a) := by
  refine List.ext_getElem? fun i => ?_
  rw [List.getElem?_map, List.getElem?_map]
  by_cases h : i < l.length
  · rw [List.getElem?_range h, List.getElem?_eq_getElem h]
    simp [h]
  · rw [List.getElem?_eq_none (by omega), List.getElem?_eq_none (by rw [List.length_range]; omega)]
    rfl
theorem zipIdx_range {β : Type} (n : Nat) (h : Nat → β) : ((List.range n).map h).zipIdx 0 = (List.range n).map fun i => (h i, i) := by
  refine List.ext_getElem? fun i => ?_
  rw [List.getElem?_zipIdx, List.getElem?_map, List.getElem?_map]
  by_cases q : i < n
  · rw [List.getElem?_range q]
    simp
  · rw [List.getElem?_eq_none (by rw [List.length_range]; omega)]
    rfl
theorem zip_same {α β γ : Type} (l : List α) (f : α → β) (g : α → γ) : (l.map f).zip (l.map g) = l.map fun x => (f x, g x) := by
  induction l with
  | nil => rfl
  | cons x r ih => rw [List.map_cons, List.map_cons, List.zip_cons_cons, ih]; rfl
end LK
set_option Elab.async false
set_option linter.all false
set_option maxRecDepth 100000
set_option maxHeartbeats 0
namespace LK
open PySem PySem.Spec PyProof.Rows L2 DL
/-! ### the text -/
abbrev LW : PySem.W.OpenLaw := PySem.Challenge.rw_calledpapers_k20_whole_ties_that_count
def top (i : Nat) : Stmt := LW.prog.main.body.getD i (.Pass ⟨0, 0, 0, 0⟩)
def dD (n : Str) (i : Nat) : He.DefD := ⟨(n, none), n, n, defArgs (top i), defBody (top i), defScope (top i), [], []⟩
def fn : List He.DefD := [dD "is_integer" 1, dD "is_count" 2, dD "is_position" 3, dD "is_rising_tuple" 15, dD "person_is_right" 16, dD "people_are_right" 17, dD "paper_is_right" 18, dD "papers_are_right" 19, dD "tie_is_right" 20, dD "ties_are_right" 21, dD "flaw_of" 22, dD "check_call" 23, dD "check_paper" 24, dD "check_person" 25, dD "check_both" 26, dD "are_tied" 27, dD "bars_of" 28, dD "who_of" 29, dD "pairs_of" 30, dD "is_call" 31, dD "bars" 32, dD "pairs" 33, dD "ties_that_count" 35, dD "asked_of" 37, dD "sums_by_lots" 38, dD "totals_by_lots" 39, dD "turned_may" 40, dD "can_be_dealt" 41, dD "has_deal" 43, dD "check_other" 45, dD "tie_between" 46, dD "with_tie" 47, dD "without_tie" 48, dD "_law_pot" 50, dD "_law_draw" 51, dD "_law_pick" 52, dD "_law_call_of" 53, dD "_law_is_near" 54, dD "_law_who" 55, dD "_law_pairs" 56, dD "_law_lots" 57, dD "_law_plain" 58, dD "_law_has" 59, dD "_law_tied_call" 60, dD "_law_without" 61, dD "_law_counting" 62, dD "_law_ties_right" 63, dD "_law_moved_right" 64, dD "_law_authors_right" 65, dD "_law_right" 66, dD "law" 67]
def fa : List He.Fa := [.glo "is_integer", .glo "is_count", .glo "is_position", .glo "is_rising_tuple", .glo "person_is_right", .glo "people_are_right",
  .glo "paper_is_right", .glo "papers_are_right", .glo "tie_is_right", .glo "ties_are_right", .glo "flaw_of", .glo "check_call",
  .glo "check_paper", .glo "check_person", .glo "check_both", .glo "are_tied", .glo "bars_of", .glo "who_of",
  .glo "pairs_of", .glo "is_call", .glo "bars", .glo "pairs", .glo "ties_that_count", .glo "asked_of",
  .glo "sums_by_lots", .glo "totals_by_lots", .glo "turned_may", .glo "can_be_dealt", .glo "has_deal", .glo "check_other",
  .glo "tie_between", .glo "with_tie", .glo "without_tie", .glo "_law_pot", .glo "_law_draw", .glo "_law_pick",
  .glo "_law_call_of", .glo "_law_is_near", .glo "_law_who", .glo "_law_pairs", .glo "_law_lots", .glo "_law_plain",
  .glo "_law_has", .glo "_law_tied_call", .glo "_law_without", .glo "_law_counting", .glo "_law_ties_right", .glo "_law_moved_right",
  .glo "_law_authors_right", .glo "_law_right", .glo "law", .free "isinstance", .free "int", .free "bool",
  .free "tuple", .free "all", .free "zip", .free "len", .free "str", .free "min",
  .free "max", .free "range", .free "enumerate", .free "sum", .free "sorted", .free "abs",
  .free "divmod", .free "list", .free "repr", .int "MOST_LOAD" 9, .int "MOST_PEOPLE" 8, .int "MOST_WANTS" 4,
  .int "MOST_PAPERS" 8]
def tf : List He.Defn := [("_law_lots", none)]
def loose : List PySem.Str := (["is_integer", "is_count", "is_position", "CallError", "InvalidCall", "InvalidPaper", "InvalidPerson", "InvalidOther", "MOST_PEOPLE", "MOST_PAPERS", "MOST_LOAD", "MOST_WANTS", "is_rising_tuple", "person_is_right", "people_are_right", "paper_is_right", "papers_are_right", "tie_is_right", "ties_are_right", "flaw_of"] : List PySem.Str) ++ (["check_call", "check_paper", "check_person", "check_both", "are_tied", "bars_of", "who_of", "pairs_of", "is_call", "bars", "pairs", "ties_that_count", "asked_of", "sums_by_lots", "totals_by_lots", "turned_may", "can_be_dealt", "has_deal", "check_other", "tie_between"] : List PySem.Str) ++ (["with_tie", "without_tie", "_law_pot", "_law_draw", "_law_pick", "_law_call_of", "_law_is_near", "_law_who", "_law_pairs", "_law_lots", "_law_plain", "_law_has", "_law_tied_call", "_law_without", "_law_counting", "_law_ties_right", "_law_moved_right", "_law_authors_right", "_law_right"] : List PySem.Str)
abbrev hk : PySem.W.Hook := He.hookX 4 fa fn [] tf fun _ => true
def ob (s : PySem.W.SharedT) : He.AlX := He.obsX 4 fa fn [] tf (fun _ => true) (HandSHeadRun.getT s)
theorem ob_eq (s : PySem.W.SharedT) : ob s = hk.obs s.abs := He.obsX_eq (HandSHeadRun.getT_eq s)
/-! ### configurations, runs, checks -/
def b_is_integer : List Stmt := defBody (top 1)
noncomputable def c_is_integer : Cfg where
  N := ["value"]
  G := [("isinstance", .bt .isinst), ("int", .bt .int), ("bool", .bt .bool)]
  mu := []
  keep := false
  lam := false
noncomputable def F_is_integer : Den := runB c_is_integer 1 b_is_integer
def b_are_tied : List Stmt := defBody (top 27)
noncomputable def c_are_tied : Cfg where
  N := ["call", "one", "other"]
  G := [("min", .bt .min), ("max", .bt .max)]
  mu := []
  keep := false
  lam := false
noncomputable def F_are_tied : Den := runB c_are_tied 3 b_are_tied
def b_sums_by_lots : List Stmt := defBody (top 38)
noncomputable def c_sums_by_lots : Cfg where
  N := ["lists", "width", "found", "some", "at", "count", "counts"]
  G := [("int", .bt .int), ("enumerate", .bt .enumerate)]
  mu := []
  keep := false
  lam := false
noncomputable def F_sums_by_lots : Den := runB c_sums_by_lots 2 b_sums_by_lots
def b_totals_by_lots : List Stmt := defBody (top 39)
noncomputable def c_totals_by_lots : Cfg where
  N := ["numbers", "found", "number", "much"]
  G := []
  mu := []
  keep := false
  lam := false
noncomputable def F_totals_by_lots : Den := runB c_totals_by_lots 1 b_totals_by_lots
def b_turned_may : List Stmt := defBody (top 40)
noncomputable def c_turned_may : Cfg where
  N := ["asked", "paper", "may", "person"]
  G := [("enumerate", .bt .enumerate), ("range", .bt .range), ("len", .bt .len)]
  mu := []
  keep := false
  lam := false
noncomputable def F_turned_may : Den := runB c_turned_may 1 b_turned_may
def b_tie_between : List Stmt := defBody (top 46)
noncomputable def c_tie_between : Cfg where
  N := ["one", "other"]
  G := [("min", .bt .min), ("max", .bt .max)]
  mu := []
  keep := false
  lam := false
noncomputable def F_tie_between : Den := runB c_tie_between 2 b_tie_between
def b__law_pot : List Stmt := defBody (top 50)
noncomputable def c__law_pot : Cfg where
  N := ["script", "k", "cell"]
  G := [("len", .bt .len), ("abs", .bt .abs), ("max", .bt .max), ("int", .bt .int)]
  mu := []
  keep := true
  lam := false
noncomputable def F__law_pot : Den := runB c__law_pot 2 b__law_pot
def b__law_draw : List Stmt := defBody (top 51)
noncomputable def c__law_draw : Cfg where
  N := ["pot", "many", "digit"]
  G := [("divmod", .bt .divmod), ("int", .bt .int)]
  mu := []
  keep := false
  lam := false
noncomputable def F__law_draw : Den := runB c__law_draw 2 b__law_draw
def b__law_is_near : List Stmt := defBody (top 54)
noncomputable def c__law_is_near : Cfg where
  N := ["call", "one", "other"]
  G := []
  mu := []
  keep := false
  lam := false
noncomputable def F__law_is_near : Den := runB c__law_is_near 3 b__law_is_near
def b__law_lots : List Stmt := defBody (top 57)
noncomputable def c__law_lots : Cfg where
  N := ["some", "found", "one", "lot"]
  G := [("sorted", .bt .sorted), ("len", .bt .len)]
  mu := []
  keep := false
  lam := true
noncomputable def F__law_lots : Den := runB c__law_lots 1 b__law_lots
def b__law_without : List Stmt := defBody (top 61)
noncomputable def c__law_without : Cfg where
  N := ["call", "tie", "one"]
  G := [("tuple", .bt .tuple)]
  mu := []
  keep := false
  lam := false
noncomputable def F__law_without : Den := runB c__law_without 2 b__law_without
def b_is_count : List Stmt := defBody (top 2)
noncomputable def c_is_count : Cfg where
  N := ["value"]
  G := [("is_integer", .fn ["value"] F_is_integer)]
  mu := []
  keep := false
  lam := false
noncomputable def F_is_count : Den := runB c_is_count 1 b_is_count
def b_is_position : List Stmt := defBody (top 3)
noncomputable def c_is_position : Cfg where
  N := ["value", "many"]
  G := [("is_integer", .fn ["value"] F_is_integer)]
  mu := []
  keep := false
  lam := false
noncomputable def F_is_position : Den := runB c_is_position 2 b_is_position
def b_bars_of : List Stmt := defBody (top 28)
noncomputable def c_bars_of : Cfg where
  N := ["call", "paper", "person", "author"]
  G := [("are_tied", .fn ["call", "one", "other"] F_are_tied)]
  mu := []
  keep := false
  lam := false
noncomputable def F_bars_of : Den := runB c_bars_of 3 b_bars_of
def b_can_be_dealt : List Stmt := defBody (top 41)
noncomputable def c_can_be_dealt : Cfg where
  N := ["asked", "wants", "may", "loads", "leasts", "much", "counts", "load", "count", "helps", "want"]
  G := [("zip", .bt .zip), ("totals_by_lots", .fn ["numbers"] F_totals_by_lots), ("sums_by_lots", .fn ["lists", "width"] F_sums_by_lots), ("len", .bt .len), ("sum", .bt .sum), ("min", .bt .min), ("turned_may", .fn ["asked"] F_turned_may)]
  mu := []
  keep := false
  lam := false
noncomputable def F_can_be_dealt : Den := runB c_can_be_dealt 1 b_can_be_dealt
def b__law_pick : List Stmt := defBody (top 52)
noncomputable def c__law_pick : Cfg where
  N := ["pot", "some"]
  G := [("_law_draw", .fn ["pot", "many"] F__law_draw), ("len", .bt .len)]
  mu := []
  keep := false
  lam := false
noncomputable def F__law_pick : Den := runB c__law_pick 2 b__law_pick
def b__law_who : List Stmt := defBody (top 55)
noncomputable def c__law_who : Cfg where
  N := ["call", "paper", "authors", "person", "one"]
  G := [("range", .bt .range), ("len", .bt .len), ("_law_is_near", .fn ["call", "one", "other"] F__law_is_near)]
  mu := []
  keep := false
  lam := false
noncomputable def F__law_who : Den := runB c__law_who 2 b__law_who
def b__law_has : List Stmt := defBody (top 59)
noncomputable def c__law_has : Cfg where
  N := ["limits", "wants", "who", "least", "load", "one", "people", "papers", "lot", "space", "paper", "person", "done"]
  G := [("list", .bt .list), ("range", .bt .range), ("len", .bt .len), ("_law_lots", .fn ["some"] F__law_lots), ("sum", .bt .sum), ("min", .bt .min)]
  mu := []
  keep := false
  lam := false
noncomputable def F__law_has : Den := runB c__law_has 3 b__law_has
def b_is_rising_tuple : List Stmt := defBody (top 15)
noncomputable def c_is_rising_tuple : Cfg where
  N := ["value", "many", "one", "other"]
  G := [("isinstance", .bt .isinst), ("tuple", .bt .tuple), ("all", .bt .all), ("is_position", .fn ["value", "many"] F_is_position), ("zip", .bt .zip)]
  mu := []
  keep := false
  lam := false
noncomputable def F_is_rising_tuple : Den := runB c_is_rising_tuple 2 b_is_rising_tuple
def b_person_is_right : List Stmt := defBody (top 16)
noncomputable def c_person_is_right : Cfg where
  N := ["value", "one"]
  G := [("isinstance", .bt .isinst), ("tuple", .bt .tuple), ("len", .bt .len), ("all", .bt .all), ("is_count", .fn ["value"] F_is_count), ("MOST_LOAD", .int 9)]
  mu := []
  keep := false
  lam := false
noncomputable def F_person_is_right : Den := runB c_person_is_right 1 b_person_is_right
def b_who_of : List Stmt := defBody (top 29)
noncomputable def c_who_of : Cfg where
  N := ["call", "paper", "person"]
  G := [("range", .bt .range), ("len", .bt .len), ("bars_of", .fn ["call", "paper", "person"] F_bars_of)]
  mu := []
  keep := false
  lam := false
noncomputable def F_who_of : Den := runB c_who_of 2 b_who_of
def b__law_call_of : List Stmt := defBody (top 53)
noncomputable def c__law_call_of : Cfg where
  N := ["pot", "people", "papers", "most", "limits", "person", "load", "rows", "paper", "authors", "ties", "odds", "one", "other"]
  G := [("_law_pick", .fn ["pot", "some"] F__law_pick), ("range", .bt .range), ("_law_draw", .fn ["pot", "many"] F__law_draw), ("min", .bt .min), ("tuple", .bt .tuple)]
  mu := [4, 7, 10]
  keep := false
  lam := false
noncomputable def F__law_call_of : Den := runB c__law_call_of 3 b__law_call_of
def b__law_pairs : List Stmt := defBody (top 56)
noncomputable def c__law_pairs : Cfg where
  N := ["call", "found", "paper", "person"]
  G := [("range", .bt .range), ("len", .bt .len), ("_law_who", .fn ["call", "paper"] F__law_who)]
  mu := [1]
  keep := false
  lam := false
noncomputable def F__law_pairs : Den := runB c__law_pairs 1 b__law_pairs
def b__law_plain : List Stmt := defBody (top 58)
noncomputable def c__law_plain : Cfg where
  N := ["call", "one", "paper"]
  G := [("list", .bt .list), ("_law_who", .fn ["call", "paper"] F__law_who), ("range", .bt .range), ("len", .bt .len)]
  mu := []
  keep := false
  lam := false
noncomputable def F__law_plain : Den := runB c__law_plain 1 b__law_plain
def b_people_are_right : List Stmt := defBody (top 17)
noncomputable def c_people_are_right : Cfg where
  N := ["value", "one"]
  G := [("isinstance", .bt .isinst), ("tuple", .bt .tuple), ("len", .bt .len), ("MOST_PEOPLE", .int 8), ("all", .bt .all), ("person_is_right", .fn ["value"] F_person_is_right)]
  mu := []
  keep := false
  lam := false
noncomputable def F_people_are_right : Den := runB c_people_are_right 1 b_people_are_right
def b_paper_is_right : List Stmt := defBody (top 18)
noncomputable def c_paper_is_right : Cfg where
  N := ["people", "value"]
  G := [("isinstance", .bt .isinst), ("tuple", .bt .tuple), ("len", .bt .len), ("is_count", .fn ["value"] F_is_count), ("MOST_WANTS", .int 4), ("is_rising_tuple", .fn ["value", "many"] F_is_rising_tuple)]
  mu := []
  keep := false
  lam := false
noncomputable def F_paper_is_right : Den := runB c_paper_is_right 2 b_paper_is_right
def b_tie_is_right : List Stmt := defBody (top 20)
noncomputable def c_tie_is_right : Cfg where
  N := ["people", "value"]
  G := [("is_rising_tuple", .fn ["value", "many"] F_is_rising_tuple), ("len", .bt .len)]
  mu := []
  keep := false
  lam := false
noncomputable def F_tie_is_right : Den := runB c_tie_is_right 2 b_tie_is_right
def b_pairs_of : List Stmt := defBody (top 30)
noncomputable def c_pairs_of : Cfg where
  N := ["call", "found", "paper", "person"]
  G := [("range", .bt .range), ("len", .bt .len), ("who_of", .fn ["call", "paper"] F_who_of)]
  mu := [1]
  keep := false
  lam := false
noncomputable def F_pairs_of : Den := runB c_pairs_of 1 b_pairs_of
def b_asked_of : List Stmt := defBody (top 37)
noncomputable def c_asked_of : Cfg where
  N := ["call", "may", "paper", "wants", "many", "authors", "least", "load"]
  G := [("who_of", .fn ["call", "paper"] F_who_of), ("range", .bt .range), ("len", .bt .len)]
  mu := []
  keep := false
  lam := false
noncomputable def F_asked_of : Den := runB c_asked_of 1 b_asked_of
def b__law_tied_call : List Stmt := defBody (top 60)
noncomputable def c__law_tied_call : Cfg where
  N := ["pot", "people", "papers", "way", "call", "ties", "at", "one", "other"]
  G := [("_law_draw", .fn ["pot", "many"] F__law_draw), ("_law_call_of", .fn ["pot", "people", "papers"] F__law_call_of), ("range", .bt .range), ("sorted", .bt .sorted), ("tuple", .bt .tuple)]
  mu := [5]
  keep := false
  lam := false
noncomputable def F__law_tied_call : Den := runB c__law_tied_call 1 b__law_tied_call
def b__law_counting : List Stmt := defBody (top 62)
noncomputable def c__law_counting : Cfg where
  N := ["call", "now", "tie", "pair"]
  G := [("_law_pairs", .fn ["call"] F__law_pairs), ("_law_without", .fn ["call", "tie"] F__law_without)]
  mu := []
  keep := false
  lam := false
noncomputable def F__law_counting : Den := runB c__law_counting 1 b__law_counting
def b_papers_are_right : List Stmt := defBody (top 19)
noncomputable def c_papers_are_right : Cfg where
  N := ["people", "value", "one"]
  G := [("isinstance", .bt .isinst), ("tuple", .bt .tuple), ("len", .bt .len), ("MOST_PAPERS", .int 8), ("all", .bt .all), ("paper_is_right", .fn ["people", "value"] F_paper_is_right)]
  mu := []
  keep := false
  lam := false
noncomputable def F_papers_are_right : Den := runB c_papers_are_right 2 b_papers_are_right
def b_ties_are_right : List Stmt := defBody (top 21)
noncomputable def c_ties_are_right : Cfg where
  N := ["people", "value", "one", "other"]
  G := [("isinstance", .bt .isinst), ("tuple", .bt .tuple), ("all", .bt .all), ("tie_is_right", .fn ["people", "value"] F_tie_is_right), ("zip", .bt .zip)]
  mu := []
  keep := false
  lam := false
noncomputable def F_ties_are_right : Den := runB c_ties_are_right 2 b_ties_are_right
def b_flaw_of : List Stmt := defBody (top 22)
noncomputable def c_flaw_of : Cfg where
  N := ["value"]
  G := [("isinstance", .bt .isinst), ("tuple", .bt .tuple), ("len", .bt .len), ("str", .bt .str), ("people_are_right", .fn ["value"] F_people_are_right), ("papers_are_right", .fn ["people", "value"] F_papers_are_right), ("ties_are_right", .fn ["people", "value"] F_ties_are_right)]
  mu := []
  keep := false
  lam := false
noncomputable def F_flaw_of : Den := runB c_flaw_of 1 b_flaw_of
def b_check_call : List Stmt := defBody (top 23)
noncomputable def c_check_call : Cfg where
  N := ["call"]
  G := [("flaw_of", .fn ["value"] F_flaw_of)]
  mu := []
  keep := false
  lam := false
noncomputable def F_check_call : Den := runB c_check_call 1 b_check_call
def b_is_call : List Stmt := defBody (top 31)
noncomputable def c_is_call : Cfg where
  N := ["value"]
  G := [("flaw_of", .fn ["value"] F_flaw_of)]
  mu := []
  keep := false
  lam := false
noncomputable def F_is_call : Den := runB c_is_call 1 b_is_call
def b_check_paper : List Stmt := defBody (top 24)
noncomputable def c_check_paper : Cfg where
  N := ["call", "paper"]
  G := [("check_call", .fn ["call"] F_check_call), ("is_position", .fn ["value", "many"] F_is_position), ("len", .bt .len)]
  mu := []
  keep := false
  lam := false
noncomputable def F_check_paper : Den := runB c_check_paper 2 b_check_paper
def b_check_person : List Stmt := defBody (top 25)
noncomputable def c_check_person : Cfg where
  N := ["call", "person"]
  G := [("check_call", .fn ["call"] F_check_call), ("is_position", .fn ["value", "many"] F_is_position), ("len", .bt .len)]
  mu := []
  keep := false
  lam := false
noncomputable def F_check_person : Den := runB c_check_person 2 b_check_person
def b_pairs : List Stmt := defBody (top 33)
noncomputable def c_pairs : Cfg where
  N := ["call"]
  G := [("check_call", .fn ["call"] F_check_call), ("pairs_of", .fn ["call"] F_pairs_of)]
  mu := []
  keep := false
  lam := false
noncomputable def F_pairs : Den := runB c_pairs 1 b_pairs
def b_ties_that_count : List Stmt := defBody (top 35)
noncomputable def c_ties_that_count : Cfg where
  N := ["call", "many", "found", "tie", "less", "one"]
  G := [("check_call", .fn ["call"] F_check_call), ("len", .bt .len), ("pairs_of", .fn ["call"] F_pairs_of), ("tuple", .bt .tuple)]
  mu := [2]
  keep := true
  lam := false
noncomputable def F_ties_that_count : Den := runB c_ties_that_count 1 b_ties_that_count
def b_has_deal : List Stmt := defBody (top 43)
noncomputable def c_has_deal : Cfg where
  N := ["call"]
  G := [("check_call", .fn ["call"] F_check_call), ("can_be_dealt", .fn ["asked"] F_can_be_dealt), ("asked_of", .fn ["call"] F_asked_of)]
  mu := []
  keep := false
  lam := false
noncomputable def F_has_deal : Den := runB c_has_deal 1 b_has_deal
def b_check_both : List Stmt := defBody (top 26)
noncomputable def c_check_both : Cfg where
  N := ["call", "paper", "person"]
  G := [("check_paper", .fn ["call", "paper"] F_check_paper), ("check_person", .fn ["call", "person"] F_check_person)]
  mu := []
  keep := false
  lam := false
noncomputable def F_check_both : Den := runB c_check_both 3 b_check_both
def b_check_other : List Stmt := defBody (top 45)
noncomputable def c_check_other : Cfg where
  N := ["call", "person", "other"]
  G := [("check_person", .fn ["call", "person"] F_check_person), ("is_position", .fn ["value", "many"] F_is_position), ("len", .bt .len)]
  mu := []
  keep := false
  lam := false
noncomputable def F_check_other : Den := runB c_check_other 3 b_check_other
def b_bars : List Stmt := defBody (top 32)
noncomputable def c_bars : Cfg where
  N := ["call", "paper", "person"]
  G := [("check_both", .fn ["call", "paper", "person"] F_check_both), ("bars_of", .fn ["call", "paper", "person"] F_bars_of)]
  mu := []
  keep := false
  lam := false
noncomputable def F_bars : Den := runB c_bars 3 b_bars
def b_with_tie : List Stmt := defBody (top 47)
noncomputable def c_with_tie : Cfg where
  N := ["call", "person", "other", "tie"]
  G := [("check_other", .fn ["call", "person", "other"] F_check_other), ("tie_between", .fn ["one", "other"] F_tie_between), ("tuple", .bt .tuple), ("sorted", .bt .sorted)]
  mu := []
  keep := false
  lam := false
noncomputable def F_with_tie : Den := runB c_with_tie 3 b_with_tie
def b_without_tie : List Stmt := defBody (top 48)
noncomputable def c_without_tie : Cfg where
  N := ["call", "person", "other", "tie"]
  G := [("check_other", .fn ["call", "person", "other"] F_check_other), ("tuple", .bt .tuple), ("tie_between", .fn ["one", "other"] F_tie_between)]
  mu := []
  keep := false
  lam := false
noncomputable def F_without_tie : Den := runB c_without_tie 3 b_without_tie
def b__law_ties_right : List Stmt := defBody (top 63)
noncomputable def c__law_ties_right : Cfg where
  N := ["call", "due", "told", "one", "other", "alone", "paper", "row", "author", "person", "here"]
  G := [("_law_counting", .fn ["call"] F__law_counting), ("ties_that_count", .fn ["call"] F_ties_that_count), ("repr", .bt .repr), ("enumerate", .bt .enumerate), ("_law_is_near", .fn ["call", "one", "other"] F__law_is_near), ("bars", .fn ["call", "paper", "person"] F_bars)]
  mu := [5]
  keep := false
  lam := false
noncomputable def F__law_ties_right : Den := runB c__law_ties_right 1 b__law_ties_right
def b__law_moved_right : List Stmt := defBody (top 64)
noncomputable def c__law_moved_right : Cfg where
  N := ["pot", "call", "one", "other", "tie", "more", "less", "told", "near", "far", "pair", "own", "limits", "wants", "who"]
  G := [("_law_draw", .fn ["pot", "many"] F__law_draw), ("len", .bt .len), ("min", .bt .min), ("max", .bt .max), ("tuple", .bt .tuple), ("sorted", .bt .sorted), ("_law_without", .fn ["call", "tie"] F__law_without), ("with_tie", .fn ["call", "person", "other"] F_with_tie), ("without_tie", .fn ["call", "person", "other"] F_without_tie), ("repr", .bt .repr), ("is_call", .fn ["value"] F_is_call), ("_law_pairs", .fn ["call"] F__law_pairs), ("pairs", .fn ["call"] F_pairs), ("_law_has", .fn ["limits", "wants", "who"] F__law_has), ("_law_plain", .fn ["call"] F__law_plain), ("has_deal", .fn ["call"] F_has_deal)]
  mu := []
  keep := false
  lam := false
noncomputable def F__law_moved_right : Den := runB c__law_moved_right 2 b__law_moved_right
def b__law_authors_right : List Stmt := defBody (top 65)
noncomputable def c__law_authors_right : Cfg where
  N := ["pot", "call", "paper", "person", "wants", "authors", "late", "one", "changed", "near", "far", "pair", "two"]
  G := [("_law_draw", .fn ["pot", "many"] F__law_draw), ("len", .bt .len), ("tuple", .bt .tuple), ("sorted", .bt .sorted), ("list", .bt .list), ("pairs", .fn ["call"] F_pairs), ("repr", .bt .repr), ("_law_pairs", .fn ["call"] F__law_pairs), ("ties_that_count", .fn ["call"] F_ties_that_count), ("without_tie", .fn ["call", "person", "other"] F_without_tie), ("bars", .fn ["call", "paper", "person"] F_bars)]
  mu := []
  keep := false
  lam := false
noncomputable def F__law_authors_right : Den := runB c__law_authors_right 2 b__law_authors_right
def b__law_right : List Stmt := defBody (top 66)
noncomputable def c__law_right : Cfg where
  N := ["pot", "time", "call", "shown"]
  G := [("range", .bt .range), ("_law_tied_call", .fn ["pot"] F__law_tied_call), ("repr", .bt .repr), ("_law_ties_right", .fn ["call"] F__law_ties_right), ("_law_moved_right", .fn ["pot", "call"] F__law_moved_right), ("_law_authors_right", .fn ["pot", "call"] F__law_authors_right)]
  mu := []
  keep := false
  lam := false
noncomputable def F__law_right : Den := runB c__law_right 1 b__law_right
def b_law : List Stmt := defBody (top 67)
noncomputable def c_law : Cfg where
  N := ["script", "k"]
  G := [("all", .bt .all), ("_law_right", .fn ["pot"] F__law_right), ("_law_pot", .fn ["script", "k"] F__law_pot), ("range", .bt .range), ("max", .bt .max), ("min", .bt .min), ("len", .bt .len)]
  mu := []
  keep := false
  lam := false
noncomputable def F_law : Den := runB c_law 1 b_law
noncomputable def S_is_integer (ρ : Rho) (s : S) : Res Fl :=
  sq (retR (andD (isiR .int (gv 0 ρ s)) (fun s => notR (isiR .bool (gv 0 ρ s))))) fun ρ s =>
  .ok (.nx ρ) s
theorem e_is_integer (ρ : Rho) (s : S) : evBlk (ev c_is_integer 60).X b_is_integer ρ s = S_is_integer ρ s := by kernel_rfl
theorem f_is_integer (x0 : D) (s : S) : F_is_integer [x0] s = (S_is_integer [some x0] s).bind (fin false s) := runB_eq e_is_integer [x0] s rfl
noncomputable def S_are_tied (ρ : Rho) (s : S) : Res Fl :=
  sq (retR (cmpA .In (tupR (consA (btR .min (consA (gv 1 ρ s) (fun s => consA (gv 2 ρ s) (fun s => nilA s)))) (fun s => consA (btR .max (consA (gv 1 ρ s) (fun s => consA (gv 2 ρ s) (fun s => nilA s)))) (fun s => nilA s)))) (fun s => ixR (gv 0 ρ s) (fun s => .ok (.int 3) s)))) fun ρ s =>
  .ok (.nx ρ) s
theorem e_are_tied (ρ : Rho) (s : S) : evBlk (ev c_are_tied 60).X b_are_tied ρ s = S_are_tied ρ s := by kernel_rfl
theorem f_are_tied (x0 x1 x2 : D) (s : S) : F_are_tied [x0, x1, x2] s = (S_are_tied [some x0, some x1, some x2] s).bind (fin false s) := runB_eq e_are_tied [x0, x1, x2] s rfl
noncomputable def T_sums_by_lots_0 (ρ : Rho) (d : D) (s : S) : Res (Option D) := stepR (bindTup [4, 5] d (wipeR ρ [4, 5])) (yes) (fun ρ s => bin .Add (gv 5 ρ s) (fun s => btR .int (consA (cmpA .In (gv 4 ρ s) (fun s => gv 3 ρ s)) (fun s => nilA s)))) s
noncomputable def T_sums_by_lots_1 (ρ : Rho) (d : D) (s : S) : Res (Option D) := stepR (toN 6 d (wipeR ρ [6])) (yes) (fun ρ s => asLst (compR (enumI (gv 6 ρ s)) (T_sums_by_lots_0 ρ))) s
noncomputable def L_sums_by_lots_0 (ρ : Rho) (s : S) : Res Fl := 
  sq (asg 2 ρ (bin .Add (gv 2 ρ s) (fun s => asLst (compR (seqI (gv 2 ρ s)) (T_sums_by_lots_1 ρ))))) fun ρ s =>
  .ok (.nx ρ) s
noncomputable def S_sums_by_lots (ρ : Rho) (s : S) : Res Fl :=
  sq (asg 2 ρ (asLst (consA (bin .Mult (asLst (consA (.ok (.int 0) s) (fun s => nilA s))) (fun s => gv 1 ρ s)) (fun s => nilA s)))) fun ρ s =>
  sq (forR ρ (seqI (gv 0 ρ s)) (fun d ρ => toN 3 d (ρ)) L_sums_by_lots_0) fun ρ s =>
  sq (retR (gv 2 ρ s)) fun ρ s =>
  .ok (.nx ρ) s
theorem e_sums_by_lots (ρ : Rho) (s : S) : evBlk (ev c_sums_by_lots 60).X b_sums_by_lots ρ s = S_sums_by_lots ρ s := by kernel_rfl
theorem f_sums_by_lots (x0 x1 : D) (s : S) : F_sums_by_lots [x0, x1] s = (S_sums_by_lots [some x0, some x1, none, none, none, none, none] s).bind (fin false s) := runB_eq e_sums_by_lots [x0, x1] s rfl
noncomputable def T_totals_by_lots_0 (ρ : Rho) (d : D) (s : S) : Res (Option D) := stepR (toN 3 d (wipeR ρ [3])) (yes) (fun ρ s => bin .Add (gv 3 ρ s) (fun s => gv 2 ρ s)) s
noncomputable def L_totals_by_lots_0 (ρ : Rho) (s : S) : Res Fl := 
  sq (asg 1 ρ (bin .Add (gv 1 ρ s) (fun s => asLst (compR (seqI (gv 1 ρ s)) (T_totals_by_lots_0 ρ))))) fun ρ s =>
  .ok (.nx ρ) s
noncomputable def S_totals_by_lots (ρ : Rho) (s : S) : Res Fl :=
  sq (asg 1 ρ (asLst (consA (.ok (.int 0) s) (fun s => nilA s)))) fun ρ s =>
  sq (forR ρ (seqI (gv 0 ρ s)) (fun d ρ => toN 2 d (ρ)) L_totals_by_lots_0) fun ρ s =>
  sq (retR (gv 1 ρ s)) fun ρ s =>
  .ok (.nx ρ) s
theorem e_totals_by_lots (ρ : Rho) (s : S) : evBlk (ev c_totals_by_lots 60).X b_totals_by_lots ρ s = S_totals_by_lots ρ s := by kernel_rfl
theorem f_totals_by_lots (x0 : D) (s : S) : F_totals_by_lots [x0] s = (S_totals_by_lots [some x0, none, none, none] s).bind (fin false s) := runB_eq e_totals_by_lots [x0] s rfl
noncomputable def T_turned_may_0 (ρ : Rho) (d : D) (s : S) : Res (Option D) := stepR (bindTup [1, 2] d (wipeR ρ [1, 2])) (fun ρ s => andT ((cmpA .In (gv 3 ρ s) (fun s => gv 2 ρ s)).bind toB) fun s => .ok true s) (fun ρ s => gv 1 ρ s) s
noncomputable def T_turned_may_1 (ρ : Rho) (d : D) (s : S) : Res (Option D) := stepR (toN 3 d (wipeR ρ [3])) (yes) (fun ρ s => asLst (compR (enumI (ixR (gv 0 ρ s) (fun s => .ok (.int 1) s))) (T_turned_may_0 ρ))) s
noncomputable def S_turned_may (ρ : Rho) (s : S) : Res Fl :=
  sq (retR (asLst (compR (rngI (rng1 (btR .len (consA (ixR (gv 0 ρ s) (fun s => .ok (.int 2) s)) (fun s => nilA s))))) (T_turned_may_1 ρ)))) fun ρ s =>
  .ok (.nx ρ) s
theorem e_turned_may (ρ : Rho) (s : S) : evBlk (ev c_turned_may 60).X b_turned_may ρ s = S_turned_may ρ s := by kernel_rfl
theorem f_turned_may (x0 : D) (s : S) : F_turned_may [x0] s = (S_turned_may [some x0, none, none, none] s).bind (fin false s) := runB_eq e_turned_may [x0] s rfl
noncomputable def S_tie_between (ρ : Rho) (s : S) : Res Fl :=
  sq (retR (tupR (consA (btR .min (consA (gv 0 ρ s) (fun s => consA (gv 1 ρ s) (fun s => nilA s)))) (fun s => consA (btR .max (consA (gv 0 ρ s) (fun s => consA (gv 1 ρ s) (fun s => nilA s)))) (fun s => nilA s))))) fun ρ s =>
  .ok (.nx ρ) s
theorem e_tie_between (ρ : Rho) (s : S) : evBlk (ev c_tie_between 60).X b_tie_between ρ s = S_tie_between ρ s := by kernel_rfl
theorem f_tie_between (x0 x1 : D) (s : S) : F_tie_between [x0, x1] s = (S_tie_between [some x0, some x1] s).bind (fin false s) := runB_eq e_tie_between [x0, x1] s rfl
noncomputable def S__law_pot (ρ : Rho) (s : S) : Res Fl :=
  sq (asg 2 ρ (iteR ((cmpA .Lt (gv 1 ρ s) (fun s => btR .len (consA (gv 0 ρ s) (fun s => nilA s)))).bind toB) (fun s => btR .abs (consA (ixR (gv 0 ρ s) (fun s => gv 1 ρ s)) (fun s => nilA s))) (fun s => bin .Add (bin .Mult (.ok (.int 2003) s) (fun s => gv 1 ρ s)) (fun s => .ok (.int 1163) s)))) fun ρ s =>
  sq (retK (thawR (consA (btR .max (consA (.ok (.int 0) s) (fun s => consA (bin .Sub (gv 2 ρ s) (fun s => bin .Pow (.ok (.int 10) s) (fun s => .ok (.int 18) s))) (fun s => nilA s)))) (fun s => consA (bin .Add (bin .Mod (btR .int (consA (bin .Add (bin .Add (bin .Mult (bin .Mod (btR .int (consA (gv 2 ρ s) (fun s => nilA s))) (fun s => .ok (.int 2147483549) s)) (fun s => .ok (.int 41351) s)) (fun s => bin .Mult (.ok (.int 8923) s) (fun s => gv 1 ρ s))) (fun s => .ok (.int 907) s)) (fun s => nilA s))) (fun s => .ok (.int 2147483563) s)) (fun s => .ok (.int 1) s)) (fun s => nilA s))))) fun ρ s =>
  .ok (.nx ρ) s
theorem e__law_pot (ρ : Rho) (s : S) : evBlk (ev c__law_pot 60).X b__law_pot ρ s = S__law_pot ρ s := by kernel_rfl
theorem f__law_pot (x0 x1 : D) (s : S) : F__law_pot [x0, x1] s = (S__law_pot [some x0, some x1, none] s).bind (fin true s) := runB_eq e__law_pot [x0, x1] s rfl
noncomputable def S__law_draw (ρ : Rho) (s : S) : Res Fl :=
  sq (iteR ((cmpA .Gt (ixR (gv 0 ρ s) (fun s => .ok (.int 0) s)) (fun s => .ok (.int 0) s)).bind toB) (fun s =>
    sq (asgU [tgS (fun ρ s => gv 0 ρ s) (fun ρ s => .ok (.int 0) s), tgN 2] 2 ρ (btR .divmod (consA (ixR (gv 0 ρ s) (fun s => .ok (.int 0) s)) (fun s => consA (gv 1 ρ s) (fun s => nilA s))))) fun ρ s =>
    sq (retR (gv 2 ρ s)) fun ρ s =>
    .ok (.nx ρ) s) (fun s =>
    .ok (.nx ρ) s)) fun ρ s =>
  sq (asg1 (tgS (fun ρ s => gv 0 ρ s) (fun ρ s => .ok (.int 1) s)) ρ (bin .Mod (btR .int (consA (bin .Add (bin .Mult (ixR (gv 0 ρ s) (fun s => .ok (.int 1) s)) (fun s => .ok (.int 40692) s)) (fun s => .ok (.int 8999) s)) (fun s => nilA s))) (fun s => .ok (.int 2147483587) s))) fun ρ s =>
  sq (retR (bin .Mod (btR .int (consA (bin .FloorDiv (bin .Mod (btR .int (consA (bin .Mult (ixR (gv 0 ρ s) (fun s => .ok (.int 1) s)) (fun s => ixR (gv 0 ρ s) (fun s => .ok (.int 1) s))) (fun s => nilA s))) (fun s => .ok (.int 2147483549) s)) (fun s => .ok (.int 643) s)) (fun s => nilA s))) (fun s => gv 1 ρ s))) fun ρ s =>
  .ok (.nx ρ) s
theorem e__law_draw (ρ : Rho) (s : S) : evBlk (ev c__law_draw 60).X b__law_draw ρ s = S__law_draw ρ s := by kernel_rfl
theorem f__law_draw (x0 x1 : D) (s : S) : F__law_draw [x0, x1] s = (S__law_draw [some x0, some x1, none] s).bind (fin false s) := runB_eq e__law_draw [x0, x1] s rfl
noncomputable def S__law_is_near (ρ : Rho) (s : S) : Res Fl :=
  sq (retR (orD (cmpA .Eq (gv 1 ρ s) (fun s => gv 2 ρ s)) (fun s => orD (cmpA .In (tupR (consA (gv 1 ρ s) (fun s => consA (gv 2 ρ s) (fun s => nilA s)))) (fun s => ixR (gv 0 ρ s) (fun s => .ok (.int 3) s))) (fun s => cmpA .In (tupR (consA (gv 2 ρ s) (fun s => consA (gv 1 ρ s) (fun s => nilA s)))) (fun s => ixR (gv 0 ρ s) (fun s => .ok (.int 3) s)))))) fun ρ s =>
  .ok (.nx ρ) s
theorem e__law_is_near (ρ : Rho) (s : S) : evBlk (ev c__law_is_near 60).X b__law_is_near ρ s = S__law_is_near ρ s := by kernel_rfl
theorem f__law_is_near (x0 x1 x2 : D) (s : S) : F__law_is_near [x0, x1, x2] s = (S__law_is_near [some x0, some x1, some x2] s).bind (fin false s) := runB_eq e__law_is_near [x0, x1, x2] s rfl
noncomputable def T__law_lots_0 (ρ : Rho) (d : D) (s : S) : Res (Option D) := stepR (toN 3 d (wipeR ρ [3])) (yes) (fun ρ s => bin .Add (gv 3 ρ s) (fun s => tupR (consA (gv 2 ρ s) (fun s => nilA s)))) s
noncomputable def L__law_lots_0 (ρ : Rho) (s : S) : Res Fl := 
  sq (asg 1 ρ (bin .Add (gv 1 ρ s) (fun s => asLst (compR (seqI (gv 1 ρ s)) (T__law_lots_0 ρ))))) fun ρ s =>
  .ok (.nx ρ) s
noncomputable def S__law_lots (ρ : Rho) (s : S) : Res Fl :=
  sq (asg 1 ρ (asLst (consA (tupR (nilA s)) (fun s => nilA s)))) fun ρ s =>
  sq (forR ρ (seqI (gv 0 ρ s)) (fun d ρ => toN 2 d (ρ)) L__law_lots_0) fun ρ s =>
  sq (retR (asLst (keyR (gv 1 ρ s)))) fun ρ s =>
  .ok (.nx ρ) s
theorem e__law_lots (ρ : Rho) (s : S) : evBlk (ev c__law_lots 60).X b__law_lots ρ s = S__law_lots ρ s := by kernel_rfl
theorem f__law_lots (x0 : D) (s : S) : F__law_lots [x0] s = (S__law_lots [some x0, none, none, none] s).bind (fin false s) := runB_eq e__law_lots [x0] s rfl
noncomputable def T__law_without_0 (ρ : Rho) (d : D) (s : S) : Res (Option D) := stepR (toN 2 d (wipeR ρ [2])) (fun ρ s => andT ((cmpA .NotEq (gv 2 ρ s) (fun s => gv 1 ρ s)).bind toB) fun s => .ok true s) (fun ρ s => gv 2 ρ s) s
noncomputable def S__law_without (ρ : Rho) (s : S) : Res Fl :=
  sq (retR (bin .Add (cutR (gv 0 ρ s) (nopt) (fun s => optR (.ok (.int 3) s))) (fun s => tupR (consA (bt1 .tuple (asLst (compR (seqI (ixR (gv 0 ρ s) (fun s => .ok (.int 3) s))) (T__law_without_0 ρ)))) (fun s => nilA s))))) fun ρ s =>
  .ok (.nx ρ) s
theorem e__law_without (ρ : Rho) (s : S) : evBlk (ev c__law_without 60).X b__law_without ρ s = S__law_without ρ s := by kernel_rfl
theorem f__law_without (x0 x1 : D) (s : S) : F__law_without [x0, x1] s = (S__law_without [some x0, some x1, none] s).bind (fin false s) := runB_eq e__law_without [x0, x1] s rfl
noncomputable def S_is_count (ρ : Rho) (s : S) : Res Fl :=
  sq (retR (andD (callD 1 F_is_integer (consA (gv 0 ρ s) (fun s => nilA s))) (fun s => cmpA .GtE (gv 0 ρ s) (fun s => .ok (.int 0) s)))) fun ρ s =>
  .ok (.nx ρ) s
theorem e_is_count (ρ : Rho) (s : S) : evBlk (ev c_is_count 60).X b_is_count ρ s = S_is_count ρ s := by kernel_rfl
theorem f_is_count (x0 : D) (s : S) : F_is_count [x0] s = (S_is_count [some x0] s).bind (fin false s) := runB_eq e_is_count [x0] s rfl
noncomputable def S_is_position (ρ : Rho) (s : S) : Res Fl :=
  sq (retR (andD (callD 1 F_is_integer (consA (gv 0 ρ s) (fun s => nilA s))) (fun s => cmpB .LtE .Lt (.ok (.int 0) s) (fun s => gv 0 ρ s) (fun s => gv 1 ρ s)))) fun ρ s =>
  .ok (.nx ρ) s
theorem e_is_position (ρ : Rho) (s : S) : evBlk (ev c_is_position 60).X b_is_position ρ s = S_is_position ρ s := by kernel_rfl
theorem f_is_position (x0 x1 : D) (s : S) : F_is_position [x0, x1] s = (S_is_position [some x0, some x1] s).bind (fin false s) := runB_eq e_is_position [x0, x1] s rfl
noncomputable def T_bars_of_0 (ρ : Rho) (d : D) (s : S) : Res (Option D) := stepR (toN 3 d (wipeR ρ [3])) (fun ρ s => andT (orT ((cmpA .Eq (gv 3 ρ s) (fun s => gv 2 ρ s)).bind toB) (fun s => (callD 3 F_are_tied (consA (gv 0 ρ s) (fun s => consA (gv 3 ρ s) (fun s => consA (gv 2 ρ s) (fun s => nilA s))))).bind evTruth)) fun s => .ok true s) (fun ρ s => gv 3 ρ s) s
noncomputable def S_bars_of (ρ : Rho) (s : S) : Res Fl :=
  sq (retR (asLst (compR (seqI (ixR (ixR (ixR (gv 0 ρ s) (fun s => .ok (.int 2) s)) (fun s => gv 1 ρ s)) (fun s => .ok (.int 1) s))) (T_bars_of_0 ρ)))) fun ρ s =>
  .ok (.nx ρ) s
theorem e_bars_of (ρ : Rho) (s : S) : evBlk (ev c_bars_of 60).X b_bars_of ρ s = S_bars_of ρ s := by kernel_rfl
theorem f_bars_of (x0 x1 x2 : D) (s : S) : F_bars_of [x0, x1, x2] s = (S_bars_of [some x0, some x1, some x2, none] s).bind (fin false s) := runB_eq e_bars_of [x0, x1, x2] s rfl
noncomputable def T_can_be_dealt_0 (ρ : Rho) (d : D) (s : S) : Res (Option D) := stepR (bindTup [7, 8] d (wipeR ρ [7, 8])) (yes) (fun ρ s => btR .min (consA (gv 7 ρ s) (fun s => consA (gv 8 ρ s) (fun s => nilA s)))) s
noncomputable def L_can_be_dealt_0 (ρ : Rho) (s : S) : Res Fl := 
  sq (iteR ((cmpA .Gt (gv 5 ρ s) (fun s => btR .sum (consA (asLst (compR (zipI (gv 3 ρ s) (fun s => gv 6 ρ s)) (T_can_be_dealt_0 ρ))) (fun s => nilA s)))).bind toB) (fun s =>
    sq (retR (.ok (.bl false) s)) fun ρ s =>
    .ok (.nx ρ) s) (fun s =>
    .ok (.nx ρ) s)) fun ρ s =>
  .ok (.nx ρ) s
noncomputable def T_can_be_dealt_1 (ρ : Rho) (d : D) (s : S) : Res (Option D) := stepR (bindTup [10, 8] d (wipeR ρ [10, 8])) (yes) (fun ρ s => btR .min (consA (gv 10 ρ s) (fun s => consA (gv 8 ρ s) (fun s => nilA s)))) s
noncomputable def L_can_be_dealt_1 (ρ : Rho) (s : S) : Res Fl := 
  sq (iteR ((cmpA .Gt (gv 5 ρ s) (fun s => btR .sum (consA (asLst (compR (zipI (gv 1 ρ s) (fun s => gv 9 ρ s)) (T_can_be_dealt_1 ρ))) (fun s => nilA s)))).bind toB) (fun s =>
    sq (retR (.ok (.bl false) s)) fun ρ s =>
    .ok (.nx ρ) s) (fun s =>
    .ok (.nx ρ) s)) fun ρ s =>
  .ok (.nx ρ) s
noncomputable def S_can_be_dealt (ρ : Rho) (s : S) : Res Fl :=
  sq (asgU [tgN 1, tgN 2, tgN 3, tgN 4] 4 ρ (gv 0 ρ s)) fun ρ s =>
  sq (forR ρ (zipI (callD 1 F_totals_by_lots (consA (gv 1 ρ s) (fun s => nilA s))) (fun s => callD 2 F_sums_by_lots (consA (gv 2 ρ s) (fun s => consA (btR .len (consA (gv 3 ρ s) (fun s => nilA s))) (fun s => nilA s))))) (fun d ρ => bindTup [5, 6] d (ρ)) L_can_be_dealt_0) fun ρ s =>
  sq (forR ρ (zipI (callD 1 F_totals_by_lots (consA (gv 4 ρ s) (fun s => nilA s))) (fun s => callD 2 F_sums_by_lots (consA (callD 1 F_turned_may (consA (gv 0 ρ s) (fun s => nilA s))) (fun s => consA (btR .len (consA (gv 1 ρ s) (fun s => nilA s))) (fun s => nilA s))))) (fun d ρ => bindTup [5, 9] d (ρ)) L_can_be_dealt_1) fun ρ s =>
  sq (retR (.ok (.bl true) s)) fun ρ s =>
  .ok (.nx ρ) s
theorem e_can_be_dealt (ρ : Rho) (s : S) : evBlk (ev c_can_be_dealt 60).X b_can_be_dealt ρ s = S_can_be_dealt ρ s := by kernel_rfl
theorem f_can_be_dealt (x0 : D) (s : S) : F_can_be_dealt [x0] s = (S_can_be_dealt [some x0, none, none, none, none, none, none, none, none, none, none] s).bind (fin false s) := runB_eq e_can_be_dealt [x0] s rfl
noncomputable def S__law_pick (ρ : Rho) (s : S) : Res Fl :=
  sq (retR (ixR (gv 1 ρ s) (fun s => callD 2 F__law_draw (consA (gv 0 ρ s) (fun s => consA (btR .len (consA (gv 1 ρ s) (fun s => nilA s))) (fun s => nilA s)))))) fun ρ s =>
  .ok (.nx ρ) s
theorem e__law_pick (ρ : Rho) (s : S) : evBlk (ev c__law_pick 60).X b__law_pick ρ s = S__law_pick ρ s := by kernel_rfl
theorem f__law_pick (x0 x1 : D) (s : S) : F__law_pick [x0, x1] s = (S__law_pick [some x0, some x1] s).bind (fin false s) := runB_eq e__law_pick [x0, x1] s rfl
noncomputable def T__law_who_0 (ρ : Rho) (d : D) (s : S) : Res (Option D) := stepR (toN 4 d (wipeR ρ [4])) (fun ρ s => andT ((callD 3 F__law_is_near (consA (gv 0 ρ s) (fun s => consA (gv 4 ρ s) (fun s => consA (gv 3 ρ s) (fun s => nilA s))))).bind evTruth) fun s => .ok true s) (fun ρ s => gv 4 ρ s) s
noncomputable def T__law_who_1 (ρ : Rho) (d : D) (s : S) : Res (Option D) := stepR (toN 3 d (wipeR ρ [3])) (fun ρ s => andT ((cmpA .Eq (asLst (compR (seqI (gv 2 ρ s)) (T__law_who_0 ρ))) (fun s => asLst (nilA s))).bind toB) fun s => .ok true s) (fun ρ s => gv 3 ρ s) s
noncomputable def S__law_who (ρ : Rho) (s : S) : Res Fl :=
  sq (asg 2 ρ (ixR (ixR (ixR (gv 0 ρ s) (fun s => .ok (.int 2) s)) (fun s => gv 1 ρ s)) (fun s => .ok (.int 1) s))) fun ρ s =>
  sq (retR (asLst (compR (rngI (rng1 (btR .len (consA (ixR (gv 0 ρ s) (fun s => .ok (.int 1) s)) (fun s => nilA s))))) (T__law_who_1 ρ)))) fun ρ s =>
  .ok (.nx ρ) s
theorem e__law_who (ρ : Rho) (s : S) : evBlk (ev c__law_who 60).X b__law_who ρ s = S__law_who ρ s := by kernel_rfl
theorem f__law_who (x0 x1 : D) (s : S) : F__law_who [x0, x1] s = (S__law_who [some x0, some x1, none, none, none] s).bind (fin false s) := runB_eq e__law_who [x0, x1] s rfl
noncomputable def T__law_has_0 (ρ : Rho) (d : D) (s : S) : Res (Option D) := stepR (toN 5 d (wipeR ρ [5])) (fun ρ s => andT ((cmpA .Lt (gv 5 ρ s) (fun s => .ok (.int 0) s)).bind toB) fun s => .ok true s) (fun ρ s => .ok (.int 1) s) s
noncomputable def T__law_has_1 (ρ : Rho) (d : D) (s : S) : Res (Option D) := stepR (bindTup [3, 4] d (wipeR ρ [3, 4])) (fun ρ s => andT (orT ((cmpA .Lt (gv 4 ρ s) (fun s => .ok (.int 0) s)).bind toB) (fun s => (cmpA .Gt (gv 3 ρ s) (fun s => gv 4 ρ s)).bind toB)) fun s => .ok true s) (fun ρ s => .ok (.int 1) s) s
noncomputable def T__law_has_2 (ρ : Rho) (d : D) (s : S) : Res (Option D) := stepR (toN 10 d (wipeR ρ [10])) (fun ρ s => andT ((cmpA .In (gv 11 ρ s) (fun s => ixR (gv 2 ρ s) (fun s => gv 10 ρ s))).bind toB) fun s => .ok true s) (fun ρ s => gv 10 ρ s) s
noncomputable def T__law_has_3 (ρ : Rho) (d : D) (s : S) : Res (Option D) := stepR (toN 11 d (wipeR ρ [11])) (yes) (fun ρ s => btR .min (consA (ixR (ixR (gv 0 ρ s) (fun s => gv 11 ρ s)) (fun s => .ok (.int 1) s)) (fun s => consA (btR .len (consA (asLst (compR (seqI (gv 8 ρ s)) (T__law_has_2 ρ))) (fun s => nilA s))) (fun s => nilA s)))) s
noncomputable def T__law_has_4 (ρ : Rho) (d : D) (s : S) : Res (Option D) := stepR (toN 10 d (wipeR ρ [10])) (yes) (fun ρ s => ixR (gv 1 ρ s) (fun s => gv 10 ρ s)) s
noncomputable def L__law_has_0 (ρ : Rho) (s : S) : Res Fl := 
  sq (asg 9 ρ (btR .sum (consA (asLst (compR (seqI (gv 6 ρ s)) (T__law_has_3 ρ))) (fun s => nilA s)))) fun ρ s =>
  sq (iteR ((cmpA .Gt (btR .sum (consA (asLst (compR (seqI (gv 8 ρ s)) (T__law_has_4 ρ))) (fun s => nilA s))) (fun s => gv 9 ρ s)).bind toB) (fun s =>
    sq (retR (.ok (.bl false) s)) fun ρ s =>
    .ok (.nx ρ) s) (fun s =>
    .ok (.nx ρ) s)) fun ρ s =>
  .ok (.nx ρ) s
noncomputable def T__law_has_5 (ρ : Rho) (d : D) (s : S) : Res (Option D) := stepR (toN 11 d (wipeR ρ [11])) (fun ρ s => andT ((cmpA .Gt (ixR (ixR (gv 0 ρ s) (fun s => gv 11 ρ s)) (fun s => .ok (.int 0) s)) (fun s => .ok (.int 0) s)).bind toB) fun s => .ok true s) (fun ρ s => gv 11 ρ s) s
noncomputable def T__law_has_6 (ρ : Rho) (d : D) (s : S) : Res (Option D) := stepR (toN 11 d (wipeR ρ [11])) (fun ρ s => andT ((cmpA .In (gv 11 ρ s) (fun s => ixR (gv 2 ρ s) (fun s => gv 10 ρ s))).bind toB) fun s => .ok true s) (fun ρ s => gv 11 ρ s) s
noncomputable def T__law_has_7 (ρ : Rho) (d : D) (s : S) : Res (Option D) := stepR (toN 10 d (wipeR ρ [10])) (yes) (fun ρ s => btR .min (consA (ixR (gv 1 ρ s) (fun s => gv 10 ρ s)) (fun s => consA (btR .len (consA (asLst (compR (seqI (gv 8 ρ s)) (T__law_has_6 ρ))) (fun s => nilA s))) (fun s => nilA s)))) s
noncomputable def T__law_has_8 (ρ : Rho) (d : D) (s : S) : Res (Option D) := stepR (toN 11 d (wipeR ρ [11])) (yes) (fun ρ s => ixR (ixR (gv 0 ρ s) (fun s => gv 11 ρ s)) (fun s => .ok (.int 0) s)) s
noncomputable def L__law_has_1 (ρ : Rho) (s : S) : Res Fl := 
  sq (asg 12 ρ (btR .sum (consA (asLst (compR (seqI (gv 7 ρ s)) (T__law_has_7 ρ))) (fun s => nilA s)))) fun ρ s =>
  sq (iteR ((cmpA .Gt (btR .sum (consA (asLst (compR (seqI (gv 8 ρ s)) (T__law_has_8 ρ))) (fun s => nilA s))) (fun s => gv 12 ρ s)).bind toB) (fun s =>
    sq (retR (.ok (.bl false) s)) fun ρ s =>
    .ok (.nx ρ) s) (fun s =>
    .ok (.nx ρ) s)) fun ρ s =>
  .ok (.nx ρ) s
noncomputable def S__law_has (ρ : Rho) (s : S) : Res Fl :=
  sq (iteR (orT ((cmpA .NotEq (asLst (compR (seqI (gv 0 ρ s)) (T__law_has_1 ρ))) (fun s => asLst (nilA s))).bind toB) (fun s => (cmpA .NotEq (asLst (compR (seqI (gv 1 ρ s)) (T__law_has_0 ρ))) (fun s => asLst (nilA s))).bind toB)) (fun s =>
    sq (retR (.ok (.bl false) s)) fun ρ s =>
    .ok (.nx ρ) s) (fun s =>
    .ok (.nx ρ) s)) fun ρ s =>
  sq (par [6, 7] ρ (consA (asLst (rngL (rng1 (btR .len (consA (gv 0 ρ s) (fun s => nilA s)))))) (fun s => consA (asLst (rngL (rng1 (btR .len (consA (gv 1 ρ s) (fun s => nilA s)))))) (fun s => nilA s)))) fun ρ s =>
  sq (forR ρ (seqI (callD 1 F__law_lots (consA (gv 7 ρ s) (fun s => nilA s)))) (fun d ρ => toN 8 d (ρ)) L__law_has_0) fun ρ s =>
  sq (forR ρ (seqI (callD 1 F__law_lots (consA (asLst (compR (seqI (gv 6 ρ s)) (T__law_has_5 ρ))) (fun s => nilA s)))) (fun d ρ => toN 8 d (ρ)) L__law_has_1) fun ρ s =>
  sq (retR (.ok (.bl true) s)) fun ρ s =>
  .ok (.nx ρ) s
theorem e__law_has (ρ : Rho) (s : S) : evBlk (ev c__law_has 60).X b__law_has ρ s = S__law_has ρ s := by kernel_rfl
theorem f__law_has (x0 x1 x2 : D) (s : S) : F__law_has [x0, x1, x2] s = (S__law_has [some x0, some x1, some x2, none, none, none, none, none, none, none, none, none, none] s).bind (fin false s) := runB_eq e__law_has [x0, x1, x2] s rfl
noncomputable def T_is_rising_tuple_0 (ρ : Rho) (d : D) (s : S) : Res (Option D) := stepR (toN 2 d (wipeR ρ [2])) (yes) (fun ρ s => callD 2 F_is_position (consA (gv 2 ρ s) (fun s => consA (gv 1 ρ s) (fun s => nilA s)))) s
noncomputable def T_is_rising_tuple_1 (ρ : Rho) (d : D) (s : S) : Res (Option D) := stepR (bindTup [2, 3] d (wipeR ρ [2, 3])) (yes) (fun ρ s => cmpA .Lt (gv 2 ρ s) (fun s => gv 3 ρ s)) s
noncomputable def S_is_rising_tuple (ρ : Rho) (s : S) : Res Fl :=
  sq (iteR (orT (notT ((isiR .tuple (gv 0 ρ s)).bind evTruth)) (fun s => notT ((btR .all (consA (asLst (compR (seqI (gv 0 ρ s)) (T_is_rising_tuple_0 ρ))) (fun s => nilA s))).bind evTruth))) (fun s =>
    sq (retR (.ok (.bl false) s)) fun ρ s =>
    .ok (.nx ρ) s) (fun s =>
    .ok (.nx ρ) s)) fun ρ s =>
  sq (retR (btR .all (consA (asLst (compR (zipI (gv 0 ρ s) (fun s => cutR (gv 0 ρ s) (fun s => optR (.ok (.int 1) s)) (nopt))) (T_is_rising_tuple_1 ρ))) (fun s => nilA s)))) fun ρ s =>
  .ok (.nx ρ) s
theorem e_is_rising_tuple (ρ : Rho) (s : S) : evBlk (ev c_is_rising_tuple 60).X b_is_rising_tuple ρ s = S_is_rising_tuple ρ s := by kernel_rfl
theorem f_is_rising_tuple (x0 x1 : D) (s : S) : F_is_rising_tuple [x0, x1] s = (S_is_rising_tuple [some x0, some x1, none, none] s).bind (fin false s) := runB_eq e_is_rising_tuple [x0, x1] s rfl
noncomputable def T_person_is_right_0 (ρ : Rho) (d : D) (s : S) : Res (Option D) := stepR (toN 1 d (wipeR ρ [1])) (yes) (fun ρ s => andD (callD 1 F_is_count (consA (gv 1 ρ s) (fun s => nilA s))) (fun s => cmpA .LtE (gv 1 ρ s) (fun s => .ok (.int 9) s))) s
noncomputable def S_person_is_right (ρ : Rho) (s : S) : Res Fl :=
  sq (iteR (orT (notT ((isiR .tuple (gv 0 ρ s)).bind evTruth)) (fun s => (cmpA .NotEq (btR .len (consA (gv 0 ρ s) (fun s => nilA s))) (fun s => .ok (.int 2) s)).bind toB)) (fun s =>
    sq (retR (.ok (.bl false) s)) fun ρ s =>
    .ok (.nx ρ) s) (fun s =>
    .ok (.nx ρ) s)) fun ρ s =>
  sq (retR (andD (btR .all (consA (asLst (compR (seqI (gv 0 ρ s)) (T_person_is_right_0 ρ))) (fun s => nilA s))) (fun s => cmpA .LtE (ixR (gv 0 ρ s) (fun s => .ok (.int 0) s)) (fun s => ixR (gv 0 ρ s) (fun s => .ok (.int 1) s))))) fun ρ s =>
  .ok (.nx ρ) s
theorem e_person_is_right (ρ : Rho) (s : S) : evBlk (ev c_person_is_right 60).X b_person_is_right ρ s = S_person_is_right ρ s := by kernel_rfl
theorem f_person_is_right (x0 : D) (s : S) : F_person_is_right [x0] s = (S_person_is_right [some x0, none] s).bind (fin false s) := runB_eq e_person_is_right [x0] s rfl
noncomputable def T_who_of_0 (ρ : Rho) (d : D) (s : S) : Res (Option D) := stepR (toN 2 d (wipeR ρ [2])) (fun ρ s => andT ((cmpA .Eq (callD 3 F_bars_of (consA (gv 0 ρ s) (fun s => consA (gv 1 ρ s) (fun s => consA (gv 2 ρ s) (fun s => nilA s))))) (fun s => asLst (nilA s))).bind toB) fun s => .ok true s) (fun ρ s => gv 2 ρ s) s
noncomputable def S_who_of (ρ : Rho) (s : S) : Res Fl :=
  sq (retR (asLst (compR (rngI (rng1 (btR .len (consA (ixR (gv 0 ρ s) (fun s => .ok (.int 1) s)) (fun s => nilA s))))) (T_who_of_0 ρ)))) fun ρ s =>
  .ok (.nx ρ) s
theorem e_who_of (ρ : Rho) (s : S) : evBlk (ev c_who_of 60).X b_who_of ρ s = S_who_of ρ s := by kernel_rfl
theorem f_who_of (x0 x1 : D) (s : S) : F_who_of [x0, x1] s = (S_who_of [some x0, some x1, none] s).bind (fin false s) := runB_eq e_who_of [x0, x1] s rfl
noncomputable def L__law_call_of_0 (ρ : Rho) (s : S) : Res Fl := 
  sq (asg 6 ρ (callD 2 F__law_draw (consA (gv 0 ρ s) (fun s => consA (bin .Add (gv 3 ρ s) (fun s => .ok (.int 1) s)) (fun s => nilA s))))) fun ρ s =>
  sq (recvR appendD (gv 4 ρ s) (fun s => tupR (consA (btR .min (consA (gv 6 ρ s) (fun s => consA (callD 2 F__law_pick (consA (gv 0 ρ s) (fun s => consA (asLst (consA (.ok (.int 0) s) (fun s => consA (.ok (.int 0) s) (fun s => consA (.ok (.int 0) s) (fun s => consA (.ok (.int 1) s) (fun s => consA (.ok (.int 2) s) (fun s => nilA s))))))) (fun s => nilA s)))) (fun s => nilA s)))) (fun s => consA (gv 6 ρ s) (fun s => nilA s)))) ρ) fun ρ s =>
  .ok (.nx ρ) s
noncomputable def T__law_call_of_0 (ρ : Rho) (d : D) (s : S) : Res (Option D) := stepR (toN 5 d (wipeR ρ [5])) (fun ρ s => andT ((cmpA .Eq (callD 2 F__law_draw (consA (gv 0 ρ s) (fun s => consA (.ok (.int 5) s) (fun s => nilA s)))) (fun s => .ok (.int 0) s)).bind toB) fun s => .ok true s) (fun ρ s => gv 5 ρ s) s
noncomputable def L__law_call_of_1 (ρ : Rho) (s : S) : Res Fl := 
  sq (asg 9 ρ (asLst (compR (rngI (rng1 (gv 1 ρ s))) (T__law_call_of_0 ρ)))) fun ρ s =>
  sq (recvR appendD (gv 7 ρ s) (fun s => tupR (consA (bin .Add (.ok (.int 1) s) (fun s => callD 2 F__law_draw (consA (gv 0 ρ s) (fun s => consA (callD 2 F__law_pick (consA (gv 0 ρ s) (fun s => consA (asLst (consA (.ok (.int 1) s) (fun s => consA (.ok (.int 2) s) (fun s => consA (.ok (.int 2) s) (fun s => consA (.ok (.int 3) s) (fun s => consA (.ok (.int 4) s) (fun s => nilA s))))))) (fun s => nilA s)))) (fun s => nilA s))))) (fun s => consA (bt1 .tuple (gv 9 ρ s)) (fun s => nilA s)))) ρ) fun ρ s =>
  .ok (.nx ρ) s
noncomputable def T__law_call_of_1 (ρ : Rho) (d : D) (s : S) : Res (Option D) := stepR (toN 13 d (wipeR ρ [13])) (fun ρ s => andT ((cmpA .Eq (callD 2 F__law_draw (consA (gv 0 ρ s) (fun s => consA (gv 11 ρ s) (fun s => nilA s)))) (fun s => .ok (.int 0) s)).bind toB) fun s => .ok true s) (fun ρ s => tupR (consA (gv 12 ρ s) (fun s => consA (gv 13 ρ s) (fun s => nilA s)))) s
noncomputable def L__law_call_of_2 (ρ : Rho) (s : S) : Res Fl := 
  sq (recvR extendD (gv 10 ρ s) (fun s => asLst (compR (rngI (rng2 (bin .Add (gv 12 ρ s) (fun s => .ok (.int 1) s)) (fun s => gv 1 ρ s))) (T__law_call_of_1 ρ))) ρ) fun ρ s =>
  .ok (.nx ρ) s
noncomputable def S__law_call_of (ρ : Rho) (s : S) : Res Fl :=
  sq (par [3, 4] ρ (consA (callD 2 F__law_pick (consA (gv 0 ρ s) (fun s => consA (asLst (consA (.ok (.int 1) s) (fun s => consA (.ok (.int 2) s) (fun s => consA (.ok (.int 3) s) (fun s => consA (.ok (.int 9) s) (fun s => nilA s)))))) (fun s => nilA s)))) (fun s => consA (thawR (nilA s)) (fun s => nilA s)))) fun ρ s =>
  sq (forR ρ (rngI (rng1 (gv 1 ρ s))) (fun d ρ => toN 5 d (ρ)) L__law_call_of_0) fun ρ s =>
  sq (asg 7 ρ (thawR (nilA s))) fun ρ s =>
  sq (forR ρ (rngI (rng1 (gv 2 ρ s))) (fun d ρ => toN 8 d (ρ)) L__law_call_of_1) fun ρ s =>
  sq (par [10, 11] ρ (consA (thawR (nilA s)) (fun s => consA (callD 2 F__law_pick (consA (gv 0 ρ s) (fun s => consA (asLst (consA (.ok (.int 3) s) (fun s => consA (.ok (.int 6) s) (fun s => consA (.ok (.int 20) s) (fun s => nilA s))))) (fun s => nilA s)))) (fun s => nilA s)))) fun ρ s =>
  sq (forR ρ (rngI (rng1 (gv 1 ρ s))) (fun d ρ => toN 12 d (ρ)) L__law_call_of_2) fun ρ s =>
  sq (retR (tupR (consA (.ok (.str "call") s) (fun s => consA (bt1 .tuple (gv 4 ρ s)) (fun s => consA (bt1 .tuple (gv 7 ρ s)) (fun s => consA (bt1 .tuple (gv 10 ρ s)) (fun s => nilA s))))))) fun ρ s =>
  .ok (.nx ρ) s
theorem e__law_call_of (ρ : Rho) (s : S) : evBlk (ev c__law_call_of 60).X b__law_call_of ρ s = S__law_call_of ρ s := by kernel_rfl
theorem f__law_call_of (x0 x1 x2 : D) (s : S) : F__law_call_of [x0, x1, x2] s = (S__law_call_of [some x0, some x1, some x2, none, none, none, none, none, none, none, none, none, none, none] s).bind (fin false s) := runB_eq e__law_call_of [x0, x1, x2] s rfl
noncomputable def T__law_pairs_0 (ρ : Rho) (d : D) (s : S) : Res (Option D) := stepR (toN 3 d (wipeR ρ [3])) (yes) (fun ρ s => tupR (consA (gv 2 ρ s) (fun s => consA (gv 3 ρ s) (fun s => nilA s)))) s
noncomputable def L__law_pairs_0 (ρ : Rho) (s : S) : Res Fl := 
  sq (recvR extendD (gv 1 ρ s) (fun s => asLst (compR (seqI (callD 2 F__law_who (consA (gv 0 ρ s) (fun s => consA (gv 2 ρ s) (fun s => nilA s))))) (T__law_pairs_0 ρ))) ρ) fun ρ s =>
  .ok (.nx ρ) s
noncomputable def S__law_pairs (ρ : Rho) (s : S) : Res Fl :=
  sq (asg 1 ρ (thawR (nilA s))) fun ρ s =>
  sq (forR ρ (rngI (rng1 (btR .len (consA (ixR (gv 0 ρ s) (fun s => .ok (.int 2) s)) (fun s => nilA s))))) (fun d ρ => toN 2 d (ρ)) L__law_pairs_0) fun ρ s =>
  sq (retR (gv 1 ρ s)) fun ρ s =>
  .ok (.nx ρ) s
theorem e__law_pairs (ρ : Rho) (s : S) : evBlk (ev c__law_pairs 60).X b__law_pairs ρ s = S__law_pairs ρ s := by kernel_rfl
theorem f__law_pairs (x0 : D) (s : S) : F__law_pairs [x0] s = (S__law_pairs [some x0, none, none, none] s).bind (fin false s) := runB_eq e__law_pairs [x0] s rfl
noncomputable def T__law_plain_0 (ρ : Rho) (d : D) (s : S) : Res (Option D) := stepR (toN 2 d (wipeR ρ [2])) (yes) (fun ρ s => callD 2 F__law_who (consA (gv 0 ρ s) (fun s => consA (gv 2 ρ s) (fun s => nilA s)))) s
noncomputable def T__law_plain_1 (ρ : Rho) (d : D) (s : S) : Res (Option D) := stepR (toN 2 d (wipeR ρ [2])) (yes) (fun ρ s => ixR (gv 2 ρ s) (fun s => .ok (.int 0) s)) s
noncomputable def T__law_plain_2 (ρ : Rho) (d : D) (s : S) : Res (Option D) := stepR (toN 1 d (wipeR ρ [1])) (yes) (fun ρ s => bt1 .list (gv 1 ρ s)) s
noncomputable def S__law_plain (ρ : Rho) (s : S) : Res Fl :=
  sq (retR (tupR (consA (asLst (compR (seqI (ixR (gv 0 ρ s) (fun s => .ok (.int 1) s))) (T__law_plain_2 ρ))) (fun s => consA (asLst (compR (seqI (ixR (gv 0 ρ s) (fun s => .ok (.int 2) s))) (T__law_plain_1 ρ))) (fun s => consA (asLst (compR (rngI (rng1 (btR .len (consA (ixR (gv 0 ρ s) (fun s => .ok (.int 2) s)) (fun s => nilA s))))) (T__law_plain_0 ρ))) (fun s => nilA s)))))) fun ρ s =>
  .ok (.nx ρ) s
theorem e__law_plain (ρ : Rho) (s : S) : evBlk (ev c__law_plain 60).X b__law_plain ρ s = S__law_plain ρ s := by kernel_rfl
theorem f__law_plain (x0 : D) (s : S) : F__law_plain [x0] s = (S__law_plain [some x0, none, none] s).bind (fin false s) := runB_eq e__law_plain [x0] s rfl
noncomputable def T_people_are_right_0 (ρ : Rho) (d : D) (s : S) : Res (Option D) := stepR (toN 1 d (wipeR ρ [1])) (yes) (fun ρ s => callD 1 F_person_is_right (consA (gv 1 ρ s) (fun s => nilA s))) s
noncomputable def S_people_are_right (ρ : Rho) (s : S) : Res Fl :=
  sq (retR (andD (isiR .tuple (gv 0 ρ s)) (fun s => andD (cmpB .LtE .LtE (.ok (.int 1) s) (fun s => btR .len (consA (gv 0 ρ s) (fun s => nilA s))) (fun s => .ok (.int 8) s)) (fun s => btR .all (consA (asLst (compR (seqI (gv 0 ρ s)) (T_people_are_right_0 ρ))) (fun s => nilA s)))))) fun ρ s =>
  .ok (.nx ρ) s
theorem e_people_are_right (ρ : Rho) (s : S) : evBlk (ev c_people_are_right 60).X b_people_are_right ρ s = S_people_are_right ρ s := by kernel_rfl
theorem f_people_are_right (x0 : D) (s : S) : F_people_are_right [x0] s = (S_people_are_right [some x0, none] s).bind (fin false s) := runB_eq e_people_are_right [x0] s rfl
noncomputable def S_paper_is_right (ρ : Rho) (s : S) : Res Fl :=
  sq (iteR (orT (notT ((isiR .tuple (gv 1 ρ s)).bind evTruth)) (fun s => (cmpA .NotEq (btR .len (consA (gv 1 ρ s) (fun s => nilA s))) (fun s => .ok (.int 2) s)).bind toB)) (fun s =>
    sq (retR (.ok (.bl false) s)) fun ρ s =>
    .ok (.nx ρ) s) (fun s =>
    .ok (.nx ρ) s)) fun ρ s =>
  sq (retR (andD (callD 1 F_is_count (consA (ixR (gv 1 ρ s) (fun s => .ok (.int 0) s)) (fun s => nilA s))) (fun s => andD (cmpB .LtE .LtE (.ok (.int 1) s) (fun s => ixR (gv 1 ρ s) (fun s => .ok (.int 0) s)) (fun s => .ok (.int 4) s)) (fun s => callD 2 F_is_rising_tuple (consA (ixR (gv 1 ρ s) (fun s => .ok (.int 1) s)) (fun s => consA (gv 0 ρ s) (fun s => nilA s))))))) fun ρ s =>
  .ok (.nx ρ) s
theorem e_paper_is_right (ρ : Rho) (s : S) : evBlk (ev c_paper_is_right 60).X b_paper_is_right ρ s = S_paper_is_right ρ s := by kernel_rfl
theorem f_paper_is_right (x0 x1 : D) (s : S) : F_paper_is_right [x0, x1] s = (S_paper_is_right [some x0, some x1] s).bind (fin false s) := runB_eq e_paper_is_right [x0, x1] s rfl
noncomputable def S_tie_is_right (ρ : Rho) (s : S) : Res Fl :=
  sq (retR (andD (callD 2 F_is_rising_tuple (consA (gv 1 ρ s) (fun s => consA (gv 0 ρ s) (fun s => nilA s)))) (fun s => cmpA .Eq (btR .len (consA (gv 1 ρ s) (fun s => nilA s))) (fun s => .ok (.int 2) s)))) fun ρ s =>
  .ok (.nx ρ) s
theorem e_tie_is_right (ρ : Rho) (s : S) : evBlk (ev c_tie_is_right 60).X b_tie_is_right ρ s = S_tie_is_right ρ s := by kernel_rfl
theorem f_tie_is_right (x0 x1 : D) (s : S) : F_tie_is_right [x0, x1] s = (S_tie_is_right [some x0, some x1] s).bind (fin false s) := runB_eq e_tie_is_right [x0, x1] s rfl
noncomputable def T_pairs_of_0 (ρ : Rho) (d : D) (s : S) : Res (Option D) := stepR (toN 3 d (wipeR ρ [3])) (yes) (fun ρ s => tupR (consA (gv 2 ρ s) (fun s => consA (gv 3 ρ s) (fun s => nilA s)))) s
noncomputable def L_pairs_of_0 (ρ : Rho) (s : S) : Res Fl := 
  sq (recvR extendD (gv 1 ρ s) (fun s => asLst (compR (seqI (callD 2 F_who_of (consA (gv 0 ρ s) (fun s => consA (gv 2 ρ s) (fun s => nilA s))))) (T_pairs_of_0 ρ))) ρ) fun ρ s =>
  .ok (.nx ρ) s
noncomputable def S_pairs_of (ρ : Rho) (s : S) : Res Fl :=
  sq (asg 1 ρ (thawR (nilA s))) fun ρ s =>
  sq (forR ρ (rngI (rng1 (btR .len (consA (ixR (gv 0 ρ s) (fun s => .ok (.int 2) s)) (fun s => nilA s))))) (fun d ρ => toN 2 d (ρ)) L_pairs_of_0) fun ρ s =>
  sq (retR (gv 1 ρ s)) fun ρ s =>
  .ok (.nx ρ) s
theorem e_pairs_of (ρ : Rho) (s : S) : evBlk (ev c_pairs_of 60).X b_pairs_of ρ s = S_pairs_of ρ s := by kernel_rfl
theorem f_pairs_of (x0 : D) (s : S) : F_pairs_of [x0] s = (S_pairs_of [some x0, none, none, none] s).bind (fin false s) := runB_eq e_pairs_of [x0] s rfl
noncomputable def T_asked_of_0 (ρ : Rho) (d : D) (s : S) : Res (Option D) := stepR (toN 2 d (wipeR ρ [2])) (yes) (fun ρ s => callD 2 F_who_of (consA (gv 0 ρ s) (fun s => consA (gv 2 ρ s) (fun s => nilA s)))) s
noncomputable def T_asked_of_1 (ρ : Rho) (d : D) (s : S) : Res (Option D) := stepR (bindTup [4, 5] d (wipeR ρ [4, 5])) (yes) (fun ρ s => gv 4 ρ s) s
noncomputable def T_asked_of_2 (ρ : Rho) (d : D) (s : S) : Res (Option D) := stepR (bindTup [6, 7] d (wipeR ρ [6, 7])) (yes) (fun ρ s => gv 6 ρ s) s
noncomputable def T_asked_of_3 (ρ : Rho) (d : D) (s : S) : Res (Option D) := stepR (bindTup [6, 7] d (wipeR ρ [6, 7])) (yes) (fun ρ s => gv 7 ρ s) s
noncomputable def S_asked_of (ρ : Rho) (s : S) : Res Fl :=
  sq (asg 1 ρ (asLst (compR (rngI (rng1 (btR .len (consA (ixR (gv 0 ρ s) (fun s => .ok (.int 2) s)) (fun s => nilA s))))) (T_asked_of_0 ρ)))) fun ρ s =>
  sq (asg 3 ρ (asLst (compR (seqI (ixR (gv 0 ρ s) (fun s => .ok (.int 2) s))) (T_asked_of_1 ρ)))) fun ρ s =>
  sq (retR (tupR (consA (gv 3 ρ s) (fun s => consA (gv 1 ρ s) (fun s => consA (asLst (compR (seqI (ixR (gv 0 ρ s) (fun s => .ok (.int 1) s))) (T_asked_of_3 ρ))) (fun s => consA (asLst (compR (seqI (ixR (gv 0 ρ s) (fun s => .ok (.int 1) s))) (T_asked_of_2 ρ))) (fun s => nilA s))))))) fun ρ s =>
  .ok (.nx ρ) s
theorem e_asked_of (ρ : Rho) (s : S) : evBlk (ev c_asked_of 60).X b_asked_of ρ s = S_asked_of ρ s := by kernel_rfl
theorem f_asked_of (x0 : D) (s : S) : F_asked_of [x0] s = (S_asked_of [some x0, none, none, none, none, none, none, none] s).bind (fin false s) := runB_eq e_asked_of [x0] s rfl
noncomputable def T__law_tied_call_0 (ρ : Rho) (d : D) (s : S) : Res (Option D) := stepR (toN 6 d (wipeR ρ [6])) (yes) (fun ρ s => tupR (consA (gv 6 ρ s) (fun s => consA (bin .Add (gv 6 ρ s) (fun s => .ok (.int 1) s)) (fun s => nilA s)))) s
noncomputable def T__law_tied_call_1 (ρ : Rho) (d : D) (s : S) : Res (Option D) := stepR (toN 6 d (wipeR ρ [6])) (yes) (fun ρ s => tupR (consA (callD 2 F__law_draw (consA (gv 0 ρ s) (fun s => consA (gv 6 ρ s) (fun s => nilA s)))) (fun s => consA (gv 6 ρ s) (fun s => nilA s)))) s
noncomputable def T__law_tied_call_2 (ρ : Rho) (d : D) (s : S) : Res (Option D) := stepR (toN 8 d (wipeR ρ [8])) (fun ρ s => andT ((cmpA .Eq (callD 2 F__law_draw (consA (gv 0 ρ s) (fun s => consA (bin .Add (gv 3 ρ s) (fun s => .ok (.int 1) s)) (fun s => nilA s)))) (fun s => .ok (.int 0) s)).bind toB) fun s => .ok true s) (fun ρ s => tupR (consA (gv 7 ρ s) (fun s => consA (gv 8 ρ s) (fun s => nilA s)))) s
noncomputable def L__law_tied_call_0 (ρ : Rho) (s : S) : Res Fl := 
  sq (recvR extendD (gv 5 ρ s) (fun s => asLst (compR (rngI (rng2 (bin .Add (gv 7 ρ s) (fun s => .ok (.int 1) s)) (fun s => gv 1 ρ s))) (T__law_tied_call_2 ρ))) ρ) fun ρ s =>
  .ok (.nx ρ) s
noncomputable def S__law_tied_call (ρ : Rho) (s : S) : Res Fl :=
  sq (par [1, 2, 3] ρ (consA (bin .Add (.ok (.int 1) s) (fun s => callD 2 F__law_draw (consA (gv 0 ρ s) (fun s => consA (.ok (.int 8) s) (fun s => nilA s))))) (fun s => consA (bin .Add (.ok (.int 1) s) (fun s => callD 2 F__law_draw (consA (gv 0 ρ s) (fun s => consA (.ok (.int 4) s) (fun s => nilA s))))) (fun s => consA (callD 2 F__law_draw (consA (gv 0 ρ s) (fun s => consA (.ok (.int 5) s) (fun s => nilA s)))) (fun s => nilA s))))) fun ρ s =>
  sq (asg 4 ρ (callD 3 F__law_call_of (consA (gv 0 ρ s) (fun s => consA (gv 1 ρ s) (fun s => consA (gv 2 ρ s) (fun s => nilA s)))))) fun ρ s =>
  sq (asg 5 ρ (thawR (compR (rngI (rng1 (bin .Sub (gv 1 ρ s) (fun s => .ok (.int 1) s)))) (T__law_tied_call_0 ρ)))) fun ρ s =>
  sq (iteR (andT ((cmpA .Eq (gv 3 ρ s) (fun s => .ok (.int 1) s)).bind toB) (fun s => (cmpA .Gt (gv 1 ρ s) (fun s => .ok (.int 2) s)).bind toB)) (fun s =>
    sq (asg 5 ρ (thawR (sort1 (bin .Add (gv 5 ρ s) (fun s => asLst (consA (tupR (consA (.ok (.int 0) s) (fun s => consA (bin .Sub (gv 1 ρ s) (fun s => .ok (.int 1) s)) (fun s => nilA s)))) (fun s => nilA s))))))) fun ρ s =>
    .ok (.nx ρ) s) (fun s =>
    .ok (.nx ρ) s)) fun ρ s =>
  sq (iteR ((cmpA .Eq (gv 3 ρ s) (fun s => .ok (.int 2) s)).bind toB) (fun s =>
    sq (asg 5 ρ (thawR (sort1 (asLst (compR (rngI (rng2 (.ok (.int 1) s) (fun s => gv 1 ρ s))) (T__law_tied_call_1 ρ)))))) fun ρ s =>
    .ok (.nx ρ) s) (fun s =>
    .ok (.nx ρ) s)) fun ρ s =>
  sq (iteR ((cmpA .Gt (gv 3 ρ s) (fun s => .ok (.int 2) s)).bind toB) (fun s =>
    sq (asg 5 ρ (thawR (nilA s))) fun ρ s =>
    sq (forR ρ (rngI (rng1 (gv 1 ρ s))) (fun d ρ => toN 7 d (ρ)) L__law_tied_call_0) fun ρ s =>
    .ok (.nx ρ) s) (fun s =>
    .ok (.nx ρ) s)) fun ρ s =>
  sq (retR (bin .Add (cutR (gv 4 ρ s) (nopt) (fun s => optR (.ok (.int 3) s))) (fun s => tupR (consA (bt1 .tuple (btR .sorted (consA (gv 5 ρ s) (fun s => nilA s)))) (fun s => nilA s))))) fun ρ s =>
  .ok (.nx ρ) s
theorem e__law_tied_call (ρ : Rho) (s : S) : evBlk (ev c__law_tied_call 60).X b__law_tied_call ρ s = S__law_tied_call ρ s := by kernel_rfl
theorem f__law_tied_call (x0 : D) (s : S) : F__law_tied_call [x0] s = (S__law_tied_call [some x0, none, none, none, none, none, none, none, none] s).bind (fin false s) := runB_eq e__law_tied_call [x0] s rfl
noncomputable def T__law_counting_0 (ρ : Rho) (d : D) (s : S) : Res (Option D) := stepR (toN 3 d (wipeR ρ [3])) (fun ρ s => andT ((cmpA .NotIn (gv 3 ρ s) (fun s => gv 1 ρ s)).bind toB) fun s => .ok true s) (fun ρ s => gv 3 ρ s) s
noncomputable def T__law_counting_1 (ρ : Rho) (d : D) (s : S) : Res (Option D) := stepR (toN 2 d (wipeR ρ [2])) (fun ρ s => andT ((cmpA .NotEq (asLst (compR (seqI (callD 1 F__law_pairs (consA (callD 2 F__law_without (consA (gv 0 ρ s) (fun s => consA (gv 2 ρ s) (fun s => nilA s)))) (fun s => nilA s)))) (T__law_counting_0 ρ))) (fun s => asLst (nilA s))).bind toB) fun s => .ok true s) (fun ρ s => gv 2 ρ s) s
noncomputable def S__law_counting (ρ : Rho) (s : S) : Res Fl :=
  sq (asg 1 ρ (callD 1 F__law_pairs (consA (gv 0 ρ s) (fun s => nilA s)))) fun ρ s =>
  sq (retR (asLst (compR (seqI (ixR (gv 0 ρ s) (fun s => .ok (.int 3) s))) (T__law_counting_1 ρ)))) fun ρ s =>
  .ok (.nx ρ) s
theorem e__law_counting (ρ : Rho) (s : S) : evBlk (ev c__law_counting 60).X b__law_counting ρ s = S__law_counting ρ s := by kernel_rfl
theorem f__law_counting (x0 : D) (s : S) : F__law_counting [x0] s = (S__law_counting [some x0, none, none, none] s).bind (fin false s) := runB_eq e__law_counting [x0] s rfl
noncomputable def T_papers_are_right_0 (ρ : Rho) (d : D) (s : S) : Res (Option D) := stepR (toN 2 d (wipeR ρ [2])) (yes) (fun ρ s => callD 2 F_paper_is_right (consA (gv 0 ρ s) (fun s => consA (gv 2 ρ s) (fun s => nilA s)))) s
noncomputable def S_papers_are_right (ρ : Rho) (s : S) : Res Fl :=
  sq (iteR (orT (notT ((isiR .tuple (gv 1 ρ s)).bind evTruth)) (fun s => notT ((cmpB .LtE .LtE (.ok (.int 1) s) (fun s => btR .len (consA (gv 1 ρ s) (fun s => nilA s))) (fun s => .ok (.int 8) s)).bind toB))) (fun s =>
    sq (retR (.ok (.bl false) s)) fun ρ s =>
    .ok (.nx ρ) s) (fun s =>
    .ok (.nx ρ) s)) fun ρ s =>
  sq (retR (btR .all (consA (asLst (compR (seqI (gv 1 ρ s)) (T_papers_are_right_0 ρ))) (fun s => nilA s)))) fun ρ s =>
  .ok (.nx ρ) s
theorem e_papers_are_right (ρ : Rho) (s : S) : evBlk (ev c_papers_are_right 60).X b_papers_are_right ρ s = S_papers_are_right ρ s := by kernel_rfl
theorem f_papers_are_right (x0 x1 : D) (s : S) : F_papers_are_right [x0, x1] s = (S_papers_are_right [some x0, some x1, none] s).bind (fin false s) := runB_eq e_papers_are_right [x0, x1] s rfl
noncomputable def T_ties_are_right_0 (ρ : Rho) (d : D) (s : S) : Res (Option D) := stepR (toN 2 d (wipeR ρ [2])) (yes) (fun ρ s => callD 2 F_tie_is_right (consA (gv 0 ρ s) (fun s => consA (gv 2 ρ s) (fun s => nilA s)))) s
noncomputable def T_ties_are_right_1 (ρ : Rho) (d : D) (s : S) : Res (Option D) := stepR (bindTup [2, 3] d (wipeR ρ [2, 3])) (yes) (fun ρ s => cmpA .Lt (gv 2 ρ s) (fun s => gv 3 ρ s)) s
noncomputable def S_ties_are_right (ρ : Rho) (s : S) : Res Fl :=
  sq (iteR (orT (notT ((isiR .tuple (gv 1 ρ s)).bind evTruth)) (fun s => notT ((btR .all (consA (asLst (compR (seqI (gv 1 ρ s)) (T_ties_are_right_0 ρ))) (fun s => nilA s))).bind evTruth))) (fun s =>
    sq (retR (.ok (.bl false) s)) fun ρ s =>
    .ok (.nx ρ) s) (fun s =>
    .ok (.nx ρ) s)) fun ρ s =>
  sq (retR (btR .all (consA (asLst (compR (zipI (gv 1 ρ s) (fun s => cutR (gv 1 ρ s) (fun s => optR (.ok (.int 1) s)) (nopt))) (T_ties_are_right_1 ρ))) (fun s => nilA s)))) fun ρ s =>
  .ok (.nx ρ) s
theorem e_ties_are_right (ρ : Rho) (s : S) : evBlk (ev c_ties_are_right 60).X b_ties_are_right ρ s = S_ties_are_right ρ s := by kernel_rfl
theorem f_ties_are_right (x0 x1 : D) (s : S) : F_ties_are_right [x0, x1] s = (S_ties_are_right [some x0, some x1, none, none] s).bind (fin false s) := runB_eq e_ties_are_right [x0, x1] s rfl
noncomputable def S_flaw_of (ρ : Rho) (s : S) : Res Fl :=
  sq (iteR (orT (notT ((isiR .tuple (gv 0 ρ s)).bind evTruth)) (fun s => orT ((cmpA .NotEq (btR .len (consA (gv 0 ρ s) (fun s => nilA s))) (fun s => .ok (.int 4) s)).bind toB) (fun s => orT (notT ((isiR .str (ixR (gv 0 ρ s) (fun s => .ok (.int 0) s))).bind evTruth)) (fun s => (cmpA .NotEq (ixR (gv 0 ρ s) (fun s => .ok (.int 0) s)) (fun s => .ok (.str "call") s)).bind toB)))) (fun s =>
    sq (retR (.ok (.str "form") s)) fun ρ s =>
    .ok (.nx ρ) s) (fun s =>
    .ok (.nx ρ) s)) fun ρ s =>
  sq (iteR (notT ((callD 1 F_people_are_right (consA (ixR (gv 0 ρ s) (fun s => .ok (.int 1) s)) (fun s => nilA s))).bind evTruth)) (fun s =>
    sq (retR (.ok (.str "people") s)) fun ρ s =>
    .ok (.nx ρ) s) (fun s =>
    .ok (.nx ρ) s)) fun ρ s =>
  sq (iteR (notT ((callD 2 F_papers_are_right (consA (btR .len (consA (ixR (gv 0 ρ s) (fun s => .ok (.int 1) s)) (fun s => nilA s))) (fun s => consA (ixR (gv 0 ρ s) (fun s => .ok (.int 2) s)) (fun s => nilA s)))).bind evTruth)) (fun s =>
    sq (retR (.ok (.str "papers") s)) fun ρ s =>
    .ok (.nx ρ) s) (fun s =>
    .ok (.nx ρ) s)) fun ρ s =>
  sq (retR (iteR ((callD 2 F_ties_are_right (consA (btR .len (consA (ixR (gv 0 ρ s) (fun s => .ok (.int 1) s)) (fun s => nilA s))) (fun s => consA (ixR (gv 0 ρ s) (fun s => .ok (.int 3) s)) (fun s => nilA s)))).bind evTruth) (fun s => .ok .non s) (fun s => .ok (.str "ties") s))) fun ρ s =>
  .ok (.nx ρ) s
theorem e_flaw_of (ρ : Rho) (s : S) : evBlk (ev c_flaw_of 60).X b_flaw_of ρ s = S_flaw_of ρ s := by kernel_rfl
theorem f_flaw_of (x0 : D) (s : S) : F_flaw_of [x0] s = (S_flaw_of [some x0] s).bind (fin false s) := runB_eq e_flaw_of [x0] s rfl
noncomputable def S_check_call (ρ : Rho) (s : S) : Res Fl :=
  sq (iteR ((cmpA .IsNot (callD 1 F_flaw_of (consA (gv 0 ρ s) (fun s => nilA s))) (fun s => .ok .non s)).bind toB) (fun s =>
    sq (.stuck) fun ρ s =>
    .ok (.nx ρ) s) (fun s =>
    .ok (.nx ρ) s)) fun ρ s =>
  .ok (.nx ρ) s
theorem e_check_call (ρ : Rho) (s : S) : evBlk (ev c_check_call 60).X b_check_call ρ s = S_check_call ρ s := by kernel_rfl
theorem f_check_call (x0 : D) (s : S) : F_check_call [x0] s = (S_check_call [some x0] s).bind (fin false s) := runB_eq e_check_call [x0] s rfl
noncomputable def S_is_call (ρ : Rho) (s : S) : Res Fl :=
  sq (retR (cmpA .Is (callD 1 F_flaw_of (consA (gv 0 ρ s) (fun s => nilA s))) (fun s => .ok .non s))) fun ρ s =>
  .ok (.nx ρ) s
theorem e_is_call (ρ : Rho) (s : S) : evBlk (ev c_is_call 60).X b_is_call ρ s = S_is_call ρ s := by kernel_rfl
theorem f_is_call (x0 : D) (s : S) : F_is_call [x0] s = (S_is_call [some x0] s).bind (fin false s) := runB_eq e_is_call [x0] s rfl
noncomputable def S_check_paper (ρ : Rho) (s : S) : Res Fl :=
  sq (doR (callD 1 F_check_call (consA (gv 0 ρ s) (fun s => nilA s))) ρ) fun ρ s =>
  sq (iteR (notT ((callD 2 F_is_position (consA (gv 1 ρ s) (fun s => consA (btR .len (consA (ixR (gv 0 ρ s) (fun s => .ok (.int 2) s)) (fun s => nilA s))) (fun s => nilA s)))).bind evTruth)) (fun s =>
    sq (.stuck) fun ρ s =>
    .ok (.nx ρ) s) (fun s =>
    .ok (.nx ρ) s)) fun ρ s =>
  .ok (.nx ρ) s
theorem e_check_paper (ρ : Rho) (s : S) : evBlk (ev c_check_paper 60).X b_check_paper ρ s = S_check_paper ρ s := by kernel_rfl
theorem f_check_paper (x0 x1 : D) (s : S) : F_check_paper [x0, x1] s = (S_check_paper [some x0, some x1] s).bind (fin false s) := runB_eq e_check_paper [x0, x1] s rfl
noncomputable def S_check_person (ρ : Rho) (s : S) : Res Fl :=
  sq (doR (callD 1 F_check_call (consA (gv 0 ρ s) (fun s => nilA s))) ρ) fun ρ s =>
  sq (iteR (notT ((callD 2 F_is_position (consA (gv 1 ρ s) (fun s => consA (btR .len (consA (ixR (gv 0 ρ s) (fun s => .ok (.int 1) s)) (fun s => nilA s))) (fun s => nilA s)))).bind evTruth)) (fun s =>
    sq (.stuck) fun ρ s =>
    .ok (.nx ρ) s) (fun s =>
    .ok (.nx ρ) s)) fun ρ s =>
  .ok (.nx ρ) s
theorem e_check_person (ρ : Rho) (s : S) : evBlk (ev c_check_person 60).X b_check_person ρ s = S_check_person ρ s := by kernel_rfl
theorem f_check_person (x0 x1 : D) (s : S) : F_check_person [x0, x1] s = (S_check_person [some x0, some x1] s).bind (fin false s) := runB_eq e_check_person [x0, x1] s rfl
noncomputable def S_pairs (ρ : Rho) (s : S) : Res Fl :=
  sq (doR (callD 1 F_check_call (consA (gv 0 ρ s) (fun s => nilA s))) ρ) fun ρ s =>
  sq (retR (callD 1 F_pairs_of (consA (gv 0 ρ s) (fun s => nilA s)))) fun ρ s =>
  .ok (.nx ρ) s
theorem e_pairs (ρ : Rho) (s : S) : evBlk (ev c_pairs 60).X b_pairs ρ s = S_pairs ρ s := by kernel_rfl
theorem f_pairs (x0 : D) (s : S) : F_pairs [x0] s = (S_pairs [some x0] s).bind (fin false s) := runB_eq e_pairs [x0] s rfl
noncomputable def T_ties_that_count_0 (ρ : Rho) (d : D) (s : S) : Res (Option D) := stepR (toN 5 d (wipeR ρ [5])) (fun ρ s => andT ((cmpA .NotEq (gv 5 ρ s) (fun s => gv 3 ρ s)).bind toB) fun s => .ok true s) (fun ρ s => gv 5 ρ s) s
noncomputable def L_ties_that_count_0 (ρ : Rho) (s : S) : Res Fl := 
  sq (asg 4 ρ (bin .Add (cutR (gv 0 ρ s) (nopt) (fun s => optR (.ok (.int 3) s))) (fun s => tupR (consA (bt1 .tuple (asLst (compR (seqI (ixR (gv 0 ρ s) (fun s => .ok (.int 3) s))) (T_ties_that_count_0 ρ)))) (fun s => nilA s))))) fun ρ s =>
  sq (recvR extendD (gv 2 ρ s) (fun s => iteR ((cmpA .Gt (btR .len (consA (callD 1 F_pairs_of (consA (gv 4 ρ s) (fun s => nilA s))) (fun s => nilA s))) (fun s => gv 1 ρ s)).bind toB) (fun s => asLst (consA (gv 3 ρ s) (fun s => nilA s))) (fun s => asLst (nilA s))) ρ) fun ρ s =>
  .ok (.nx ρ) s
noncomputable def S_ties_that_count (ρ : Rho) (s : S) : Res Fl :=
  sq (doR (callD 1 F_check_call (consA (gv 0 ρ s) (fun s => nilA s))) ρ) fun ρ s =>
  sq (par [1, 2] ρ (consA (btR .len (consA (callD 1 F_pairs_of (consA (gv 0 ρ s) (fun s => nilA s))) (fun s => nilA s))) (fun s => consA (thawR (nilA s)) (fun s => nilA s)))) fun ρ s =>
  sq (forR ρ (seqI (ixR (gv 0 ρ s) (fun s => .ok (.int 3) s))) (fun d ρ => toN 3 d (ρ)) L_ties_that_count_0) fun ρ s =>
  sq (retK (gv 2 ρ s)) fun ρ s =>
  .ok (.nx ρ) s
theorem e_ties_that_count (ρ : Rho) (s : S) : evBlk (ev c_ties_that_count 60).X b_ties_that_count ρ s = S_ties_that_count ρ s := by kernel_rfl
theorem f_ties_that_count (x0 : D) (s : S) : F_ties_that_count [x0] s = (S_ties_that_count [some x0, none, none, none, none, none] s).bind (fin true s) := runB_eq e_ties_that_count [x0] s rfl
noncomputable def S_has_deal (ρ : Rho) (s : S) : Res Fl :=
  sq (doR (callD 1 F_check_call (consA (gv 0 ρ s) (fun s => nilA s))) ρ) fun ρ s =>
  sq (retR (callD 1 F_can_be_dealt (consA (callD 1 F_asked_of (consA (gv 0 ρ s) (fun s => nilA s))) (fun s => nilA s)))) fun ρ s =>
  .ok (.nx ρ) s
theorem e_has_deal (ρ : Rho) (s : S) : evBlk (ev c_has_deal 60).X b_has_deal ρ s = S_has_deal ρ s := by kernel_rfl
theorem f_has_deal (x0 : D) (s : S) : F_has_deal [x0] s = (S_has_deal [some x0] s).bind (fin false s) := runB_eq e_has_deal [x0] s rfl
noncomputable def S_check_both (ρ : Rho) (s : S) : Res Fl :=
  sq (doR (callD 2 F_check_paper (consA (gv 0 ρ s) (fun s => consA (gv 1 ρ s) (fun s => nilA s)))) ρ) fun ρ s =>
  sq (doR (callD 2 F_check_person (consA (gv 0 ρ s) (fun s => consA (gv 2 ρ s) (fun s => nilA s)))) ρ) fun ρ s =>
  .ok (.nx ρ) s
theorem e_check_both (ρ : Rho) (s : S) : evBlk (ev c_check_both 60).X b_check_both ρ s = S_check_both ρ s := by kernel_rfl
theorem f_check_both (x0 x1 x2 : D) (s : S) : F_check_both [x0, x1, x2] s = (S_check_both [some x0, some x1, some x2] s).bind (fin false s) := runB_eq e_check_both [x0, x1, x2] s rfl
noncomputable def S_check_other (ρ : Rho) (s : S) : Res Fl :=
  sq (doR (callD 2 F_check_person (consA (gv 0 ρ s) (fun s => consA (gv 1 ρ s) (fun s => nilA s)))) ρ) fun ρ s =>
  sq (iteR (orT (notT ((callD 2 F_is_position (consA (gv 2 ρ s) (fun s => consA (btR .len (consA (ixR (gv 0 ρ s) (fun s => .ok (.int 1) s)) (fun s => nilA s))) (fun s => nilA s)))).bind evTruth)) (fun s => (cmpA .Eq (gv 2 ρ s) (fun s => gv 1 ρ s)).bind toB)) (fun s =>
    sq (.stuck) fun ρ s =>
    .ok (.nx ρ) s) (fun s =>
    .ok (.nx ρ) s)) fun ρ s =>
  .ok (.nx ρ) s
theorem e_check_other (ρ : Rho) (s : S) : evBlk (ev c_check_other 60).X b_check_other ρ s = S_check_other ρ s := by kernel_rfl
theorem f_check_other (x0 x1 x2 : D) (s : S) : F_check_other [x0, x1, x2] s = (S_check_other [some x0, some x1, some x2] s).bind (fin false s) := runB_eq e_check_other [x0, x1, x2] s rfl
noncomputable def S_bars (ρ : Rho) (s : S) : Res Fl :=
  sq (doR (callD 3 F_check_both (consA (gv 0 ρ s) (fun s => consA (gv 1 ρ s) (fun s => consA (gv 2 ρ s) (fun s => nilA s))))) ρ) fun ρ s =>
  sq (retR (callD 3 F_bars_of (consA (gv 0 ρ s) (fun s => consA (gv 1 ρ s) (fun s => consA (gv 2 ρ s) (fun s => nilA s)))))) fun ρ s =>
  .ok (.nx ρ) s
theorem e_bars (ρ : Rho) (s : S) : evBlk (ev c_bars 60).X b_bars ρ s = S_bars ρ s := by kernel_rfl
theorem f_bars (x0 x1 x2 : D) (s : S) : F_bars [x0, x1, x2] s = (S_bars [some x0, some x1, some x2] s).bind (fin false s) := runB_eq e_bars [x0, x1, x2] s rfl
noncomputable def S_with_tie (ρ : Rho) (s : S) : Res Fl :=
  sq (doR (callD 3 F_check_other (consA (gv 0 ρ s) (fun s => consA (gv 1 ρ s) (fun s => consA (gv 2 ρ s) (fun s => nilA s))))) ρ) fun ρ s =>
  sq (asg 3 ρ (callD 2 F_tie_between (consA (gv 1 ρ s) (fun s => consA (gv 2 ρ s) (fun s => nilA s))))) fun ρ s =>
  sq (retR (bin .Add (cutR (gv 0 ρ s) (nopt) (fun s => optR (.ok (.int 3) s))) (fun s => tupR (consA (iteR ((cmpA .In (gv 3 ρ s) (fun s => ixR (gv 0 ρ s) (fun s => .ok (.int 3) s))).bind toB) (fun s => ixR (gv 0 ρ s) (fun s => .ok (.int 3) s)) (fun s => bt1 .tuple (btR .sorted (consA (bin .Add (ixR (gv 0 ρ s) (fun s => .ok (.int 3) s)) (fun s => tupR (consA (gv 3 ρ s) (fun s => nilA s)))) (fun s => nilA s))))) (fun s => nilA s))))) fun ρ s =>
  .ok (.nx ρ) s
theorem e_with_tie (ρ : Rho) (s : S) : evBlk (ev c_with_tie 60).X b_with_tie ρ s = S_with_tie ρ s := by kernel_rfl
theorem f_with_tie (x0 x1 x2 : D) (s : S) : F_with_tie [x0, x1, x2] s = (S_with_tie [some x0, some x1, some x2, none] s).bind (fin false s) := runB_eq e_with_tie [x0, x1, x2] s rfl
noncomputable def T_without_tie_0 (ρ : Rho) (d : D) (s : S) : Res (Option D) := stepR (toN 3 d (wipeR ρ [3])) (fun ρ s => andT ((cmpA .NotEq (gv 3 ρ s) (fun s => callD 2 F_tie_between (consA (gv 1 ρ s) (fun s => consA (gv 2 ρ s) (fun s => nilA s))))).bind toB) fun s => .ok true s) (fun ρ s => gv 3 ρ s) s
noncomputable def S_without_tie (ρ : Rho) (s : S) : Res Fl :=
  sq (doR (callD 3 F_check_other (consA (gv 0 ρ s) (fun s => consA (gv 1 ρ s) (fun s => consA (gv 2 ρ s) (fun s => nilA s))))) ρ) fun ρ s =>
  sq (retR (bin .Add (cutR (gv 0 ρ s) (nopt) (fun s => optR (.ok (.int 3) s))) (fun s => tupR (consA (bt1 .tuple (asLst (compR (seqI (ixR (gv 0 ρ s) (fun s => .ok (.int 3) s))) (T_without_tie_0 ρ)))) (fun s => nilA s))))) fun ρ s =>
  .ok (.nx ρ) s
theorem e_without_tie (ρ : Rho) (s : S) : evBlk (ev c_without_tie 60).X b_without_tie ρ s = S_without_tie ρ s := by kernel_rfl
theorem f_without_tie (x0 x1 x2 : D) (s : S) : F_without_tie [x0, x1, x2] s = (S_without_tie [some x0, some x1, some x2, none] s).bind (fin false s) := runB_eq e_without_tie [x0, x1, x2] s rfl
noncomputable def T__law_ties_right_0 (ρ : Rho) (d : D) (s : S) : Res (Option D) := stepR (toN 10 d (wipeR ρ [10])) (fun ρ s => andT ((callD 3 F__law_is_near (consA (gv 0 ρ s) (fun s => consA (gv 10 ρ s) (fun s => consA (gv 9 ρ s) (fun s => nilA s))))).bind evTruth) fun s => .ok true s) (fun ρ s => gv 10 ρ s) s
noncomputable def L__law_ties_right_0 (ρ : Rho) (s : S) : Res Fl := 
  sq (iteR (andT ((cmpA .In (gv 8 ρ s) (fun s => ixR (gv 7 ρ s) (fun s => .ok (.int 1) s))).bind toB) (fun s => andT ((cmpA .NotIn (gv 9 ρ s) (fun s => ixR (gv 7 ρ s) (fun s => .ok (.int 1) s))).bind toB) (fun s => (cmpA .Eq (asLst (compR (seqI (ixR (gv 7 ρ s) (fun s => .ok (.int 1) s))) (T__law_ties_right_0 ρ))) (fun s => asLst (consA (gv 8 ρ s) (fun s => nilA s)))).bind toB))) (fun s =>
    sq (recvR appendD (gv 5 ρ s) (fun s => tupR (consA (gv 6 ρ s) (fun s => consA (gv 9 ρ s) (fun s => nilA s)))) ρ) fun ρ s =>
    .ok (.nx ρ) s) (fun s =>
    .ok (.nx ρ) s)) fun ρ s =>
  .ok (.nx ρ) s
noncomputable def L__law_ties_right_1 (ρ : Rho) (s : S) : Res Fl := 
  sq (forR ρ (seqI (tupR (consA (tupR (consA (gv 3 ρ s) (fun s => consA (gv 4 ρ s) (fun s => nilA s)))) (fun s => consA (tupR (consA (gv 4 ρ s) (fun s => consA (gv 3 ρ s) (fun s => nilA s)))) (fun s => nilA s))))) (fun d ρ => bindTup [8, 9] d (ρ)) L__law_ties_right_0) fun ρ s =>
  .ok (.nx ρ) s
noncomputable def L__law_ties_right_2 (ρ : Rho) (s : S) : Res Fl := 
  sq (iteR ((cmpA .NotEq (callD 3 F_bars (consA (gv 0 ρ s) (fun s => consA (gv 6 ρ s) (fun s => consA (gv 9 ρ s) (fun s => nilA s))))) (fun s => asLst (consA (iteR ((cmpA .Eq (gv 9 ρ s) (fun s => gv 4 ρ s)).bind toB) (fun s => gv 3 ρ s) (fun s => gv 4 ρ s)) (fun s => nilA s)))).bind toB) (fun s =>
    sq (retR (.ok (.bl false) s)) fun ρ s =>
    .ok (.nx ρ) s) (fun s =>
    .ok (.nx ρ) s)) fun ρ s =>
  .ok (.nx ρ) s
noncomputable def L__law_ties_right_3 (ρ : Rho) (s : S) : Res Fl := 
  sq (asg 5 ρ (thawR (nilA s))) fun ρ s =>
  sq (forR ρ (enumI (ixR (gv 0 ρ s) (fun s => .ok (.int 2) s))) (fun d ρ => bindTup [6, 7] d (ρ)) L__law_ties_right_1) fun ρ s =>
  sq (iteR ((cmpA .NotEq (cmpA .NotEq (gv 5 ρ s) (fun s => asLst (nilA s))) (fun s => cmpA .In (tupR (consA (gv 3 ρ s) (fun s => consA (gv 4 ρ s) (fun s => nilA s)))) (fun s => gv 1 ρ s))).bind toB) (fun s =>
    sq (retR (.ok (.bl false) s)) fun ρ s =>
    .ok (.nx ρ) s) (fun s =>
    .ok (.nx ρ) s)) fun ρ s =>
  sq (forR ρ (seqI (cutR (gv 5 ρ s) (nopt) (fun s => optR (.ok (.int 1) s)))) (fun d ρ => bindTup [6, 9] d (ρ)) L__law_ties_right_2) fun ρ s =>
  .ok (.nx ρ) s
noncomputable def S__law_ties_right (ρ : Rho) (s : S) : Res Fl :=
  sq (asg 1 ρ (callD 1 F__law_counting (consA (gv 0 ρ s) (fun s => nilA s)))) fun ρ s =>
  sq (asg 2 ρ (asLst (consA (callD 1 F_ties_that_count (consA (gv 0 ρ s) (fun s => nilA s))) (fun s => consA (callK ["call"] ["call"] F_ties_that_count (nilA s) (fun s => consA (gv 0 ρ s) (fun s => nilA s))) (fun s => nilA s))))) fun ρ s =>
  sq (iteR ((cmpA .NotEq (btR .repr (consA (gv 2 ρ s) (fun s => nilA s))) (fun s => btR .repr (consA (asLst (consA (gv 1 ρ s) (fun s => consA (gv 1 ρ s) (fun s => nilA s)))) (fun s => nilA s)))).bind toB) (fun s =>
    sq (retR (.ok (.bl false) s)) fun ρ s =>
    .ok (.nx ρ) s) (fun s =>
    .ok (.nx ρ) s)) fun ρ s =>
  sq (recvR appendD (ixR (gv 2 ρ s) (fun s => .ok (.int 0) s)) (fun s => .ok .non s) ρ) fun ρ s =>
  sq (iteR ((cmpA .NotEq (btR .repr (consA (callD 1 F_ties_that_count (consA (gv 0 ρ s) (fun s => nilA s))) (fun s => nilA s))) (fun s => btR .repr (consA (gv 1 ρ s) (fun s => nilA s)))).bind toB) (fun s =>
    sq (retR (.ok (.bl false) s)) fun ρ s =>
    .ok (.nx ρ) s) (fun s =>
    .ok (.nx ρ) s)) fun ρ s =>
  sq (forR ρ (seqI (ixR (gv 0 ρ s) (fun s => .ok (.int 3) s))) (fun d ρ => bindTup [3, 4] d (ρ)) L__law_ties_right_3) fun ρ s =>
  sq (retR (.ok (.bl true) s)) fun ρ s =>
  .ok (.nx ρ) s
theorem e__law_ties_right (ρ : Rho) (s : S) : evBlk (ev c__law_ties_right 60).X b__law_ties_right ρ s = S__law_ties_right ρ s := by kernel_rfl
theorem f__law_ties_right (x0 : D) (s : S) : F__law_ties_right [x0] s = (S__law_ties_right [some x0, none, none, none, none, none, none, none, none, none, none] s).bind (fin false s) := runB_eq e__law_ties_right [x0] s rfl
noncomputable def T__law_moved_right_0 (ρ : Rho) (d : D) (s : S) : Res (Option D) := stepR (toN 10 d (wipeR ρ [10])) (fun ρ s => andT ((cmpA .NotIn (gv 10 ρ s) (fun s => gv 9 ρ s)).bind toB) fun s => .ok true s) (fun ρ s => gv 10 ρ s) s
noncomputable def T__law_moved_right_1 (ρ : Rho) (d : D) (s : S) : Res (Option D) := stepR (bindTup [12, 13, 14] d (wipeR ρ [12, 13, 14])) (yes) (fun ρ s => callD 3 F__law_has (consA (gv 12 ρ s) (fun s => consA (gv 13 ρ s) (fun s => consA (gv 14 ρ s) (fun s => nilA s))))) s
noncomputable def S__law_moved_right (ρ : Rho) (s : S) : Res Fl :=
  sq (asg 2 ρ (callD 2 F__law_draw (consA (gv 0 ρ s) (fun s => consA (btR .len (consA (ixR (gv 1 ρ s) (fun s => .ok (.int 1) s)) (fun s => nilA s))) (fun s => nilA s))))) fun ρ s =>
  sq (asg 3 ρ (callD 2 F__law_draw (consA (gv 0 ρ s) (fun s => consA (btR .len (consA (ixR (gv 1 ρ s) (fun s => .ok (.int 1) s)) (fun s => nilA s))) (fun s => nilA s))))) fun ρ s =>
  sq (iteR ((cmpA .Eq (gv 2 ρ s) (fun s => gv 3 ρ s)).bind toB) (fun s =>
    sq (retR (.ok (.bl true) s)) fun ρ s =>
    .ok (.nx ρ) s) (fun s =>
    .ok (.nx ρ) s)) fun ρ s =>
  sq (asg 4 ρ (tupR (consA (btR .min (consA (gv 2 ρ s) (fun s => consA (gv 3 ρ s) (fun s => nilA s)))) (fun s => consA (btR .max (consA (gv 2 ρ s) (fun s => consA (gv 3 ρ s) (fun s => nilA s)))) (fun s => nilA s))))) fun ρ s =>
  sq (asg 5 ρ (bin .Add (cutR (gv 1 ρ s) (nopt) (fun s => optR (.ok (.int 3) s))) (fun s => tupR (consA (bt1 .tuple (btR .sorted (consA (bin .Add (ixR (gv 1 ρ s) (fun s => .ok (.int 3) s)) (fun s => iteR ((cmpA .NotIn (gv 4 ρ s) (fun s => ixR (gv 1 ρ s) (fun s => .ok (.int 3) s))).bind toB) (fun s => tupR (consA (gv 4 ρ s) (fun s => nilA s))) (fun s => tupR (nilA s)))) (fun s => nilA s)))) (fun s => nilA s))))) fun ρ s =>
  sq (asg 6 ρ (callD 2 F__law_without (consA (gv 1 ρ s) (fun s => consA (gv 4 ρ s) (fun s => nilA s))))) fun ρ s =>
  sq (asg 7 ρ (asLst (consA (callD 3 F_with_tie (consA (gv 1 ρ s) (fun s => consA (gv 2 ρ s) (fun s => consA (gv 3 ρ s) (fun s => nilA s))))) (fun s => consA (callD 3 F_without_tie (consA (gv 1 ρ s) (fun s => consA (gv 2 ρ s) (fun s => consA (gv 3 ρ s) (fun s => nilA s))))) (fun s => consA (callK ["call", "person", "other"] ["other", "person", "call"] F_with_tie (nilA s) (fun s => consA (gv 2 ρ s) (fun s => consA (gv 3 ρ s) (fun s => consA (gv 1 ρ s) (fun s => nilA s))))) (fun s => consA (callK ["call", "person", "other"] ["other", "person", "call"] F_without_tie (nilA s) (fun s => consA (gv 2 ρ s) (fun s => consA (gv 3 ρ s) (fun s => consA (gv 1 ρ s) (fun s => nilA s))))) (fun s => nilA s))))))) fun ρ s =>
  sq (iteR (orT ((cmpA .NotEq (btR .repr (consA (gv 7 ρ s) (fun s => nilA s))) (fun s => btR .repr (consA (asLst (consA (gv 5 ρ s) (fun s => consA (gv 6 ρ s) (fun s => consA (gv 5 ρ s) (fun s => consA (gv 6 ρ s) (fun s => nilA s)))))) (fun s => nilA s)))).bind toB) (fun s => (cmpA .IsNot (callD 1 F_is_call (consA (ixR (gv 7 ρ s) (fun s => .ok (.int 0) s)) (fun s => nilA s))) (fun s => .ok (.bl true) s)).bind toB)) (fun s =>
    sq (retR (.ok (.bl false) s)) fun ρ s =>
    .ok (.nx ρ) s) (fun s =>
    .ok (.nx ρ) s)) fun ρ s =>
  sq (par [8, 9] ρ (consA (callD 1 F__law_pairs (consA (gv 5 ρ s) (fun s => nilA s))) (fun s => consA (callD 1 F__law_pairs (consA (gv 6 ρ s) (fun s => nilA s))) (fun s => nilA s)))) fun ρ s =>
  sq (iteR (orT ((cmpA .NotEq (btR .repr (consA (asLst (consA (callD 1 F_pairs (consA (ixR (gv 7 ρ s) (fun s => .ok (.int 0) s)) (fun s => nilA s))) (fun s => consA (callD 1 F_pairs (consA (ixR (gv 7 ρ s) (fun s => .ok (.int 1) s)) (fun s => nilA s))) (fun s => nilA s)))) (fun s => nilA s))) (fun s => btR .repr (consA (asLst (consA (gv 8 ρ s) (fun s => consA (gv 9 ρ s) (fun s => nilA s)))) (fun s => nilA s)))).bind toB) (fun s => (cmpA .NotEq (asLst (compR (seqI (gv 8 ρ s)) (T__law_moved_right_0 ρ))) (fun s => asLst (nilA s))).bind toB)) (fun s =>
    sq (retR (.ok (.bl false) s)) fun ρ s =>
    .ok (.nx ρ) s) (fun s =>
    .ok (.nx ρ) s)) fun ρ s =>
  sq (asg 11 ρ (asLst (compR (seqI (asLst (consA (callD 1 F__law_plain (consA (gv 5 ρ s) (fun s => nilA s))) (fun s => consA (callD 1 F__law_plain (consA (gv 6 ρ s) (fun s => nilA s))) (fun s => nilA s))))) (T__law_moved_right_1 ρ)))) fun ρ s =>
  sq (retR (andD (cmpA .Eq (asLst (consA (callD 1 F_has_deal (consA (ixR (gv 7 ρ s) (fun s => .ok (.int 0) s)) (fun s => nilA s))) (fun s => consA (callD 1 F_has_deal (consA (ixR (gv 7 ρ s) (fun s => .ok (.int 1) s)) (fun s => nilA s))) (fun s => nilA s)))) (fun s => gv 11 ρ s)) (fun s => notR (andD (ixR (gv 11 ρ s) (fun s => .ok (.int 0) s)) (fun s => notR (ixR (gv 11 ρ s) (fun s => .ok (.int 1) s))))))) fun ρ s =>
  .ok (.nx ρ) s
theorem e__law_moved_right (ρ : Rho) (s : S) : evBlk (ev c__law_moved_right 60).X b__law_moved_right ρ s = S__law_moved_right ρ s := by kernel_rfl
theorem f__law_moved_right (x0 x1 : D) (s : S) : F__law_moved_right [x0, x1] s = (S__law_moved_right [some x0, some x1, none, none, none, none, none, none, none, none, none, none, none, none, none] s).bind (fin false s) := runB_eq e__law_moved_right [x0, x1] s rfl
noncomputable def T__law_authors_right_0 (ρ : Rho) (d : D) (s : S) : Res (Option D) := stepR (toN 7 d (wipeR ρ [7])) (fun ρ s => andT ((cmpA .NotEq (gv 7 ρ s) (fun s => gv 3 ρ s)).bind toB) fun s => .ok true s) (fun ρ s => gv 7 ρ s) s
noncomputable def T__law_authors_right_1 (ρ : Rho) (d : D) (s : S) : Res (Option D) := stepR (toN 11 d (wipeR ρ [11])) (fun ρ s => andT ((cmpA .NotIn (gv 11 ρ s) (fun s => gv 10 ρ s)).bind toB) fun s => .ok true s) (fun ρ s => gv 11 ρ s) s
noncomputable def S__law_authors_right (ρ : Rho) (s : S) : Res Fl :=
  sq (par [2, 3] ρ (consA (callD 2 F__law_draw (consA (gv 0 ρ s) (fun s => consA (btR .len (consA (ixR (gv 1 ρ s) (fun s => .ok (.int 2) s)) (fun s => nilA s))) (fun s => nilA s)))) (fun s => consA (callD 2 F__law_draw (consA (gv 0 ρ s) (fun s => consA (btR .len (consA (ixR (gv 1 ρ s) (fun s => .ok (.int 1) s)) (fun s => nilA s))) (fun s => nilA s)))) (fun s => nilA s)))) fun ρ s =>
  sq (asgU [tgN 4, tgN 5] 2 ρ (ixR (ixR (gv 1 ρ s) (fun s => .ok (.int 2) s)) (fun s => gv 2 ρ s))) fun ρ s =>
  sq (asg 6 ρ (iteR ((cmpA .NotIn (gv 3 ρ s) (fun s => gv 5 ρ s)).bind toB) (fun s => bt1 .tuple (btR .sorted (consA (bin .Add (bt1 .list (gv 5 ρ s)) (fun s => asLst (consA (gv 3 ρ s) (fun s => nilA s)))) (fun s => nilA s)))) (fun s => bt1 .tuple (asLst (compR (seqI (gv 5 ρ s)) (T__law_authors_right_0 ρ)))))) fun ρ s =>
  sq (asg 8 ρ (bin .Add (bin .Add (cutR (gv 1 ρ s) (nopt) (fun s => optR (.ok (.int 2) s))) (fun s => tupR (consA (bin .Add (bin .Add (cutR (ixR (gv 1 ρ s) (fun s => .ok (.int 2) s)) (nopt) (fun s => optR (gv 2 ρ s))) (fun s => tupR (consA (tupR (consA (gv 4 ρ s) (fun s => consA (gv 6 ρ s) (fun s => nilA s)))) (fun s => nilA s)))) (fun s => cutR (ixR (gv 1 ρ s) (fun s => .ok (.int 2) s)) (fun s => optR (bin .Add (gv 2 ρ s) (fun s => .ok (.int 1) s))) (nopt))) (fun s => nilA s)))) (fun s => cutR (gv 1 ρ s) (fun s => optR (.ok (.int 3) s)) (nopt)))) fun ρ s =>
  sq (asgU [tgN 9, tgN 10] 2 ρ (iteR ((cmpA .NotIn (gv 3 ρ s) (fun s => gv 5 ρ s)).bind toB) (fun s => tupR (consA (callD 1 F_pairs (consA (gv 8 ρ s) (fun s => nilA s))) (fun s => consA (callD 1 F_pairs (consA (gv 1 ρ s) (fun s => nilA s))) (fun s => nilA s)))) (fun s => tupR (consA (callD 1 F_pairs (consA (gv 1 ρ s) (fun s => nilA s))) (fun s => consA (callD 1 F_pairs (consA (gv 8 ρ s) (fun s => nilA s))) (fun s => nilA s)))))) fun ρ s =>
  sq (iteR (orT ((cmpA .NotEq (btR .repr (consA (callD 1 F_pairs (consA (gv 8 ρ s) (fun s => nilA s))) (fun s => nilA s))) (fun s => btR .repr (consA (callD 1 F__law_pairs (consA (gv 8 ρ s) (fun s => nilA s))) (fun s => nilA s)))).bind toB) (fun s => (cmpA .NotEq (asLst (compR (seqI (gv 9 ρ s)) (T__law_authors_right_1 ρ))) (fun s => asLst (nilA s))).bind toB)) (fun s =>
    sq (retR (.ok (.bl false) s)) fun ρ s =>
    .ok (.nx ρ) s) (fun s =>
    .ok (.nx ρ) s)) fun ρ s =>
  sq (asg 12 ρ (tupR (consA (.ok (.str "call") s) (fun s => consA (bin .Mult (tupR (consA (tupR (consA (.ok (.int 0) s) (fun s => consA (.ok (.int 1) s) (fun s => nilA s)))) (fun s => nilA s))) (fun s => .ok (.int 3) s)) (fun s => consA (tupR (consA (tupR (consA (.ok (.int 1) s) (fun s => consA (tupR (consA (.ok (.int 0) s) (fun s => consA (.ok (.int 1) s) (fun s => nilA s)))) (fun s => nilA s)))) (fun s => nilA s))) (fun s => consA (tupR (consA (tupR (consA (.ok (.int 0) s) (fun s => consA (.ok (.int 2) s) (fun s => nilA s)))) (fun s => consA (tupR (consA (.ok (.int 1) s) (fun s => consA (.ok (.int 2) s) (fun s => nilA s)))) (fun s => nilA s)))) (fun s => nilA s))))))) fun ρ s =>
  sq (retR (cmpA .Eq (btR .repr (consA (asLst (consA (callD 1 F_ties_that_count (consA (gv 12 ρ s) (fun s => nilA s))) (fun s => consA (callD 1 F_pairs (consA (gv 12 ρ s) (fun s => nilA s))) (fun s => consA (callD 1 F_pairs (consA (callD 3 F_without_tie (consA (gv 12 ρ s) (fun s => consA (.ok (.int 2) s) (fun s => consA (.ok (.int 0) s) (fun s => nilA s))))) (fun s => nilA s))) (fun s => consA (callD 3 F_bars (consA (gv 12 ρ s) (fun s => consA (.ok (.int 0) s) (fun s => consA (.ok (.int 2) s) (fun s => nilA s))))) (fun s => nilA s)))))) (fun s => nilA s))) (fun s => btR .repr (consA (asLst (consA (asLst (nilA s)) (fun s => consA (asLst (nilA s)) (fun s => consA (asLst (nilA s)) (fun s => consA (asLst (consA (.ok (.int 0) s) (fun s => consA (.ok (.int 1) s) (fun s => nilA s)))) (fun s => nilA s)))))) (fun s => nilA s))))) fun ρ s =>
  .ok (.nx ρ) s
theorem e__law_authors_right (ρ : Rho) (s : S) : evBlk (ev c__law_authors_right 60).X b__law_authors_right ρ s = S__law_authors_right ρ s := by kernel_rfl
theorem f__law_authors_right (x0 x1 : D) (s : S) : F__law_authors_right [x0, x1] s = (S__law_authors_right [some x0, some x1, none, none, none, none, none, none, none, none, none, none, none] s).bind (fin false s) := runB_eq e__law_authors_right [x0, x1] s rfl
noncomputable def L__law_right_0 (ρ : Rho) (s : S) : Res Fl := 
  sq (asg 2 ρ (callD 1 F__law_tied_call (consA (gv 0 ρ s) (fun s => nilA s)))) fun ρ s =>
  sq (asg 3 ρ (btR .repr (consA (gv 2 ρ s) (fun s => nilA s)))) fun ρ s =>
  sq (iteR (orT (notT ((callD 1 F__law_ties_right (consA (gv 2 ρ s) (fun s => nilA s))).bind evTruth)) (fun s => orT (notT ((callD 2 F__law_moved_right (consA (gv 0 ρ s) (fun s => consA (gv 2 ρ s) (fun s => nilA s)))).bind evTruth)) (fun s => orT (notT ((callD 2 F__law_authors_right (consA (gv 0 ρ s) (fun s => consA (gv 2 ρ s) (fun s => nilA s)))).bind evTruth)) (fun s => (cmpA .NotEq (btR .repr (consA (gv 2 ρ s) (fun s => nilA s))) (fun s => gv 3 ρ s)).bind toB)))) (fun s =>
    sq (retR (.ok (.bl false) s)) fun ρ s =>
    .ok (.nx ρ) s) (fun s =>
    .ok (.nx ρ) s)) fun ρ s =>
  .ok (.nx ρ) s
noncomputable def S__law_right (ρ : Rho) (s : S) : Res Fl :=
  sq (forR ρ (rngI (rng1 (.ok (.int 4) s))) (fun d ρ => toN 1 d (ρ)) L__law_right_0) fun ρ s =>
  sq (retR (.ok (.bl true) s)) fun ρ s =>
  .ok (.nx ρ) s
theorem e__law_right (ρ : Rho) (s : S) : evBlk (ev c__law_right 60).X b__law_right ρ s = S__law_right ρ s := by kernel_rfl
theorem f__law_right (x0 : D) (s : S) : F__law_right [x0] s = (S__law_right [some x0, none, none, none] s).bind (fin false s) := runB_eq e__law_right [x0] s rfl
noncomputable def T_law_0 (ρ : Rho) (d : D) (s : S) : Res (Option D) := stepR (toN 1 d (wipeR ρ [1])) (yes) (fun ρ s => callD 1 F__law_right (consA (callD 2 F__law_pot (consA (gv 0 ρ s) (fun s => consA (gv 1 ρ s) (fun s => nilA s)))) (fun s => nilA s))) s
noncomputable def S_law (ρ : Rho) (s : S) : Res Fl :=
  sq (retR (btR .all (consA (asLst (compR (rngI (rng1 (btR .max (consA (.ok (.int 1) s) (fun s => consA (btR .min (consA (.ok (.int 2) s) (fun s => consA (btR .len (consA (gv 0 ρ s) (fun s => nilA s))) (fun s => nilA s)))) (fun s => nilA s)))))) (T_law_0 ρ))) (fun s => nilA s)))) fun ρ s =>
  .ok (.nx ρ) s
theorem e_law (ρ : Rho) (s : S) : evBlk (ev c_law 60).X b_law ρ s = S_law ρ s := by kernel_rfl
theorem f_law (x0 : D) (s : S) : F_law [x0] s = (S_law [some x0, none] s).bind (fin false s) := runB_eq e_law [x0] s rfl
end LK
set_option Elab.async false
set_option linter.all false
set_option maxRecDepth 100000
set_option maxHeartbeats 1000000
namespace LK
open PySem DL
/-! ### calls as values -/
def eP (p : Nat × Nat) : D := .tup [nat p.1, nat p.2]
def eR (r : Nat × List Nat) : D := .tup [nat r.1, .tup (r.2.map nat)]
def enc (c : Call) : D := .tup [.str "call", .tup (c.people.map eP), .tup (c.papers.map eR), .tup (c.ties.map eP)]
theorem eP_inj (p q : Nat × Nat) (h : eP p = eP q) : p = q := by
  obtain ⟨a, b⟩ := p
  obtain ⟨c, d⟩ := q
  unfold eP at h
  injection h with h
  injection h with h1 h2
  injection h2 with h2 _
  rw [show a = c from nat_inj _ _ h1, show b = d from nat_inj _ _ h2]
theorem fits_eP {n : Nat} (p : Nat × Nat) : fits (n + 2) (eP p) = true := rfl
theorem plain_eP (p : Nat × Nat) : (eP p).plain = true := rfl
theorem plain_nat (p : Nat) : (nat p).plain = true := rfl
theorem plain_nats (l : List Nat) : D.plains (l.map nat) = true := plains_map fun _ _ => rfl
theorem plain_pairs (l : List (Nat × Nat)) : D.plains (l.map eP) = true := plains_map fun _ _ => rfl
theorem plain_eR (r : Nat × List Nat) : (eR r).plain = true := by
  unfold eR
  rw [plain_tup, plains_cons, plains_cons, plain_tup, plain_nats]
  rfl
theorem plain_rows (l : List (Nat × List Nat)) : D.plains (l.map eR) = true := plains_map fun r _ => plain_eR r
theorem plain_enc (c : Call) : (enc c).plain = true := by
  unfold enc
  rw [plain_tup, plains_cons, plains_cons, plains_cons, plains_cons, plain_tup, plain_tup, plain_tup, plain_pairs, plain_pairs, plain_rows]
  rfl
theorem in_pairsT (l : List (Nat × Nat)) (x : Nat × Nat) (s : S) : cmpop .In (eP x) (.tup (l.map eP)) s = .ok (.bl (decide (x ∈ l))) s := in_tup (fun _ => rfl) eP_inj (m := 2) (by omega) (fun _ => rfl) l x s
theorem notin_pairsT (l : List (Nat × Nat)) (x : Nat × Nat) (s : S) : cmpop .NotIn (eP x) (.tup (l.map eP)) s = .ok (.bl !(decide (x ∈ l))) s := notin_tup (fun _ => rfl) eP_inj (m := 2) (by omega) (fun _ => rfl) l x s
theorem in_pairsL (l : List (Nat × Nat)) (x : Nat × Nat) (s : S) : cmpop .In (eP x) (.lst (l.map eP)) s = .ok (.bl (decide (x ∈ l))) s := in_lst (fun _ => rfl) eP_inj (m := 2) (by omega) (fun _ => rfl) l x s
theorem notin_pairsL (l : List (Nat × Nat)) (x : Nat × Nat) (s : S) : cmpop .NotIn (eP x) (.lst (l.map eP)) s = .ok (.bl !(decide (x ∈ l))) s := notin_lst (fun _ => rfl) eP_inj (m := 2) (by omega) (fun _ => rfl) l x s
theorem eq_pairs (x y : Nat × Nat) (s : S) : cmpop .Eq (eP x) (eP y) s = .ok (.bl (decide (x = y))) s := by
  rw [cmp_eq (fits_eP (n := 38) x) (fits_eP (n := 38) y) (fun _ _ h => by cases h), eqd_enc (fun _ => rfl) eP_inj]
theorem ne_pairs (x y : Nat × Nat) (s : S) : cmpop .NotEq (eP x) (eP y) s = .ok (.bl !(decide (x = y))) s := by
  rw [cmp_ne (fits_eP (n := 38) x) (fits_eP (n := 38) y) (fun _ _ h => by cases h), eqd_enc (fun _ => rfl) eP_inj]
theorem get1 (c : Call) (s : S) : getD (enc c) (.int 1) s = .ok (.tup (c.people.map eP)) s := rfl
theorem get2 (c : Call) (s : S) : getD (enc c) (.int 2) s = .ok (.tup (c.papers.map eR)) s := rfl
theorem get3 (c : Call) (s : S) : getD (enc c) (.int 3) s = .ok (.tup (c.ties.map eP)) s := rfl
theorem get_r0 (r : Nat × List Nat) (s : S) : getD (eR r) (.int 0) s = .ok (nat r.1) s := rfl
theorem get_r1 (r : Nat × List Nat) (s : S) : getD (eR r) (.int 1) s = .ok (.tup (r.2.map nat)) s := rfl
theorem get_p0 (r : Nat × Nat) (s : S) : getD (eP r) (.int 0) s = .ok (nat r.1) s := rfl
theorem get_p1 (r : Nat × Nat) (s : S) : getD (eP r) (.int 1) s = .ok (nat r.2) s := rfl
/-! ### what is right -/
theorem is_integer_int (a : Int) (s : S) : F_is_integer [.int a] s = .ok (.bl true) s := by
  rw [f_is_integer]
  simp [S_is_integer, isT, ret_ok, fin_same]
theorem is_count_int (a : Int) (s : S) : F_is_count [.int a] s = .ok (.bl (decide (0 ≤ a))) s := by
  rw [f_is_count]
  simp [S_is_count, is_integer_int, cmp_ge, ret_ok, fin_same]
theorem is_count_nat (a : Nat) (s : S) : F_is_count [nat a] s = .ok (.bl true) s := by
  rw [is_count_int]
  simp
theorem is_position_nat (a n : Nat) (h : a < n) (s : S) : F_is_position [nat a, nat n] s = .ok (.bl true) s := by
  rw [f_is_position]
  simp only [S_is_position, gv_0, gv_s, consA_ok, nilA_eq, Res.bind_ok, callD_ok, List.length_cons, List.length_nil, if_pos, is_integer_int, andD_t, cmpB_ok, cmp_le, cmp_lt]
  have h1 : (0 : Int) ≤ (a : Nat) := Int.natCast_nonneg a
  have h2 : ((a : Nat) : Int) < (n : Nat) := Int.ofNat_lt.mpr h
  simp [h1, h2, ret_ok, fin_same]
theorem all_true {α : Type} (l : List α) : (l.all fun _ => true) = true := by
  rw [List.all_eq_true]
  intro _ _
  rfl
theorem drop1_map {α : Type} (l : List α) (e : α → D) (s : S) : cutD (.tup (l.map e)) (some 1) none s = .ok (.tup ((l.drop 1).map e)) s := by
  have := cut_drop (l.map e) 1 s
  rw [show ((1 : Nat) : Int) = 1 from rfl] at this
  rw [this, List.map_drop]
theorem zip_next {α : Type} {R : α → α → Prop} : ∀ {l : List α}, l.Pairwise R → ∀ p ∈ l.zip (l.drop 1), R p.1 p.2
  | [], _, p, hp => by cases hp
  | [x], _, p, hp => by simp at hp
  | x :: y :: r, h, p, hp => by
    rw [List.pairwise_cons] at h
    have hp : p ∈ (x, y) :: (y :: r).zip r := hp
    rcases List.mem_cons.mp hp with rfl | hp
    · exact h.1 y (List.mem_cons_self ..)
    · exact zip_next h.2 p hp
theorem zip_len {α : Type} (l : List α) : (l.zip (l.drop 1)).length ≤ l.length := by
  rw [List.length_zip]
  exact Nat.min_le_left ..
theorem is_rising_tuple_eq (l : List Nat) (n : Nat) (hl : l.length ≤ 64) (hn : ∀ x ∈ l, x < n) (hp : l.Pairwise (· < ·)) (s : S) : F_is_rising_tuple [.tup (l.map nat), nat n] s = .ok (.bl true) s := by
  rw [f_is_rising_tuple]
  have L : l.length ≤ line := le_line (by omega)
  have L2 : (l.zip (l.drop 1)).length ≤ line := Nat.le_trans (zip_len l) L
  unfold S_is_rising_tuple
  simp only [gv_0, gv_s, isiR_ok, typed_tup, if_pos, isT, Res.bind_ok, evTruth_bl, notT_ok, Bool.not_true, orT_f, seqI_tup]
  rw [comp_map (e := nat) (g := fun _ => .bl true) L fun x hx => by
    unfold T_is_rising_tuple_0
    simp [is_position_nat x n (hn x hx)]]
  have a1 := all_bls (fun _ => true) l s
  simp only [asLst_ok, consA_ok, nilA_eq, Res.bind_ok, btR_ok, a1, all_true, evTruth_bl, notT_ok, Bool.not_true, iteR_f, sq_nx, gv_0, gv_s, cutR_ok, optR_ok, nopt_eq, drop1_map, zipI_ok, seqOf_tup, kindL_tup, if_pos, srcOf_tup, List.append_nil, zip2_map]
  rw [comp_map (e := fun p : Nat × Nat => .tup [nat p.1, nat p.2]) (g := fun _ => .bl true) L2 fun p hpm => by
    have := zip_next hp p hpm
    unfold T_is_rising_tuple_1
    simp [nat_lt, this]]
  have a2 := all_bls (fun _ => true) (l.zip (l.drop 1)) s
  simp only [asLst_ok, consA_ok, nilA_eq, Res.bind_ok, btR_ok, a2, all_true]
  simp [ret_ok, fin_same]
theorem person_is_right_eq (p : Nat × Nat) (h : p.1 ≤ p.2 ∧ p.2 ≤ 9) (s : S) : F_person_is_right [eP p] s = .ok (.bl true) s := by
  rw [f_person_is_right]
  unfold S_person_is_right
  obtain ⟨a, b⟩ := p
  have step : ∀ x ∈ [a, b], T_person_is_right_0 [some (eP (a, b)), none] (nat x) s = .ok (some (.bl true)) s := by
    intro x hx
    unfold T_person_is_right_0
    have hx : x ≤ 9 := by
      rcases List.mem_cons.mp hx with rfl | hx
      · omega
      · rcases List.mem_cons.mp hx with rfl | hx
        · exact h.2
        · cases hx
    have : ((x : Nat) : Int) ≤ 9 := by omega
    simp [is_count_nat, cmp_le, this]
  have cm := comp_map (e := nat) (g := fun _ => .bl true) (l := [a, b]) (le_line (by simp)) step
  have a1 := all_bls (fun _ => true) [a, b] s
  have h1 : ((a : Nat) : Int) ≤ b := by omega
  have e1 : seqI (.ok (eP (a, b)) s) = .ok ⟨[a, b].map nat, []⟩ s := rfl
  have e4 : callB .len [eP (a, b)] s = .ok (.int 2) s := rfl
  have e5 : typed (eP (a, b)) s = true := rfl
  have e6 : isT .tuple (eP (a, b)) = true := rfl
  simp only [gv_0, gv_s, isiR_ok, e5, e6, if_pos, Res.bind_ok, evTruth_bl, notT_ok, Bool.not_true, orT_f, consA_ok, nilA_eq, btR_ok, cmpA_ok, e4, cmp_nei, toB_ok, e1]
  simp only [decide_true, Bool.not_true, iteR_f, sq_nx, gv_0, gv_s, e1]
  rw [cm]
  simp only [asLst_ok, Res.bind_ok, consA_ok, nilA_eq, btR_ok, a1, all_true, andD_t, ixR_ok, get_p0, get_p1, cmpA_ok, nat_le]
  simp [ret_ok, fin_same, h.1]
theorem people_are_right_eq (c : Call) (g : Good c) (s : S) : F_people_are_right [.tup (c.people.map eP)] s = .ok (.bl true) s := by
  rw [f_people_are_right]
  unfold S_people_are_right
  have L : c.people.length ≤ line := le_line (by have := g.p8; omega)
  have cm := comp_map (s := s) (step := T_people_are_right_0 [some (.tup (c.people.map eP)), none]) (e := eP) (g := fun _ => .bl true) L fun x hx => by
    unfold T_people_are_right_0
    simp [person_is_right_eq x (g.pl x hx)]
  have a1 := all_bls (fun _ => true) c.people s
  have h1 : (1 : Int) ≤ (c.people.length : Nat) := by have := g.p1; omega
  have h2 : ((c.people.length : Nat) : Int) ≤ 8 := by have := g.p8; omega
  simp only [gv_0, gv_s, seqI_tup, isiR_ok, typed_tup, if_pos, isT, andD_t, consA_ok, nilA_eq, Res.bind_ok, btR_ok, len_tup, List.length_map, cmpB_ok, cmp_le, h1, h2, decide_true, cm, asLst_ok, a1, all_true]
  simp [ret_ok, fin_same]
theorem paper_is_right_eq (n : Nat) (r : Nat × List Nat) (h1 : 1 ≤ r.1 ∧ r.1 ≤ 4) (h2 : r.2.Pairwise (· < ·)) (h3 : ∀ a ∈ r.2, a < n) (h4 : n ≤ 8) (s : S) : F_paper_is_right [nat n, eR r] s = .ok (.bl true) s := by
  rw [f_paper_is_right]
  unfold S_paper_is_right
  have e1 : (1 : Int) ≤ (r.1 : Nat) := by omega
  have e2 : ((r.1 : Nat) : Int) ≤ 4 := by omega
  have e3 := is_rising_tuple_eq r.2 n (by have := asc_len h2 h3; omega) h3 h2 s
  have e4 : callB .len [eR r] s = .ok (.int 2) s := rfl
  have e5 : typed (eR r) s = true := rfl
  have e6 : isT .tuple (eR r) = true := rfl
  simp [e4, e5, e6, cmp_nei, get_r0, get_r1, is_count_nat, cmp_le, e1, e2, e3, ret_ok, fin_same]
theorem papers_are_right_eq (c : Call) (g : Good c) (s : S) : F_papers_are_right [nat c.people.length, .tup (c.papers.map eR)] s = .ok (.bl true) s := by
  rw [f_papers_are_right]
  unfold S_papers_are_right
  have L : c.papers.length ≤ line := le_line (by have := g.r8; omega)
  have h1 : (1 : Int) ≤ (c.papers.length : Nat) := by have := g.r1; omega
  have h2 : ((c.papers.length : Nat) : Int) ≤ 8 := by have := g.r8; omega
  have a1 := all_bls (fun _ => true) c.papers s
  simp [isT, len_tup, cmp_le, h1, h2]
  rw [comp_map (e := eR) (g := fun _ => .bl true) L fun x hx => by
    unfold T_papers_are_right_0
    simp [paper_is_right_eq _ x (g.rw x hx) (g.ra x hx) (g.rb x hx) g.p8]]
  simp only [asLst_ok, consA_ok, nilA_eq, Res.bind_ok, btR_ok, a1, all_true]
  simp [ret_ok, fin_same]
theorem tie_is_right_eq (n : Nat) (t : Nat × Nat) (h : t.1 < t.2 ∧ t.2 < n) (s : S) : F_tie_is_right [nat n, eP t] s = .ok (.bl true) s := by
  rw [f_tie_is_right]
  unfold S_tie_is_right
  have e3 := is_rising_tuple_eq [t.1, t.2] n (by simp) (by intro x hx; simp at hx; omega) (by simp [h.1]) s
  have e3 : F_is_rising_tuple [eP t, nat n] s = .ok (.bl true) s := e3
  have e4 : callB .len [eP t] s = .ok (.int 2) s := rfl
  simp [e3, e4, cmp_eqi, ret_ok, fin_same]
theorem ltd_pairs (p q : Nat × Nat) : ltd (eP p) (eP q) = decide (lexLt p q) := by
  show PySem.W.dataLt (.tuple [.int p.1, .int p.2]) (.tuple [.int q.1, .int q.2]) = _
  rw [PySem.W.dataLt_ii, Bool.eq_iff_iff, decide_eq_true_eq, decide_eq_true_eq]
  unfold lexLt
  omega
theorem lt_pairs (p q : Nat × Nat) (s : S) : cmpop .Lt (eP p) (eP q) s = .ok (.bl (decide (lexLt p q))) s := by
  rw [← ltd_pairs]
  rfl
end LK
set_option Elab.async false
set_option linter.all false
set_option maxRecDepth 100000
set_option maxHeartbeats 1000000
namespace LK
open PySem DL
theorem ties_are_right_eq (c : Call) (g : Good c) (s : S) : F_ties_are_right [nat c.people.length, .tup (c.ties.map eP)] s = .ok (.bl true) s := by
  rw [f_ties_are_right]
  unfold S_ties_are_right
  have L : c.ties.length ≤ line := le_line (by have := g.ties64; omega)
  have L2 : (c.ties.zip (c.ties.drop 1)).length ≤ line := Nat.le_trans (zip_len _) L
  have cm := fun o => comp_map (s := s) (step := T_ties_are_right_0 [some (nat c.people.length), some (.tup (c.ties.map eP)), none, o]) (e := eP) (g := fun _ => .bl true) L fun x hx => by
    unfold T_ties_are_right_0
    simp [tie_is_right_eq _ x (g.tw x hx)]
  have cm2 := fun o o' => comp_map (s := s) (step := T_ties_are_right_1 [some (nat c.people.length), some (.tup (c.ties.map eP)), o, o']) (e := fun p : (Nat × Nat) × (Nat × Nat) => .tup [eP p.1, eP p.2]) (g := fun _ => .bl true) L2 fun p hp => by
    have := zip_next g.ts p hp
    unfold T_ties_are_right_1
    simp [lt_pairs, this]
  have a1 := all_bls (fun _ => true) c.ties s
  have a2 := all_bls (fun _ => true) (c.ties.zip (c.ties.drop 1)) s
  simp only [gv_0, gv_s, isiR_ok, typed_tup, if_pos, isT, Res.bind_ok, evTruth_bl, notT_ok, Bool.not_true, orT_f, seqI_tup, cm, asLst_ok, consA_ok, nilA_eq, btR_ok, a1, all_true, iteR_f, sq_nx, cutR_ok, optR_ok, nopt_eq, drop1_map, zipI_ok, seqOf_tup, kindL_tup, srcOf_tup, List.append_nil, zip2_map, cm2, a2]
  simp [ret_ok, fin_same]
theorem flaw_of_eq (c : Call) (g : Good c) (s : S) : F_flaw_of [enc c] s = .ok .non s := by
  rw [f_flaw_of]
  unfold S_flaw_of
  have e4 : callB .len [enc c] s = .ok (.int 4) s := rfl
  have e5 : typed (enc c) s = true := rfl
  have e6 : isT .tuple (enc c) = true := rfl
  have e7 : getD (enc c) (.int 0) s = .ok (.str "call") s := rfl
  have e8 : isT .str (.str "call") = true := rfl
  simp only [gv_0, gv_s, isiR_ok, e5, e6, if_pos, Res.bind_ok, evTruth_bl, notT_ok, Bool.not_true, orT_f, consA_ok, nilA_eq, btR_ok, e4, cmpA_ok, cmp_nei, decide_true, toB_ok, ixR_ok, e7, typed_str, e8, ne_strs, iteR_f, sq_nx, get1, get2, get3, callD_ok, List.length_cons, List.length_nil, people_are_right_eq c g, len_tup, List.length_map, papers_are_right_eq c g, ties_are_right_eq c g, iteR_t]
  simp [ret_ok, fin_same]
theorem check_call_eq (c : Call) (g : Good c) (s : S) : F_check_call [enc c] s = .ok .non s := by
  rw [f_check_call]
  unfold S_check_call
  have e : cmpop .IsNot .non .non s = .ok (.bl false) s := rfl
  simp only [gv_0, gv_s, consA_ok, nilA_eq, Res.bind_ok, callD_ok, List.length_cons, List.length_nil, if_pos, flaw_of_eq c g, cmpA_ok, e, toB_ok, iteR_f, sq_nx]
  exact fin_nx (Kept.refl s)
theorem is_call_eq (c : Call) (g : Good c) (s : S) : F_is_call [enc c] s = .ok (.bl true) s := by
  rw [f_is_call]
  unfold S_is_call
  have e : cmpop .Is .non .non s = .ok (.bl true) s := rfl
  simp [flaw_of_eq c g, e, ret_ok, fin_same]
theorem check_paper_eq (c : Call) (g : Good c) (i : Nat) (h : i < c.papers.length) (s : S) : F_check_paper [enc c, nat i] s = .ok .non s := by
  rw [f_check_paper]
  unfold S_check_paper
  simp only [gv_0, gv_s, consA_ok, nilA_eq, Res.bind_ok, callD_ok, List.length_cons, List.length_nil, if_pos, check_call_eq c g, doR_ok, sq_nx, ixR_ok, get2, btR_ok, len_tup, List.length_map, is_position_nat i _ h, evTruth_bl, notT_ok, Bool.not_true, iteR_f]
  exact fin_nx (Kept.refl s)
theorem check_person_eq (c : Call) (g : Good c) (i : Nat) (h : i < c.people.length) (s : S) : F_check_person [enc c, nat i] s = .ok .non s := by
  rw [f_check_person]
  unfold S_check_person
  simp only [gv_0, gv_s, consA_ok, nilA_eq, Res.bind_ok, callD_ok, List.length_cons, List.length_nil, if_pos, check_call_eq c g, doR_ok, sq_nx, ixR_ok, get1, btR_ok, len_tup, List.length_map, is_position_nat i _ h, evTruth_bl, notT_ok, Bool.not_true, iteR_f]
  exact fin_nx (Kept.refl s)
theorem check_both_eq (c : Call) (g : Good c) (i p : Nat) (h : i < c.papers.length) (h2 : p < c.people.length) (s : S) : F_check_both [enc c, nat i, nat p] s = .ok .non s := by
  rw [f_check_both]
  unfold S_check_both
  simp only [gv_0, gv_s, consA_ok, nilA_eq, Res.bind_ok, callD_ok, List.length_cons, List.length_nil, if_pos, check_paper_eq c g i h, check_person_eq c g p h2, doR_ok, sq_nx]
  exact fin_nx (Kept.refl s)
theorem check_other_eq (c : Call) (g : Good c) (p o : Nat) (h : p < c.people.length) (h2 : o < c.people.length) (ne : o ≠ p) (s : S) : F_check_other [enc c, nat p, nat o] s = .ok .non s := by
  rw [f_check_other]
  unfold S_check_other
  simp only [gv_0, gv_s, consA_ok, nilA_eq, Res.bind_ok, callD_ok, List.length_cons, List.length_nil, if_pos, check_person_eq c g p h, doR_ok, sq_nx, ixR_ok, get1, btR_ok, len_tup, List.length_map, is_position_nat o _ h2, evTruth_bl, notT_ok, Bool.not_true, orT_f, cmpA_ok, nat_eq, ne, decide_false, toB_ok, iteR_f]
  exact fin_nx (Kept.refl s)
theorem are_tied_eq (c : Call) (a b : Nat) (s : S) : F_are_tied [enc c, nat a, nat b] s = .ok (.bl (tied c a b)) s := by
  rw [f_are_tied]
  have h : cmpop .In (.tup [nat (min a b), nat (max a b)]) (.tup (c.ties.map eP)) s = .ok (.bl (tied c a b)) s := in_pairsT c.ties (pr a b) s
  simp [S_are_tied, min2, max2, get3, h, ret_ok, fin_same]
theorem tie_between_eq (a b : Nat) (s : S) : F_tie_between [nat a, nat b] s = .ok (eP (pr a b)) s := by
  rw [f_tie_between]
  simp [S_tie_between, min2, max2, ret_ok, fin_same]
  rfl
theorem bars_of_eq (c : Call) (g : Good c) (i p : Nat) (h : i < c.papers.length) (s : S) : F_bars_of [enc c, nat i, nat p] s = .ok (.lst ((barsOf c (auOf c i) p).map nat)) s := by
  obtain ⟨w, h1, hm⟩ := g.at_ h
  have hl : (auOf c i).length ≤ line := le_line (Nat.le_trans (g.au8 (r := (w, auOf c i)) hm) (by decide))
  rw [f_bars_of]
  unfold S_bars_of
  have cm := fun o => comp_if (s := s) (step := T_bars_of_0 [some (enc c), some (nat i), some (nat p), o]) (e := nat) (g := nat) (p := fun a => decide (a = p) || tied c a p) hl fun a ha => by
    unfold T_bars_of_0
    simp only [toN_eq, wipeR_cons, wipeR_nil, List.set_cons_succ, List.set_cons_zero, stepR_some, gv_0, gv_s, cmpA_ok, nat_eq, Res.bind_ok, toB_ok]
    cases q : decide (a = p) with
    | true => simp
    | false =>
      simp only [orT_f, consA_ok, nilA_eq, callD_ok, are_tied_eq, Res.bind_ok, evTruth_bl, List.length_cons, List.length_nil, if_pos]
      cases tied c a p <;> simp
  simp only [gv_0, gv_s, ixR_ok, Res.bind_ok, get2, get_map h1, get_r1, seqI_tup, cm]
  simp [ret_ok, fin_same, plains_map, barsOf]
theorem eq_niln (l : List Nat) (s : S) : cmpop .Eq (.lst (l.map nat)) (.lst []) s = .ok (.bl l.isEmpty) s := by
  rw [eq_nil (fits_nats 38 _), List.isEmpty_map]
theorem ne_niln (l : List Nat) (s : S) : cmpop .NotEq (.lst (l.map nat)) (.lst []) s = .ok (.bl !l.isEmpty) s := by
  rw [ne_nil (fits_nats 38 _), List.isEmpty_map]
theorem fits_lpairs (n : Nat) (l : List (Nat × Nat)) : fits (n + 3) (.lst (l.map eP)) = true := fits_lst_map (n := n + 2) fun _ _ => rfl
theorem fitsL_pairs (n : Nat) (l : List (Nat × Nat)) : fitsL (n + 2) (l.map eP) = true := fits_lpairs n l
theorem ne_nilp (l : List (Nat × Nat)) (s : S) : cmpop .NotEq (.lst (l.map eP)) (.lst []) s = .ok (.bl !l.isEmpty) s := by
  rw [ne_nil (fits_lpairs 37 _), List.isEmpty_map]
theorem who_of_eq (c : Call) (g : Good c) (i : Nat) (h : i < c.papers.length) (s : S) : F_who_of [enc c, nat i] s = .ok (.lst ((whoOf c (auOf c i)).map nat)) s := by
  have hp : c.people.length ≤ line := le_line (by have := g.p8; omega)
  rw [f_who_of]
  unfold S_who_of
  have cm := fun o => comp_if (s := s) (l := List.range c.people.length) (step := T_who_of_0 [some (enc c), some (nat i), o]) (e := nat) (g := nat) (p := fun p => (barsOf c (auOf c i) p).isEmpty) (by rw [List.length_range]; exact hp) fun p _ => by
    unfold T_who_of_0
    simp only [toN_eq, wipeR_cons, wipeR_nil, List.set_cons_succ, List.set_cons_zero, stepR_some, gv_0, gv_s, Res.bind_ok, consA_ok, nilA_eq, callD_ok, List.length_cons, List.length_nil, if_pos, bars_of_eq c g i p h, cmpA_ok, asLst_ok, eq_niln, toB_ok]
    cases (barsOf c (auOf c i) p).isEmpty <;> simp
  simp only [gv_0, gv_s, ixR_ok, Res.bind_ok, get1, consA_ok, nilA_eq, btR_ok, len_tup, List.length_map, rng1_ok, rng_nat hp, cm]
  simp [ret_ok, fin_same, plains_map, whoOf]
def pairsTo (c : Call) (n : Nat) : List (Nat × Nat) := (List.range n).flatMap fun i => (whoOf c (auOf c i)).map fun p => (i, p)
theorem pairsTo_succ (c : Call) (n : Nat) : pairsTo c (n + 1) = pairsTo c n ++ (whoOf c (auOf c n)).map fun p => (n, p) := by
  unfold pairsTo
  rw [List.range_succ, List.flatMap_append, List.flatMap_singleton]
theorem pairsTo_len (c : Call) (g : Good c) : ∀ n, (pairsTo c n).length ≤ 8 * n
  | 0 => Nat.le_refl _
  | n + 1 => by
    rw [pairsTo_succ, List.length_append, List.length_map]
    have h1 := pairsTo_len c g n
    have h2 := whoOf_len c (auOf c n)
    have h3 := g.p8
    omega
theorem pairs_len (c : Call) (g : Good c) : (pairsOf c).length ≤ 64 := by
  have := pairsTo_len c g c.papers.length
  have := g.r8
  show (pairsTo c c.papers.length).length ≤ 64
  omega
theorem pairs_step (c : Call) (g : Good c) (s : S) (i : Nat) (hi : i < c.papers.length) (o : Option D) : L_pairs_of_0 [some (enc c), some (.mref s.size), some (nat i), o] (s.push (.lst ((pairsTo c i).map eP))) = .ok (.nx [some (enc c), some (.mref s.size), some (nat i), o]) (s.push (.lst ((pairsTo c (i + 1)).map eP))) := by
  have hw := whoOf_len c (auOf c i)
  have hl := pairsTo_len c g i
  have hp := g.p8
  have hr := g.r8
  have c2 : (whoOf c (auOf c i)).length ≤ line := le_line (by omega)
  have c3 : ((pairsTo c i).map eP).length + ((whoOf c (auOf c i)).map fun p => eP (i, p)).length ≤ line := by
    rw [List.length_map, List.length_map]
    exact le_line (by omega)
  unfold L_pairs_of_0
  simp only [gv_0, gv_s, recvR_push, consA_ok, nilA_eq, Res.bind_ok, callD_ok, List.length_cons, List.length_nil, if_pos, who_of_eq c g i hi, seqI_lst]
  have st : ∀ p ∈ whoOf c (auOf c i), T_pairs_of_0 [some (enc c), some (.mref s.size), some (nat i), o] (nat p) (s.push (.lst ((pairsTo c i).map eP))) = .ok (some (eP (i, p))) (s.push (.lst ((pairsTo c i).map eP))) := by
    intro p _
    unfold T_pairs_of_0
    simp only [toN_eq, wipeR_cons, wipeR_nil, List.set_cons_succ, List.set_cons_zero, stepR_some, yes_eq, gv_0, gv_s, Res.bind_ok, consA_ok, nilA_eq, tupR_ok]
    rfl
  rw [comp_map (e := nat) (g := fun p => eP (i, p)) c2 st]
  simp only [asLst_ok, Res.bind_ok]
  rw [extend_push c3, Res.bind_ok, sq_nx, pairsTo_succ, List.map_append, List.map_map]
  rfl
theorem pairs_of_eq (c : Call) (g : Good c) (s : S) : F_pairs_of [enc c] s = .ok (.lst ((pairsOf c).map eP)) s := by
  rw [f_pairs_of]
  unfold S_pairs_of
  have hr := g.r8
  have c1 : c.papers.length ≤ line := le_line (by omega)
  simp only [thawR_ok, nilA_eq, asg_ok, List.set_cons_succ, List.set_cons_zero, sq_nx, gv_0, gv_s, ixR_ok, Res.bind_ok, get2, consA_ok, btR_ok, len_tup, List.length_map, rng1_ok, rng_nat c1]
  obtain ⟨j, h⟩ := for_range (γ := Option D × Option D) (n := c.papers.length) (to := fun d ρ => toN 2 d ρ) (B := L_pairs_of_0) (R := fun j _ => [some (enc c), some (.mref s.size), j.1, j.2]) (St := fun n => s.push (.lst ((pairsTo c n).map eP))) (fun i hi j => ⟨[some (enc c), some (.mref s.size), some (nat i), j.2], (some (nat i), j.2), rfl, pairs_step c g s i hi j.2⟩) (none, none)
  dsimp only at h
  rw [show (pairsTo c 0).map eP = [] from rfl] at h
  rw [h]
  simp only [sq_nx, gv_0, gv_s]
  rw [ret_push (fitsL_pairs 37 _), Res.bind_ok, fin_push (fitsL_pairs 37 _)]
  rfl
theorem bars_eq (c : Call) (g : Good c) (i p : Nat) (h : i < c.papers.length) (h2 : p < c.people.length) (s : S) : F_bars [enc c, nat i, nat p] s = .ok (.lst ((barsOf c (auOf c i) p).map nat)) s := by
  rw [f_bars]
  unfold S_bars
  simp [check_both_eq c g i p h h2, bars_of_eq c g i p h, ret_ok, fin_same, plain_nats]
theorem pairs_eq (c : Call) (g : Good c) (s : S) : F_pairs [enc c] s = .ok (.lst ((pairsOf c).map eP)) s := by
  rw [f_pairs]
  unfold S_pairs
  simp [check_call_eq c g, pairs_of_eq c g, ret_ok, fin_same, plain_pairs]
/-! ### ties that count -/
theorem take3 (c : Call) (s : S) : cutD (enc c) none (some 3) s = .ok (.tup [.str "call", .tup (c.people.map eP), .tup (c.papers.map eR)]) s := rfl
theorem add1 (c : Call) (l : List (Nat × Nat)) (s : S) : binop .Add (.tup [.str "call", .tup (c.people.map eP), .tup (c.papers.map eR)]) (.tup [.tup (l.map eP)]) s = .ok (enc { c with ties := l }) s := by
  rw [add_tups, if_pos (le_line (by simp only [List.length_cons, List.length_nil]; omega))]
  rfl
def counting (c : Call) : List (Nat × Nat) := c.ties.filter fun t => decide ((pairsOf c).length < (pairsOf (without c t)).length)
theorem without_eq (c : Call) (t : Nat × Nat) : { c with ties := c.ties.filter fun u => !decide (u = t) } = without c t := rfl
/-- the slots, the list of the store -/
theorem ttc_step (c : Call) (g : Good c) (s : S) (p q : List (Nat × Nat)) (t : Nat × Nat) (hl : c.ties = p ++ t :: q) (o o' : Option D) : L_ties_that_count_0 [some (enc c), some (nat (pairsOf c).length), some (.mref s.size), some (eP t), o, o'] (s.push (.lst ((p.filter fun t => decide ((pairsOf c).length < (pairsOf (without c t)).length)).map eP))) = .ok (.nx [some (enc c), some (nat (pairsOf c).length), some (.mref s.size), some (eP t), some (enc (without c t)), o']) (s.push (.lst (((p ++ [t]).filter fun t => decide ((pairsOf c).length < (pairsOf (without c t)).length)).map eP))) := by
  have L64 := g.ties64
  have L : c.ties.length ≤ line := le_line (by omega)
  have lp : (p.filter fun t => decide ((pairsOf c).length < (pairsOf (without c t)).length)).length ≤ 64 := by
    refine Nat.le_trans (List.length_filter_le ..) ?_
    rw [hl, List.length_append] at L64
    omega
  unfold L_ties_that_count_0
  have cm := fun (o : Option D) (s : S) => comp_if (s := s) (step := T_ties_that_count_0 [some (enc c), some (nat (pairsOf c).length), some (.mref s.size), some (eP t), o, o']) (e := eP) (g := eP) (p := fun u => !decide (u = t)) (l := c.ties) L fun a ha => by
    unfold T_ties_that_count_0
    simp only [toN_eq, wipeR_cons, wipeR_nil, List.set_cons_succ, List.set_cons_zero, stepR_some, gv_0, gv_s, cmpA_ok, ne_pairs, Res.bind_ok, toB_ok]
    cases (!decide (a = t)) <;> simp
  have cm := fun o => comp_if (s := s.push (.lst ((p.filter fun t => decide ((pairsOf c).length < (pairsOf (without c t)).length)).map eP))) (step := T_ties_that_count_0 [some (enc c), some (nat (pairsOf c).length), some (.mref s.size), some (eP t), o, o']) (e := eP) (g := eP) (p := fun u => !decide (u = t)) (l := c.ties) L fun a ha => by
    unfold T_ties_that_count_0
    simp only [toN_eq, wipeR_cons, wipeR_nil, List.set_cons_succ, List.set_cons_zero, stepR_some, gv_0, gv_s, cmpA_ok, ne_pairs, Res.bind_ok, toB_ok]
    cases (!decide (a = t)) <;> simp
  simp only [gv_0, gv_s, nopt_eq, optR_ok, cutR_ok, Res.bind_ok, take3, ixR_ok, get3, seqI_tup, cm, asLst_ok, bt1_ok, tuple_lst, consA_ok, nilA_eq, tupR_ok, bin_ok, add1, without_eq, asg_ok, List.set_cons_succ, List.set_cons_zero, sq_nx, recvR_push, callD_ok, List.length_cons, List.length_nil, if_pos, pairs_of_eq _ (without_good g t), btR_ok, len_lst, List.length_map, cmpA_ok, nat_gt, toB_ok]
  rw [List.filter_append]
  cases q : decide ((pairsOf c).length < (pairsOf (without c t)).length) with
  | true =>
    rw [iteR_t, Res.bind_ok, extend_push (by rw [List.length_map]; exact le_line (by simp; omega)), Res.bind_ok, sq_nx, List.filter_cons, q, if_pos rfl]
    simp
  | false =>
    rw [iteR_f, Res.bind_ok, extend_push (by rw [List.length_map]; exact le_line (by simp; omega)), Res.bind_ok, sq_nx, List.filter_cons, q, if_neg (by decide)]
    simp
theorem ties_that_count_eq (c : Call) (g : Good c) (s : S) : F_ties_that_count [enc c] s = .ok (.mref s.size) (s.push (.lst ((counting c).map eP))) := by
  rw [f_ties_that_count]
  unfold S_ties_that_count
  simp only [gv_0, gv_s, consA_ok, nilA_eq, Res.bind_ok, callD_ok, List.length_cons, List.length_nil, if_pos, check_call_eq c g, doR_ok, sq_nx, pairs_of_eq c g, btR_ok, len_lst, List.length_map, thawR_ok, par_ok, setIs_cons, setIs_nil, nxR_ok, List.set_cons_succ, List.set_cons_zero, ixR_ok, get3, seqI_tup]
  obtain ⟨j, h⟩ := for_map (γ := Option D × Option D × Option D) (l := c.ties) (e := eP) (to := fun d ρ => toN 3 d ρ) (B := L_ties_that_count_0) (R := fun j _ => [some (enc c), some (nat (pairsOf c).length), some (.mref s.size), j.1, j.2.1, j.2.2]) (St := fun p => s.push (.lst ((p.filter fun t => decide ((pairsOf c).length < (pairsOf (without c t)).length)).map eP))) (fun p t q hl j => ⟨_, (some (eP t), some (enc (without c t)), j.2.2), rfl, ttc_step c g s p q t hl j.2.1 j.2.2⟩) (none, none, none)
  dsimp only at h
  rw [List.filter_nil, List.map_nil] at h
  rw [h]
  simp only [sq_nx, gv_0, gv_s, retK_ok, sq_rt, Res.bind_ok]
  rfl
theorem with_ties (c : Call) (l : List (Nat × Nat)) : enc { c with ties := l } = .tup [.str "call", .tup (c.people.map eP), .tup (c.papers.map eR), .tup (l.map eP)] := rfl
theorem without_tie_eq (c : Call) (g : Good c) (p o : Nat) (h : p < c.people.length) (h2 : o < c.people.length) (ne : o ≠ p) (s : S) : F_without_tie [enc c, nat p, nat o] s = .ok (enc (without c (pr p o))) s := by
  rw [f_without_tie]
  unfold S_without_tie
  have L : c.ties.length ≤ line := le_line (by have := g.ties64; omega)
  have cm := fun x => comp_if (s := s) (step := T_without_tie_0 [some (enc c), some (nat p), some (nat o), x]) (e := eP) (g := eP) (p := fun u => !decide (u = pr p o)) (l := c.ties) L fun a ha => by
    unfold T_without_tie_0
    simp only [toN_eq, wipeR_cons, wipeR_nil, List.set_cons_succ, List.set_cons_zero, stepR_some, gv_0, gv_s, consA_ok, nilA_eq, callD_ok, List.length_cons, List.length_nil, if_pos, tie_between_eq, cmpA_ok, ne_pairs, Res.bind_ok, toB_ok]
    cases (!decide (a = pr p o)) <;> simp
  simp only [gv_0, gv_s, consA_ok, nilA_eq, Res.bind_ok, callD_ok, List.length_cons, List.length_nil, if_pos, check_other_eq c g p o h h2 ne, doR_ok, sq_nx, nopt_eq, optR_ok, cutR_ok, take3, ixR_ok, get3, seqI_tup, cm, asLst_ok, bt1_ok, tuple_lst, tupR_ok, bin_ok, add1, without_eq]
  rw [ret_ok (plain_enc _), Res.bind_ok, fin_same (plain_enc _)]
end LK
set_option Elab.async false
set_option linter.all false
set_option maxRecDepth 100000
set_option maxHeartbeats 1000000
namespace LK
open PySem DL
abbrev lns (l : List Nat) : D := .lst (l.map nat)
theorem plain_lns (l : List Nat) : (lns l).plain = true := by rw [plain_lst]; exact plain_nats l
theorem plain_lnss (l : List (List Nat)) : D.plains (l.map lns) = true := plains_map fun x _ => plain_lns x
theorem add_int (a b : Nat) (s : S) : binop .Add (nat a) (nat b) s = .ok (nat (a + b)) s := rfl
def wantsOf (c : Call) : List Nat := (List.range c.papers.length).map (wantOf c)
def mays (c : Call) : List (List Nat) := (List.range c.papers.length).map fun i => whoOf c (auOf c i)
def loads (c : Call) : List Nat := (List.range c.people.length).map (loadOf c)
def leasts (c : Call) : List Nat := (List.range c.people.length).map (leastOf c)
theorem papers_wants (c : Call) : c.papers.map (fun r => nat r.1) = (wantsOf c).map nat := by
  rw [map_range c.papers _ (0, [])]
  unfold wantsOf
  rw [List.map_map]
  rfl
theorem people_loads (c : Call) : c.people.map (fun r => nat r.2) = (loads c).map nat := by
  rw [map_range c.people _ (0, 0)]
  unfold loads
  rw [List.map_map]
  rfl
theorem people_leasts (c : Call) : c.people.map (fun r => nat r.1) = (leasts c).map nat := by
  rw [map_range c.people _ (0, 0)]
  unfold leasts
  rw [List.map_map]
  rfl
def asked (c : Call) : D := .tup [lns (wantsOf c), .lst ((mays c).map lns), lns (loads c), lns (leasts c)]
theorem plain_asked (c : Call) : (asked c).plain = true := by
  unfold asked
  rw [plain_tup, plains_cons, plains_cons, plains_cons, plains_cons, plain_lns, plain_lns, plain_lns, plain_lst, plain_lnss]
  rfl
theorem asked_of_eq (c : Call) (g : Good c) (s : S) : F_asked_of [enc c] s = .ok (asked c) s := by
  rw [f_asked_of]
  unfold S_asked_of
  have Lr : c.papers.length ≤ line := le_line (by have := g.r8; omega)
  have Lp : c.people.length ≤ line := le_line (by have := g.p8; omega)
  have cm0 := fun o1 o2 o3 o4 o5 o6 o7 => comp_map (s := s) (l := List.range c.papers.length) (step := T_asked_of_0 [some (enc c), o1, o2, o3, o4, o5, o6, o7]) (e := nat) (g := fun i => lns (whoOf c (auOf c i))) (by rw [List.length_range]; exact Lr) fun i hi => by
    unfold T_asked_of_0
    simp [who_of_eq c g i (List.mem_range.mp hi)]
  have cm1 := fun o1 o2 o3 o4 o5 o6 o7 => comp_map (s := s) (l := c.papers) (step := T_asked_of_1 [some (enc c), o1, o2, o3, o4, o5, o6, o7]) (e := eR) (g := fun r => nat r.1) Lr fun r _ => by
    unfold T_asked_of_1 eR
    simp
  have cm2 := fun o1 o2 o3 o4 o5 o6 o7 => comp_map (s := s) (l := c.people) (step := T_asked_of_2 [some (enc c), o1, o2, o3, o4, o5, o6, o7]) (e := eP) (g := fun r => nat r.1) Lp fun r _ => by
    unfold T_asked_of_2 eP
    simp
  have cm3 := fun o1 o2 o3 o4 o5 o6 o7 => comp_map (s := s) (l := c.people) (step := T_asked_of_3 [some (enc c), o1, o2, o3, o4, o5, o6, o7]) (e := eP) (g := fun r => nat r.2) Lp fun r _ => by
    unfold T_asked_of_3 eP
    simp
  simp only [gv_0, gv_s, ixR_ok, Res.bind_ok, get2, get1, consA_ok, nilA_eq, btR_ok, len_tup, List.length_map, rng1_ok, rng_nat Lr, cm0, asLst_ok, asg_ok, List.set_cons_succ, List.set_cons_zero, sq_nx, seqI_tup, cm1, cm2, cm3, tupR_ok, papers_wants, people_loads, people_leasts]
  rw [show (List.range c.papers.length).map (fun i => lns (whoOf c (auOf c i))) = (mays c).map lns by unfold mays; rw [List.map_map]; rfl]
  rw [show (D.tup [.lst ((wantsOf c).map nat), .lst ((mays c).map lns), .lst ((loads c).map nat), .lst ((leasts c).map nat)]) = asked c from rfl]
  rw [ret_ok (plain_asked c), Res.bind_ok, fin_same (plain_asked c)]
/-! ### sums of lots -/
theorem totals_eq (l : List Nat) (hl : l.length ≤ 8) (s : S) : F_totals_by_lots [lns l] s = .ok (lns ((lots l).map List.sum)) s := by
  rw [f_totals_by_lots]
  unfold S_totals_by_lots
  have step : ∀ (j : Option D × Option D) (b : List (List Nat)) (p : List Nat) (x : Nat) (q : List Nat), l = p ++ x :: q → b = lots p → ∃ ρ j', toN 2 (nat x) [some (lns l), some (lns (b.map List.sum)), j.1, j.2] = some ρ ∧ L_totals_by_lots_0 ρ s = .ok (.nx [some (lns l), some (lns ((b ++ b.map (· ++ [x])).map List.sum)), (j' : Option D × Option D).1, j'.2]) s := by
    intro j b p x q hq hb
    refine ⟨_, (some (nat x), j.2), rfl, ?_⟩
    have hbl : b.length ≤ 256 := by
      rw [hb, lots_len]
      have : p.length ≤ 8 := by rw [hq, List.length_append] at hl; omega
      exact Nat.pow_le_pow_right (n := 2) (by decide) this
    have cm := comp_map (s := s) (l := b.map List.sum) (step := T_totals_by_lots_0 [some (lns l), some (lns (b.map List.sum)), some (nat x), j.2]) (e := nat) (g := fun a => nat (a + x)) (by rw [List.length_map]; exact le_line (by omega)) fun a _ => by
      unfold T_totals_by_lots_0
      simp only [toN_eq, wipeR_cons, wipeR_nil, List.set_cons_succ, List.set_cons_zero, stepR_some, yes_eq, Res.bind_ok, gv_0, gv_s, bin_ok, add_int]
    unfold L_totals_by_lots_0
    simp only [List.set_cons_succ, List.set_cons_zero, gv_0, gv_s, seqI_lst, cm, asLst_ok, bin_ok, Res.bind_ok, add_lsts, List.length_map]
    rw [if_pos (le_line (by omega))]
    simp only [asg_ok, sq_nx, List.set_cons_succ, List.set_cons_zero, List.map_append, List.map_map]
    have e : ((fun a => nat (a + x)) ∘ List.sum : List Nat → D) = nat ∘ List.sum ∘ fun (a : List Nat) => a ++ [x] := by
      funext a
      show nat (a.sum + x) = nat (a ++ [x]).sum
      rw [List.sum_append]
      simp
    rw [e]
    simp only [lns, List.map_append, List.map_map]
  obtain ⟨j, h⟩ := for_foldI (e := nat) (l := l) (s := s) (I := fun p b => b = lots p) (R := fun (j : Option D × Option D) (b : List (List Nat)) => [some (lns l), some (lns (b.map List.sum)), j.1, j.2]) (f := fun b x => b ++ b.map (· ++ [x])) (to := fun d ρ => toN 2 d ρ) (B := L_totals_by_lots_0) [[]] rfl (fun p x q b _ hb => by
      show b ++ b.map (· ++ [x]) = lots (p ++ [x])
      rw [lots_snoc, hb]) (fun j b p x q hq hb => step j b p x q hq hb) (none, none)
  dsimp only at h
  have e0 : lns ([[]].map List.sum) = .lst [.int 0] := rfl
  rw [e0] at h
  simp only [nilA_eq, consA_ok, Res.bind_ok, asLst_ok, asg_ok, List.set_cons_succ, List.set_cons_zero, sq_nx, gv_0, gv_s, seqI_lst, h]
  rw [ret_ok (plain_lns _), Res.bind_ok, fin_same (plain_lns _)]
  rfl
/-- how many of a lot's lists have it -/
def cnt (lot : List (List Nat)) (at_ : Nat) : Nat := (lot.filter fun m => decide (at_ ∈ m)).length
def cnts (w : Nat) (lot : List (List Nat)) : List Nat := (List.range w).map (cnt lot)
theorem repl_zero : ∀ w : Nat, repl [D.int 0] w = (List.range w).map fun _ => nat 0
  | 0 => rfl
  | w + 1 => by
    show [D.int 0] ++ repl [D.int 0] w = _
    rw [repl_zero w, List.range_succ_eq_map, List.map_cons, List.map_map]
    rfl
theorem sums_eq (l : List (List Nat)) (w : Nat) (hl : l.length ≤ 8) (hw : w ≤ 8) (s : S) : F_sums_by_lots [.lst (l.map lns), nat w] s = .ok (.lst (((lots l).map (cnts w)).map lns)) s := by
  rw [f_sums_by_lots]
  unfold S_sums_by_lots
  have step : ∀ (j : Option D × Option D × Option D × Option D) (b : List (List (List Nat))) (p : List (List Nat)) (x : List Nat) (q : List (List Nat)), l = p ++ x :: q → b = lots p → ∃ ρ j', toN 3 (lns x) [some (.lst (l.map lns)), some (nat w), some (.lst ((b.map (cnts w)).map lns)), j.1, j.2.1, j.2.2.1, j.2.2.2] = some ρ ∧ L_sums_by_lots_0 ρ s = .ok (.nx [some (.lst (l.map lns)), some (nat w), some (.lst (((b ++ b.map (· ++ [x])).map (cnts w)).map lns)), (j' : Option D × Option D × Option D × Option D).1, j'.2.1, j'.2.2.1, j'.2.2.2]) s := by
    intro j b p x q hq hb
    refine ⟨_, (some (lns x), j.2.1, j.2.2.1, j.2.2.2), rfl, ?_⟩
    have hbl : b.length ≤ 256 := by
      rw [hb, lots_len]
      have : p.length ≤ 8 := by rw [hq, List.length_append] at hl; omega
      exact Nat.pow_le_pow_right (n := 2) (by decide) this
    have cm := comp_map (s := s) (l := b) (step := T_sums_by_lots_1 [some (.lst (l.map lns)), some (nat w), some (.lst ((b.map (cnts w)).map lns)), some (lns x), j.2.1, j.2.2.1, j.2.2.2]) (e := fun a => lns (cnts w a)) (g := fun a => lns (cnts w (a ++ [x]))) (le_line (by omega)) fun a _ => by
      unfold T_sums_by_lots_1
      have cm2 := fun o1 o2 => comp_map (s := s) (l := List.range w) (step := T_sums_by_lots_0 [some (.lst (l.map lns)), some (nat w), some (.lst ((b.map (cnts w)).map lns)), some (lns x), o1, o2, some (lns (cnts w a))]) (e := fun i => .tup [nat i, nat (cnt a i)]) (g := fun i => nat (cnt (a ++ [x]) i)) (by rw [List.length_range]; exact le_line (by omega)) fun i _ => by
        unfold T_sums_by_lots_0
        simp only [bindTup_eq, setIs_cons, setIs_nil, wipeR_cons, wipeR_nil, List.set_cons_succ, List.set_cons_zero, stepR_some, yes_eq, Res.bind_ok, gv_0, gv_s, cmpA_ok, nat_in_lst, consA_ok, nilA_eq, btR_ok, int_bl, bin_ok, add_int]
        unfold cnt
        rw [List.filter_append, List.length_append, List.filter_cons]
        by_cases z : i ∈ x <;> simp [z]
      have ez : enumF 0 ((cnts w a).map nat) = (List.range w).map fun i => .tup [nat i, nat (cnt a i)] := by
        rw [enumF_map]
        unfold cnts
        rw [zipIdx_range, List.map_map]
        rfl
      simp only [toN_eq, wipeR_cons, wipeR_nil, List.set_cons_succ, List.set_cons_zero, stepR_some, yes_eq, Res.bind_ok, gv_0, gv_s, enumI_lst, ez, cm2, asLst_ok]
      unfold cnts
      rw [lns, List.map_map]
      rfl
    unfold L_sums_by_lots_0
    have e1 : (b.map (cnts w)).map lns = b.map fun a => lns (cnts w a) := by rw [List.map_map]; rfl
    rw [e1] at cm ⊢
    simp only [List.set_cons_succ, List.set_cons_zero, gv_0, gv_s, seqI_lst, bin_ok]
    rw [cm]
    simp only [asLst_ok, bin_ok, Res.bind_ok, add_lsts, List.length_map]
    rw [if_pos (le_line (by omega))]
    simp only [asg_ok, sq_nx, List.set_cons_succ, List.set_cons_zero, List.map_append, List.map_map]
    rfl
  obtain ⟨j, h⟩ := for_foldI (e := lns) (l := l) (s := s) (I := fun p b => b = lots p) (R := fun (j : Option D × Option D × Option D × Option D) (b : List (List (List Nat))) => [some (.lst (l.map lns)), some (nat w), some (.lst ((b.map (cnts w)).map lns)), j.1, j.2.1, j.2.2.1, j.2.2.2]) (f := fun b x => b ++ b.map (· ++ [x])) (to := fun d ρ => toN 3 d ρ) (B := L_sums_by_lots_0) [[]] rfl (fun p x q b _ hb => by
      show b ++ b.map (· ++ [x]) = lots (p ++ [x])
      rw [lots_snoc, hb]) (fun j b p x q hq hb => step j b p x q hq hb) (none, none, none, none)
  dsimp only at h
  have e0 : ([[]].map (cnts w)).map lns = [.lst (repl [D.int 0] w)] := by
    rw [repl_zero]
    unfold cnts
    show [lns ((List.range w).map (cnt []))] = _
    rw [lns, List.map_map]
    rfl
  rw [e0] at h
  have m0 : binop .Mult (.lst [.int 0]) (nat w) s = .ok (.lst (repl [D.int 0] w)) s := by
    rw [mul_lst, if_pos ⟨Int.natCast_nonneg _, le_line (by simp; omega), by omega⟩]
    rfl
  simp only [nilA_eq, consA_ok, Res.bind_ok, asLst_ok, gv_0, gv_s, bin_ok, m0, asg_ok, List.set_cons_succ, List.set_cons_zero, sq_nx, seqI_lst, h]
  have pl : (D.lst (((lots l).map (cnts w)).map lns)).plain = true := by rw [plain_lst]; exact plain_lnss _
  have e2 : (l.foldl (fun b x => b ++ b.map (· ++ [x])) [[]]) = lots l := rfl
  rw [e2, ret_ok pl, Res.bind_ok, fin_same pl]
/-! ### whether there is a deal -/
def turned (c : Call) : List (List Nat) := (List.range c.people.length).map fun p => (List.range c.papers.length).filter fun i => mayOf c i p
theorem ask0 (c : Call) (s : S) : getD (asked c) (.int 0) s = .ok (lns (wantsOf c)) s := rfl
theorem ask1 (c : Call) (s : S) : getD (asked c) (.int 1) s = .ok (.lst ((mays c).map lns)) s := rfl
theorem ask2 (c : Call) (s : S) : getD (asked c) (.int 2) s = .ok (lns (loads c)) s := rfl
theorem turned_eq (c : Call) (g : Good c) (s : S) : F_turned_may [asked c] s = .ok (.lst ((turned c).map lns)) s := by
  rw [f_turned_may]
  unfold S_turned_may
  have Lr : c.papers.length ≤ line := le_line (by have := g.r8; omega)
  have Lp : c.people.length ≤ line := le_line (by have := g.p8; omega)
  have ez : enumF 0 ((mays c).map lns) = (List.range c.papers.length).map fun i => .tup [nat i, lns (whoOf c (auOf c i))] := by
    rw [enumF_map]
    unfold mays
    rw [zipIdx_range, List.map_map]
    rfl
  have cm := fun o1 o2 o3 => comp_map (s := s) (l := List.range c.people.length) (step := T_turned_may_1 [some (asked c), o1, o2, o3]) (e := nat) (g := fun p => lns ((List.range c.papers.length).filter fun i => mayOf c i p)) (by rw [List.length_range]; exact Lp) fun p _ => by
    unfold T_turned_may_1
    have cm2 := fun o1 o2 => comp_if (s := s) (l := List.range c.papers.length) (step := T_turned_may_0 [some (asked c), o1, o2, some (nat p)]) (e := fun i => .tup [nat i, lns (whoOf c (auOf c i))]) (g := nat) (p := fun i => mayOf c i p) (by rw [List.length_range]; exact Lr) fun i _ => by
      unfold T_turned_may_0
      simp only [bindTup_eq, setIs_cons, setIs_nil, wipeR_cons, wipeR_nil, List.set_cons_succ, List.set_cons_zero, stepR_some, Res.bind_ok, gv_0, gv_s, cmpA_ok, nat_in_lst, toB_ok]
      unfold mayOf
      cases decide (p ∈ whoOf c (auOf c i)) <;> simp
    simp only [toN_eq, wipeR_cons, wipeR_nil, List.set_cons_succ, List.set_cons_zero, stepR_some, yes_eq, Res.bind_ok, gv_0, gv_s, ixR_ok, ask1, enumI_lst, ez, cm2, asLst_ok]
  have L2 : ((loads c).map nat).length = c.people.length := by rw [List.length_map]; unfold loads; rw [List.length_map, List.length_range]
  simp only [gv_0, gv_s, ixR_ok, Res.bind_ok, ask2, consA_ok, nilA_eq, btR_ok, len_lst, L2, rng1_ok, rng_nat Lp, cm, asLst_ok]
  have e1 : (List.range c.people.length).map (fun p => lns ((List.range c.papers.length).filter fun i => mayOf c i p)) = (turned c).map lns := by
    unfold turned; rw [List.map_map]; rfl
  rw [e1]
  have pl : (D.lst ((turned c).map lns)).plain = true := by rw [plain_lst]; exact plain_lnss _
  rw [ret_ok pl, Res.bind_ok, fin_same pl]
theorem cnts_mays (c : Call) (lot : List Nat) : cnts c.people.length (lot.map fun i => whoOf c (auOf c i)) = (List.range c.people.length).map (cntP c lot) := by
  unfold cnts
  refine List.map_congr_left fun p _ => ?_
  unfold cnt cntP
  rw [List.filter_map, List.length_map]
  rfl
theorem cnts_turned (c : Call) (lot : List Nat) : cnts c.papers.length (lot.map fun p => (List.range c.papers.length).filter fun i => mayOf c i p) = (List.range c.papers.length).map (cntL c lot) := by
  unfold cnts
  refine List.map_congr_left fun i hi => ?_
  unfold cnt cntL
  rw [List.filter_map, List.length_map]
  congr 1
  refine List.filter_congr fun p _ => ?_
  show decide (i ∈ (List.range c.papers.length).filter fun i => mayOf c i p) = mayOf c i p
  rw [Bool.eq_iff_iff, decide_eq_true_eq, List.mem_filter]
  exact ⟨fun h => h.2, fun h => ⟨hi, h⟩⟩
theorem not_gt (a b : Nat) : decide (b < a) = !decide (a ≤ b) := by
  by_cases h : a ≤ b <;> simp [h] <;> omega
theorem can_be_dealt_eq (c : Call) (g : Good c) (s : S) : F_can_be_dealt [asked c] s = .ok (.bl (dealB c)) s := by
  rw [f_can_be_dealt]
  unfold S_can_be_dealt
  have r8 := g.r8
  have p8 := g.p8
  have lw : (wantsOf c).length = c.papers.length := by unfold wantsOf; rw [List.length_map, List.length_range]
  have ll : (leasts c).length = c.people.length := by unfold leasts; rw [List.length_map, List.length_range]
  have lo : (loads c).length = c.people.length := by unfold loads; rw [List.length_map, List.length_range]
  have lm : (mays c).length = c.papers.length := by unfold mays; rw [List.length_map, List.length_range]
  have lt : (turned c).length = c.people.length := by unfold turned; rw [List.length_map, List.length_range]
  have t1 := fun s => totals_eq (wantsOf c) (by omega) s
  have t2 := fun s => totals_eq (leasts c) (by omega) s
  have u1 := fun s => sums_eq (mays c) c.people.length (by omega) p8 s
  have u2 := fun s => sums_eq (turned c) c.papers.length (by omega) r8 s
  have z1 : zip2 (((lots (wantsOf c)).map List.sum).map nat) (((lots (mays c)).map (cnts c.people.length)).map lns) = (lots (List.range c.papers.length)).map fun lot => .tup [nat (lot.map (wantOf c)).sum, lns ((List.range c.people.length).map (cntP c lot))] := by
    unfold wantsOf mays
    rw [lots_map, lots_map, zip2_map, List.map_map, List.map_map, zip_same, List.map_map]
    refine List.map_congr_left fun lot _ => ?_
    show D.tup [nat (lot.map (wantOf c)).sum, lns (cnts c.people.length (lot.map fun i => whoOf c (auOf c i)))] = _
    rw [cnts_mays]
  have z2 : zip2 (((lots (leasts c)).map List.sum).map nat) (((lots (turned c)).map (cnts c.papers.length)).map lns) = (lots (List.range c.people.length)).map fun lot => .tup [nat (lot.map (leastOf c)).sum, lns ((List.range c.papers.length).map (cntL c lot))] := by
    unfold leasts turned
    rw [lots_map, lots_map, zip2_map, List.map_map, List.map_map, zip_same, List.map_map]
    refine List.map_congr_left fun lot _ => ?_
    show D.tup [nat (lot.map (leastOf c)).sum, lns (cnts c.papers.length (lot.map fun p => (List.range c.papers.length).filter fun i => mayOf c i p))] = _
    rw [cnts_turned]
  have f1 := for_all (s := s) (e := fun lot : List Nat => .tup [nat (lot.map (wantOf c)).sum, lns ((List.range c.people.length).map (cntP c lot))]) (to := fun d ρ => bindTup [5, 6] d ρ) (B := L_can_be_dealt_0) (R := fun (j : Option D × Option D × Option D × Option D × Option D × Option D) => [some (asked c), some (lns (wantsOf c)), some (.lst ((mays c).map lns)), some (lns (loads c)), some (lns (leasts c)), j.1, j.2.1, j.2.2.1, j.2.2.2.1, j.2.2.2.2.1, j.2.2.2.2.2]) (p := Pd c) (v := .bl false) (l := lots (List.range c.papers.length)) (fun lot hlot j => by
    refine ⟨_, rfl, ?_⟩
    have zz : zip2 ((loads c).map nat) (((List.range c.people.length).map (cntP c lot)).map nat) = (List.range c.people.length).map fun p => .tup [nat (loadOf c p), nat (cntP c lot p)] := by
      unfold loads
      rw [zip2_map, zip_same, List.map_map]
      rfl
    have cm := fun o1 o2 o3 o4 o5 o6 => comp_map (s := s) (l := List.range c.people.length) (step := T_can_be_dealt_0 [some (asked c), some (lns (wantsOf c)), some (.lst ((mays c).map lns)), some (lns (loads c)), some (lns (leasts c)), o1, o2, o3, o4, o5, o6]) (e := fun p => .tup [nat (loadOf c p), nat (cntP c lot p)]) (g := fun p => nat (min (loadOf c p) (cntP c lot p))) (by rw [List.length_range]; exact le_line (by omega)) fun p _ => by
      unfold T_can_be_dealt_0
      simp only [bindTup_eq, setIs_cons, setIs_nil, wipeR_cons, wipeR_nil, List.set_cons_succ, List.set_cons_zero, stepR_some, yes_eq, Res.bind_ok, gv_0, gv_s, consA_ok, nilA_eq, btR_ok, min2]
    have e : L_can_be_dealt_0 [some (asked c), some (lns (wantsOf c)), some (.lst ((mays c).map lns)), some (lns (loads c)), some (lns (leasts c)), some (nat (lot.map (wantOf c)).sum), some (lns ((List.range c.people.length).map (cntP c lot))), j.2.2.1, j.2.2.2.1, j.2.2.2.2.1, j.2.2.2.2.2] s = if Pd c lot = true then .ok (.nx [some (asked c), some (lns (wantsOf c)), some (.lst ((mays c).map lns)), some (lns (loads c)), some (lns (leasts c)), some (nat (lot.map (wantOf c)).sum), some (lns ((List.range c.people.length).map (cntP c lot))), j.2.2.1, j.2.2.2.1, j.2.2.2.2.1, j.2.2.2.2.2]) s else .ok (.rt (.bl false)) s := by
      unfold L_can_be_dealt_0
      have sn := sum_nats ((List.range c.people.length).map fun p => min (loadOf c p) (cntP c lot p)) s
      rw [List.map_map] at sn
      have sn : callB .sum [.lst ((List.range c.people.length).map fun p => nat (min (loadOf c p) (cntP c lot p)))] s = _ := sn
      simp only [gv_0, gv_s, zipI_ok, Res.bind_ok, seqOf_lst, kindL_lst, if_pos, srcOf_lst, List.append_nil, zz, cm, asLst_ok, consA_ok, nilA_eq, btR_ok, sn, cmpA_ok, nat_gt, toB_ok]
      rw [not_gt]
      unfold Pd
      cases q : decide ((lot.map (wantOf c)).sum ≤ ((List.range c.people.length).map fun p => min (loadOf c p) (cntP c lot p)).sum) with
      | true => simp
      | false => simp [ret_ok]
    exact ⟨fun q => ⟨(some (nat (lot.map (wantOf c)).sum), some (lns ((List.range c.people.length).map (cntP c lot))), j.2.2.1, j.2.2.2.1, j.2.2.2.2.1, j.2.2.2.2.2), by exact e.trans (by rw [if_pos q])⟩, fun q => by exact e.trans (by rw [if_neg (by rw [q]; decide)])⟩)
  have f2 := for_all (s := s) (e := fun lot : List Nat => .tup [nat (lot.map (leastOf c)).sum, lns ((List.range c.papers.length).map (cntL c lot))]) (to := fun d ρ => bindTup [5, 9] d ρ) (B := L_can_be_dealt_1) (R := fun (j : Option D × Option D × Option D × Option D × Option D × Option D) => [some (asked c), some (lns (wantsOf c)), some (.lst ((mays c).map lns)), some (lns (loads c)), some (lns (leasts c)), j.1, j.2.1, j.2.2.1, j.2.2.2.1, j.2.2.2.2.1, j.2.2.2.2.2]) (p := Pl c) (v := .bl false) (l := lots (List.range c.people.length)) (fun lot hlot j => by
    refine ⟨_, rfl, ?_⟩
    have zz : zip2 ((wantsOf c).map nat) (((List.range c.papers.length).map (cntL c lot)).map nat) = (List.range c.papers.length).map fun p => .tup [nat (wantOf c p), nat (cntL c lot p)] := by
      unfold wantsOf
      rw [zip2_map, zip_same, List.map_map]
      rfl
    have cm := fun o1 o2 o3 o4 o5 o6 => comp_map (s := s) (l := List.range c.papers.length) (step := T_can_be_dealt_1 [some (asked c), some (lns (wantsOf c)), some (.lst ((mays c).map lns)), some (lns (loads c)), some (lns (leasts c)), o1, o2, o3, o4, o5, o6]) (e := fun p => .tup [nat (wantOf c p), nat (cntL c lot p)]) (g := fun p => nat (min (wantOf c p) (cntL c lot p))) (by rw [List.length_range]; exact le_line (by omega)) fun p _ => by
      unfold T_can_be_dealt_1
      simp only [bindTup_eq, setIs_cons, setIs_nil, wipeR_cons, wipeR_nil, List.set_cons_succ, List.set_cons_zero, stepR_some, yes_eq, Res.bind_ok, gv_0, gv_s, consA_ok, nilA_eq, btR_ok, min2]
    have e : L_can_be_dealt_1 [some (asked c), some (lns (wantsOf c)), some (.lst ((mays c).map lns)), some (lns (loads c)), some (lns (leasts c)), some (nat (lot.map (leastOf c)).sum), j.2.1, j.2.2.1, j.2.2.2.1, some (lns ((List.range c.papers.length).map (cntL c lot))), j.2.2.2.2.2] s = if Pl c lot = true then .ok (.nx [some (asked c), some (lns (wantsOf c)), some (.lst ((mays c).map lns)), some (lns (loads c)), some (lns (leasts c)), some (nat (lot.map (leastOf c)).sum), j.2.1, j.2.2.1, j.2.2.2.1, some (lns ((List.range c.papers.length).map (cntL c lot))), j.2.2.2.2.2]) s else .ok (.rt (.bl false)) s := by
      unfold L_can_be_dealt_1
      have sn := sum_nats ((List.range c.papers.length).map fun p => min (wantOf c p) (cntL c lot p)) s
      rw [List.map_map] at sn
      have sn : callB .sum [.lst ((List.range c.papers.length).map fun p => nat (min (wantOf c p) (cntL c lot p)))] s = _ := sn
      simp only [gv_0, gv_s, zipI_ok, Res.bind_ok, seqOf_lst, kindL_lst, if_pos, srcOf_lst, List.append_nil, zz, cm, asLst_ok, consA_ok, nilA_eq, btR_ok, sn, cmpA_ok, nat_gt, toB_ok]
      rw [not_gt]
      unfold Pl
      cases q : decide ((lot.map (leastOf c)).sum ≤ ((List.range c.papers.length).map fun p => min (wantOf c p) (cntL c lot p)).sum) with
      | true => simp
      | false => simp [ret_ok]
    exact ⟨fun q => ⟨(some (nat (lot.map (leastOf c)).sum), j.2.1, j.2.2.1, j.2.2.2.1, some (lns ((List.range c.papers.length).map (cntL c lot))), j.2.2.2.2.2), by exact e.trans (by rw [if_pos q])⟩, fun q => by exact e.trans (by rw [if_neg (by rw [q]; decide)])⟩)
  have as_ : ∀ s, asgU [tgN 1, tgN 2, tgN 3, tgN 4] 4 [some (asked c), none, none, none, none, none, none, none, none, none, none] (.ok (asked c) s) = .ok (.nx [some (asked c), some (lns (wantsOf c)), some (.lst ((mays c).map lns)), some (lns (loads c)), some (lns (leasts c)), none, none, none, none, none, none]) s := fun s => rfl
  simp only [gv_0, gv_s, as_, sq_nx, consA_ok, nilA_eq, Res.bind_ok, callD_ok, List.length_cons, List.length_nil, if_pos, t1, btR_ok, len_lst, List.length_map, lo, u1, zipI_ok, seqOf_lst, kindL_lst, srcOf_lst, List.append_nil, z1]
  have g1 := f1 (none, none, none, none, none, none)
  cases q1 : (lots (List.range c.papers.length)).all (Pd c) with
  | false =>
    rw [g1.2 q1, sq_rt, Res.bind_ok, fin_same rfl]
    unfold dealB
    rw [q1]
    rfl
  | true =>
    obtain ⟨j', h1⟩ := g1.1 q1
    rw [h1]
    simp only [gv_0, gv_s, sq_nx, consA_ok, nilA_eq, Res.bind_ok, callD_ok, List.length_cons, List.length_nil, if_pos, t2, turned_eq c g, btR_ok, len_lst, List.length_map, lw, u2, zipI_ok, seqOf_lst, kindL_lst, srcOf_lst, List.append_nil, z2]
    have g2 := f2 j'
    cases q2 : (lots (List.range c.people.length)).all (Pl c) with
    | false =>
      rw [g2.2 q2, sq_rt, Res.bind_ok, fin_same rfl]
      unfold dealB
      rw [q1, q2]
      rfl
    | true =>
      obtain ⟨j2, h2⟩ := g2.1 q2
      rw [h2, sq_nx, ret_ok rfl, Res.bind_ok, fin_same rfl]
      unfold dealB
      rw [q1, q2]
      rfl
theorem has_deal_eq (c : Call) (g : Good c) (s : S) : F_has_deal [enc c] s = .ok (.bl (dealB c)) s := by
  rw [f_has_deal]
  unfold S_has_deal
  simp [check_call_eq c g, asked_of_eq c g, can_be_dealt_eq c g, ret_ok, fin_same]
end LK
set_option Elab.async false
set_option linter.all false
set_option maxRecDepth 100000
set_option maxHeartbeats 1000000
namespace LK
open PySem DL
theorem near_tied {c : Call} (g : Good c) (a b : Nat) : (decide (a = b) || (decide ((a, b) ∈ c.ties) || decide ((b, a) ∈ c.ties))) = (decide (a = b) || tied c a b) := by
  by_cases e : a = b
  · simp [e]
  · rw [decide_eq_false e, Bool.false_or, Bool.false_or]
    unfold tied pr
    rw [Bool.eq_iff_iff, Bool.or_eq_true, decide_eq_true_eq, decide_eq_true_eq, decide_eq_true_eq]
    rcases Nat.lt_or_gt_of_ne e with h | h
    · rw [Nat.min_eq_left (Nat.le_of_lt h), Nat.max_eq_right (Nat.le_of_lt h)]
      refine ⟨fun z => z.elim id fun z => ?_, .inl⟩
      have := (g.tw _ z).1
      dsimp only at this
      omega
    · rw [Nat.min_eq_right (Nat.le_of_lt h), Nat.max_eq_left (Nat.le_of_lt h)]
      refine ⟨fun z => z.elim (fun z => ?_) id, .inr⟩
      have := (g.tw _ z).1
      dsimp only at this
      omega
theorem law_near_eq (c : Call) (g : Good c) (a b : Nat) (s : S) : F__law_is_near [enc c, nat a, nat b] s = .ok (.bl (decide (a = b) || tied c a b)) s := by
  rw [f__law_is_near, ← near_tied g]
  unfold S__law_is_near
  have i1 := in_pairsT c.ties (a, b) s
  have i2 := in_pairsT c.ties (b, a) s
  unfold eP at i1 i2
  dsimp only at i1 i2
  have i1 : cmpop .In (.tup [nat a, nat b]) (.tup (c.ties.map eP)) s = _ := i1
  have i2 : cmpop .In (.tup [nat b, nat a]) (.tup (c.ties.map eP)) s = _ := i2
  simp only [gv_0, gv_s, cmpA_ok, Res.bind_ok, nat_eq, consA_ok, nilA_eq, tupR_ok, ixR_ok, get3, i1, i2]
  cases decide (a = b) <;> cases q2 : decide ((a, b) ∈ c.ties) <;> rw [q2] at i1 <;> simp [i1, i2, ret_ok, fin_same]
theorem law_who_eq (c : Call) (g : Good c) (i : Nat) (h : i < c.papers.length) (s : S) : F__law_who [enc c, nat i] s = .ok (.lst ((whoOf c (auOf c i)).map nat)) s := by
  obtain ⟨w, h1, hm⟩ := g.at_ h
  have hl : (auOf c i).length ≤ line := le_line (Nat.le_trans (g.au8 (r := (w, auOf c i)) hm) (by decide))
  have hp : c.people.length ≤ line := le_line (by have := g.p8; omega)
  rw [f__law_who]
  unfold S__law_who
  have cm := fun o1 o2 => comp_if (s := s) (l := List.range c.people.length) (step := T__law_who_1 [some (enc c), some (nat i), some (.tup ((auOf c i).map nat)), o1, o2]) (e := nat) (g := nat) (p := fun p => (barsOf c (auOf c i) p).isEmpty) (by rw [List.length_range]; exact hp) fun p _ => by
    unfold T__law_who_1
    have cm2 := fun o1 => comp_if (s := s) (l := auOf c i) (step := T__law_who_0 [some (enc c), some (nat i), some (.tup ((auOf c i).map nat)), some (nat p), o1]) (e := nat) (g := nat) (p := fun a => decide (a = p) || tied c a p) hl fun a _ => by
      unfold T__law_who_0
      simp only [toN_eq, wipeR_cons, wipeR_nil, List.set_cons_succ, List.set_cons_zero, stepR_some, gv_0, gv_s, Res.bind_ok, consA_ok, nilA_eq, callD_ok, List.length_cons, List.length_nil, if_pos, law_near_eq c g, evTruth_bl]
      cases (decide (a = p) || tied c a p) <;> simp
    simp only [toN_eq, wipeR_cons, wipeR_nil, List.set_cons_succ, List.set_cons_zero, stepR_some, gv_0, gv_s, Res.bind_ok, seqI_tup, cm2, asLst_ok, cmpA_ok, nilA_eq, eq_niln, toB_ok]
    rw [show (auOf c i).filter (fun a => decide (a = p) || tied c a p) = barsOf c (auOf c i) p from rfl]
    cases (barsOf c (auOf c i) p).isEmpty <;> simp
  simp only [gv_0, gv_s, ixR_ok, Res.bind_ok, get2, get_map h1, get_r1, asg_ok, List.set_cons_succ, List.set_cons_zero, sq_nx, get1, consA_ok, nilA_eq, btR_ok, len_tup, List.length_map, rng1_ok, rng_nat hp, cm, asLst_ok]
  have pl : (D.lst ((whoOf c (auOf c i)).map nat)).plain = true := by rw [plain_lst]; exact plain_nats _
  show (sq (retR (.ok (.lst ((whoOf c (auOf c i)).map nat)) s)) _).bind _ = _
  rw [ret_ok pl, Res.bind_ok, fin_same pl]
theorem law_pairs_step (c : Call) (g : Good c) (s : S) (i : Nat) (hi : i < c.papers.length) (o : Option D) : L__law_pairs_0 [some (enc c), some (.mref s.size), some (nat i), o] (s.push (.lst ((pairsTo c i).map eP))) = .ok (.nx [some (enc c), some (.mref s.size), some (nat i), o]) (s.push (.lst ((pairsTo c (i + 1)).map eP))) := by
  have hw := whoOf_len c (auOf c i)
  have hl := pairsTo_len c g i
  have hp := g.p8
  have hr := g.r8
  have c2 : (whoOf c (auOf c i)).length ≤ line := le_line (by omega)
  have c3 : ((pairsTo c i).map eP).length + ((whoOf c (auOf c i)).map fun p => eP (i, p)).length ≤ line := by
    rw [List.length_map, List.length_map]
    exact le_line (by omega)
  unfold L__law_pairs_0
  simp only [gv_0, gv_s, recvR_push, consA_ok, nilA_eq, Res.bind_ok, callD_ok, List.length_cons, List.length_nil, if_pos, law_who_eq c g i hi, seqI_lst]
  have st : ∀ p ∈ whoOf c (auOf c i), T__law_pairs_0 [some (enc c), some (.mref s.size), some (nat i), o] (nat p) (s.push (.lst ((pairsTo c i).map eP))) = .ok (some (eP (i, p))) (s.push (.lst ((pairsTo c i).map eP))) := by
    intro p _
    unfold T__law_pairs_0
    simp only [toN_eq, wipeR_cons, wipeR_nil, List.set_cons_succ, List.set_cons_zero, stepR_some, yes_eq, gv_0, gv_s, Res.bind_ok, consA_ok, nilA_eq, tupR_ok]
    rfl
  rw [comp_map (e := nat) (g := fun p => eP (i, p)) c2 st]
  simp only [asLst_ok, Res.bind_ok]
  rw [extend_push c3, Res.bind_ok, sq_nx, pairsTo_succ, List.map_append, List.map_map]
  rfl
theorem law_pairs_eq (c : Call) (g : Good c) (s : S) : F__law_pairs [enc c] s = .ok (.lst ((pairsOf c).map eP)) s := by
  rw [f__law_pairs]
  unfold S__law_pairs
  have hr := g.r8
  have c1 : c.papers.length ≤ line := le_line (by omega)
  simp only [thawR_ok, nilA_eq, asg_ok, List.set_cons_succ, List.set_cons_zero, sq_nx, gv_0, gv_s, ixR_ok, Res.bind_ok, get2, consA_ok, btR_ok, len_tup, List.length_map, rng1_ok, rng_nat c1]
  obtain ⟨j, h⟩ := for_range (γ := Option D × Option D) (n := c.papers.length) (to := fun d ρ => toN 2 d ρ) (B := L__law_pairs_0) (R := fun j _ => [some (enc c), some (.mref s.size), j.1, j.2]) (St := fun n => s.push (.lst ((pairsTo c n).map eP))) (fun i hi j => ⟨[some (enc c), some (.mref s.size), some (nat i), j.2], (some (nat i), j.2), rfl, law_pairs_step c g s i hi j.2⟩) (none, none)
  dsimp only at h
  rw [show (pairsTo c 0).map eP = [] from rfl] at h
  rw [h]
  simp only [sq_nx, gv_0, gv_s]
  rw [ret_push (fitsL_pairs 37 _), Res.bind_ok, fin_push (fitsL_pairs 37 _)]
  rfl
theorem law_without_eq (c : Call) (g : Good c) (t : Nat × Nat) (s : S) : F__law_without [enc c, eP t] s = .ok (enc (without c t)) s := by
  rw [f__law_without]
  unfold S__law_without
  have L : c.ties.length ≤ line := le_line (by have := g.ties64; omega)
  have cm := fun x => comp_if (s := s) (step := T__law_without_0 [some (enc c), some (eP t), x]) (e := eP) (g := eP) (p := fun u => !decide (u = t)) (l := c.ties) L fun a ha => by
    unfold T__law_without_0
    simp only [toN_eq, wipeR_cons, wipeR_nil, List.set_cons_succ, List.set_cons_zero, stepR_some, gv_0, gv_s, cmpA_ok, ne_pairs, Res.bind_ok, toB_ok]
    cases (!decide (a = t)) <;> simp
  simp only [gv_0, gv_s, nopt_eq, optR_ok, cutR_ok, Res.bind_ok, take3, ixR_ok, get3, seqI_tup, cm, asLst_ok, bt1_ok, tuple_lst, consA_ok, nilA_eq, tupR_ok, bin_ok, add1, without_eq]
  rw [ret_ok (plain_enc _), Res.bind_ok, fin_same (plain_enc _)]
/-- those that count, as the law says -/
def due (c : Call) : List (Nat × Nat) := c.ties.filter fun t => !((pairsOf (without c t)).filter fun x => !decide (x ∈ pairsOf c)).isEmpty
theorem due_iff (c : Call) (t : Nat × Nat) : (!((pairsOf (without c t)).filter fun x => !decide (x ∈ pairsOf c)).isEmpty) = true ↔ ∃ x ∈ pairsOf (without c t), x ∉ pairsOf c := by
  rw [Bool.not_eq_true', Bool.eq_false_iff, ne_eq, List.isEmpty_iff, List.filter_eq_nil_iff]
  constructor
  · intro h
    refine Decidable.byContradiction fun z => h fun x hx q => z ⟨x, hx, ?_⟩
    simpa using q
  · rintro ⟨x, hx, nx⟩ h
    exact h x hx (by simpa using nx)
theorem due_counting (c : Call) : due c = counting c := by
  unfold due counting
  refine List.filter_congr fun t _ => ?_
  rw [Bool.eq_iff_iff, due_iff, decide_eq_true_eq, counts_iff]
theorem law_counting_eq (c : Call) (g : Good c) (s : S) : F__law_counting [enc c] s = .ok (.lst ((due c).map eP)) s := by
  rw [f__law_counting]
  unfold S__law_counting
  have L : c.ties.length ≤ line := le_line (by have := g.ties64; omega)
  have cm := fun o1 o2 => comp_if (s := s) (l := c.ties) (step := T__law_counting_1 [some (enc c), some (.lst ((pairsOf c).map eP)), o1, o2]) (e := eP) (g := eP) (p := fun t => !((pairsOf (without c t)).filter fun x => !decide (x ∈ pairsOf c)).isEmpty) L fun t _ => by
    have L2 : (pairsOf (without c t)).length ≤ line := le_line (Nat.le_trans (pairs_len _ (without_good g t)) (by decide))
    unfold T__law_counting_1
    have cm2 := fun o1 => comp_if (s := s) (l := pairsOf (without c t)) (step := T__law_counting_0 [some (enc c), some (.lst ((pairsOf c).map eP)), some (eP t), o1]) (e := eP) (g := eP) (p := fun x => !decide (x ∈ pairsOf c)) L2 fun x _ => by
      unfold T__law_counting_0
      simp only [toN_eq, wipeR_cons, wipeR_nil, List.set_cons_succ, List.set_cons_zero, stepR_some, gv_0, gv_s, Res.bind_ok, cmpA_ok, notin_pairsL, toB_ok]
      cases (!decide (x ∈ pairsOf c)) <;> simp
    simp only [toN_eq, wipeR_cons, wipeR_nil, List.set_cons_succ, List.set_cons_zero, stepR_some, gv_0, gv_s, Res.bind_ok, consA_ok, nilA_eq, callD_ok, List.length_cons, List.length_nil, if_pos, law_without_eq c g, law_pairs_eq _ (without_good g t), seqI_lst, cm2, asLst_ok, cmpA_ok, ne_nilp, toB_ok]
    cases (!((pairsOf (without c t)).filter fun x => !decide (x ∈ pairsOf c)).isEmpty) <;> simp
  simp only [gv_0, gv_s, consA_ok, nilA_eq, Res.bind_ok, callD_ok, List.length_cons, List.length_nil, if_pos, law_pairs_eq c g, asg_ok, List.set_cons_succ, List.set_cons_zero, sq_nx, ixR_ok, get3, seqI_tup, cm, asLst_ok]
  have pl : (D.lst ((due c).map eP)).plain = true := by rw [plain_lst]; exact plain_pairs _
  show (sq (retR (.ok (.lst ((due c).map eP)) s)) _).bind _ = _
  rw [ret_ok pl, Res.bind_ok, fin_same pl]
end LK
set_option Elab.async false
set_option linter.all false
set_option maxRecDepth 100000
set_option maxHeartbeats 1000000
namespace LK
open PySem DL
abbrev eT (l : List Nat) : D := .tup (l.map nat)
theorem pds_nats : ∀ l : List Nat, D.pds (l.map nat) = (l.map fun n : Nat => (n : Int)).map PyData.int
  | [] => rfl
  | x :: r => by
    show PyData.int (x : Int) :: D.pds (r.map nat) = _
    rw [pds_nats r]
    rfl
theorem alike_key (l m : List Nat) : PySem.W.alike (keyLen (eT l)).pd (keyLen (eT m)).pd = true := by
  show (true && (PySem.W.alikeAll (D.pds (l.map nat)) (D.pds (m.map nat)) && true)) = true
  rw [pds_nats, pds_nats, PySem.W.alike_ints]
  rfl
theorem noLs_nats : ∀ l : List Nat, D.noLs (l.map nat) = true
  | [] => rfl
  | x :: r => by
    show (D.noL (nat x) && D.noLs (r.map nat)) = true
    rw [noLs_nats r]
    rfl
theorem noLs_lots : ∀ l : List (List Nat), D.noLs (l.map eT) = true
  | [] => rfl
  | x :: r => by
    show (D.noLs (x.map nat) && D.noLs (r.map eT)) = true
    rw [noLs_nats, noLs_lots r]
    rfl
theorem mapO_fits {s : S} {n : Nat} : ∀ {l : List D}, (∀ d ∈ l, fits n d = true) → mapO (rsv s n) l = some l
  | [], _ => rfl
  | x :: r, h => by
    unfold mapO
    rw [rsv_fits n (h x (List.mem_cons_self ..)), mapO_fits fun d hd => h d (List.mem_cons_of_mem _ hd)]
theorem fits_eT (n : Nat) (l : List Nat) : fits (n + 2) (eT l) = true := fits_natsT n l
theorem sortK (l : List (List Nat)) : ∃ l' : List (List Nat), l'.Perm l ∧ ∀ s, sortedKN (.lst (l.map eT)) s = .ok (l'.map eT) s := by
  refine ⟨l.mergeSort fun a b => (PySem.W.dataLe false fun d => (keyLen d).pd) (eT a) (eT b), List.mergeSort_perm _ _, fun s => ?_⟩
  unfold sortedKN
  rw [lstOf_lst]
  dsimp only
  rw [if_pos ?_, List.map_mergeSort (s := PySem.W.dataLe false fun d => (keyLen d).pd) fun a _ b _ => rfl]
  refine ⟨⟨?_, noLs_lots l⟩, ?_, ?_⟩
  · rw [List.all_map, List.all_eq_true]
    intro x _
    rfl
  · rw [mapO_fits fun d hd => by
      obtain ⟨x, _, rfl⟩ := List.mem_map.mp hd
      exact fits_eT 38 x]
    rfl
  · unfold alikeB
    rw [List.map_map, List.all_map, List.all_eq_true]
    intro x _
    show ((l.map (keyLen ∘ eT)).all fun b => PySem.W.alike (keyLen (eT x)).pd b.pd) = true
    rw [List.all_map, List.all_eq_true]
    intro y _
    exact alike_key x y
theorem law_lots_eq (l : List Nat) (hl : l.length ≤ 8) (s : S) : ∃ ls : List (List Nat), ls.Perm (lots l) ∧ ∀ s, F__law_lots [lns l] s = .ok (.lst (ls.map eT)) s := by
  obtain ⟨ls, pm, all⟩ := sortK (lots l)
  refine ⟨ls, pm, fun s => ?_⟩
  rw [f__law_lots]
  unfold S__law_lots
  have step : ∀ (j : Option D × Option D) (b : List (List Nat)) (p : List Nat) (x : Nat) (q : List Nat), l = p ++ x :: q → b = lots p → ∃ ρ j', toN 2 (nat x) [some (lns l), some (.lst (b.map eT)), j.1, j.2] = some ρ ∧ L__law_lots_0 ρ s = .ok (.nx [some (lns l), some (.lst ((b ++ b.map (· ++ [x])).map eT)), (j' : Option D × Option D).1, j'.2]) s := by
    intro j b p x q hq hb
    refine ⟨_, (some (nat x), j.2), rfl, ?_⟩
    have hbl : b.length ≤ 256 := by
      rw [hb, lots_len]
      have : p.length ≤ 8 := by rw [hq, List.length_append] at hl; omega
      exact Nat.pow_le_pow_right (n := 2) (by decide) this
    have cm := comp_map (s := s) (l := b) (step := T__law_lots_0 [some (lns l), some (.lst (b.map eT)), some (nat x), j.2]) (e := eT) (g := fun a => eT (a ++ [x])) (le_line (by omega)) fun a ha => by
      have al : a.length ≤ 8 := by
        rw [hb] at ha
        have := lots_le p ha
        rw [hq, List.length_append] at hl
        omega
      unfold T__law_lots_0
      simp only [toN_eq, wipeR_cons, wipeR_nil, List.set_cons_succ, List.set_cons_zero, stepR_some, yes_eq, Res.bind_ok, gv_0, gv_s, consA_ok, nilA_eq, tupR_ok, bin_ok, add_tups, List.length_map, List.length_cons, List.length_nil]
      rw [if_pos (le_line (by omega)), Res.bind_ok]
      rw [eT, List.map_append]
      rfl
    unfold L__law_lots_0
    simp only [List.set_cons_succ, List.set_cons_zero, gv_0, gv_s, seqI_lst, cm, asLst_ok, bin_ok, Res.bind_ok, add_lsts, List.length_map]
    rw [if_pos (le_line (by omega))]
    simp only [asg_ok, sq_nx, List.set_cons_succ, List.set_cons_zero, List.map_append, List.map_map]
    rfl
  obtain ⟨j, h⟩ := for_foldI (e := nat) (l := l) (s := s) (I := fun p b => b = lots p) (R := fun (j : Option D × Option D) (b : List (List Nat)) => [some (lns l), some (.lst (b.map eT)), j.1, j.2]) (f := fun b x => b ++ b.map (· ++ [x])) (to := fun d ρ => toN 2 d ρ) (B := L__law_lots_0) [[]] rfl (fun p x q b _ hb => by
      show b ++ b.map (· ++ [x]) = lots (p ++ [x])
      rw [lots_snoc, hb]) (fun j b p x q hq hb => step j b p x q hq hb) (none, none)
  dsimp only at h
  have e0 : D.lst ([[]].map eT) = .lst [.tup []] := rfl
  rw [e0] at h
  have e2 : (l.foldl (fun b x => b ++ b.map (· ++ [x])) [[]]) = lots l := rfl
  rw [e2] at h
  simp only [nilA_eq, consA_ok, tupR_ok, Res.bind_ok, asLst_ok, asg_ok, List.set_cons_succ, List.set_cons_zero, sq_nx, gv_0, gv_s, seqI_lst, h, keyR_ok, all]
  have pl : ∀ ls : List (List Nat), (D.lst (ls.map eT)).plain = true := fun ls => by
    rw [plain_lst]
    exact plains_map fun x _ => by rw [plain_tup]; exact plain_nats x
  rw [ret_ok (pl _), Res.bind_ok, fin_same (pl _)]
/-! ### the law's own deals -/
def lims (c : Call) : D := .lst (c.people.map fun p => .lst [nat p.1, nat p.2])
def mayD (c : Call) : D := .lst ((mays c).map lns)
theorem rngL_nat {n : Nat} (h : n ≤ line) (s : S) : rngL (.ok (0, (n : Nat)) s) = .ok ((List.range n).map nat) s := by
  rw [rngL_ok, if_pos ⟨(by decide : rngOk 0 = true), rngOk_nat h, by show ((n : Int) - 0).toNat ≤ line; rw [Int.sub_zero]; exact h⟩]
  rw [rangeI_nat]
theorem people_at {c : Call} {p : Nat} (h : p < c.people.length) : c.people[p]? = some (leastOf c p, loadOf c p) := by
  unfold leastOf loadOf
  rw [List.getElem?_eq_getElem h]
  rfl
theorem law_plain_eq (c : Call) (g : Good c) (s : S) : F__law_plain [enc c] s = .ok (.tup [lims c, lns (wantsOf c), mayD c]) s := by
  rw [f__law_plain]
  unfold S__law_plain
  have Lr : c.papers.length ≤ line := le_line (by have := g.r8; omega)
  have Lp : c.people.length ≤ line := le_line (by have := g.p8; omega)
  have cm0 := fun o1 o2 => comp_map (s := s) (l := List.range c.papers.length) (step := T__law_plain_0 [some (enc c), o1, o2]) (e := nat) (g := fun i => lns (whoOf c (auOf c i))) (by rw [List.length_range]; exact Lr) fun i hi => by
    unfold T__law_plain_0
    simp [law_who_eq c g i (List.mem_range.mp hi)]
  have cm1 := fun o1 o2 => comp_map (s := s) (l := c.papers) (step := T__law_plain_1 [some (enc c), o1, o2]) (e := eR) (g := fun r => nat r.1) Lr fun r _ => by
    unfold T__law_plain_1
    simp [get_r0]
  have cm2 := fun o1 o2 => comp_map (s := s) (l := c.people) (step := T__law_plain_2 [some (enc c), o1, o2]) (e := eP) (g := fun p => .lst [nat p.1, nat p.2]) Lp fun r _ => by
    unfold T__law_plain_2 eP
    simp [list_tup]
  simp only [gv_0, gv_s, ixR_ok, Res.bind_ok, get2, get1, consA_ok, nilA_eq, btR_ok, len_tup, List.length_map, rng1_ok, rng_nat Lr, cm0, asLst_ok, seqI_tup, cm1, cm2, tupR_ok, papers_wants]
  rw [show (List.range c.papers.length).map (fun i => lns (whoOf c (auOf c i))) = (mays c).map lns by unfold mays; rw [List.map_map]; rfl]
  have pl : (D.tup [lims c, lns (wantsOf c), mayD c]).plain = true := by
    rw [plain_tup, plains_cons, plains_cons, plains_cons, plain_lns]
    unfold lims mayD
    rw [plain_lst, plain_lst, plain_lnss, plains_map (fun p _ => rfl)]
    rfl
  show (sq (retR (.ok (.tup [lims c, lns (wantsOf c), mayD c]) s)) _).bind _ = _
  rw [ret_ok pl, Res.bind_ok, fin_same pl]
theorem len_wants (c : Call) : (wantsOf c).length = c.papers.length := by unfold wantsOf; rw [List.length_map, List.length_range]
theorem want_at {c : Call} {i : Nat} (h : i < c.papers.length) (s : S) : getD (lns (wantsOf c)) (nat i) s = .ok (nat (wantOf c i)) s := by
  refine get_mapL ?_ s
  unfold wantsOf
  rw [List.getElem?_map, List.getElem?_range h]
  rfl
theorem may_at {c : Call} {i : Nat} (h : i < c.papers.length) (s : S) : getD (mayD c) (nat i) s = .ok (lns (whoOf c (auOf c i))) s := by
  refine get_mapL (e := lns) (x := whoOf c (auOf c i)) ?_ s
  unfold mays
  rw [List.getElem?_map, List.getElem?_range h]
  rfl
theorem lim_at {c : Call} {p : Nat} (h : p < c.people.length) (s : S) : getD (lims c) (nat p) s = .ok (.lst [nat (leastOf c p), nat (loadOf c p)]) s := get_mapL (people_at h) s
theorem law_has_eq (c : Call) (g : Good c) (s : S) : F__law_has [lims c, lns (wantsOf c), mayD c] s = .ok (.bl (dealB c)) s := by
  rw [f__law_has]
  unfold S__law_has
  have r8 := g.r8
  have p8 := g.p8
  have Lr : c.papers.length ≤ line := le_line (by omega)
  have Lp : c.people.length ≤ line := le_line (by omega)
  obtain ⟨ls1, pm1, lo1⟩ := law_lots_eq (List.range c.papers.length) (by rw [List.length_range]; exact r8) s
  obtain ⟨ls2, pm2, lo2⟩ := law_lots_eq (posP c) (by unfold posP; refine Nat.le_trans (List.length_filter_le ..) ?_; rw [List.length_range]; exact p8) s
  have in1 : ∀ lot ∈ ls1, ∀ i ∈ lot, i < c.papers.length := fun lot hl i hi => List.mem_range.mp (lots_sub _ (pm1.mem_iff.mp hl) hi)
  have in2 : ∀ lot ∈ ls2, ∀ i ∈ lot, i < c.people.length := fun lot hl i hi => List.mem_range.mp (List.mem_filter.mp (lots_sub _ (pm2.mem_iff.mp hl) hi)).1
  have le1 : ∀ lot ∈ ls1, lot.length ≤ 8 := fun lot hl => by
    have := lots_le _ (pm1.mem_iff.mp hl)
    rw [List.length_range] at this
    omega
  have le2 : ∀ lot ∈ ls2, lot.length ≤ 8 := fun lot hl => by
    have := lots_le _ (pm2.mem_iff.mp hl)
    have q : (posP c).length ≤ c.people.length := by unfold posP; refine Nat.le_trans (List.length_filter_le ..) ?_; rw [List.length_range]; exact Nat.le_refl _
    omega
  have c0 := fun o3 o4 o5 o6 o7 o8 o9 o10 o11 o12 => comp_if (s := s) (l := c.people) (step := T__law_has_1 [some (lims c), some (lns (wantsOf c)), some (mayD c), o3, o4, o5, o6, o7, o8, o9, o10, o11, o12]) (e := fun p => .lst [nat p.1, nat p.2]) (g := fun _ => .int 1) (p := fun _ => false) Lp fun p hp => by
    have h1 : ¬ ((p.2 : Nat) : Int) < 0 := by omega
    have h2 : ¬ p.2 < p.1 := by have := g.pl p hp; omega
    unfold T__law_has_1
    simp only [bindTup_lst, setIs_cons, setIs_nil, wipeR_cons, wipeR_nil, List.set_cons_succ, List.set_cons_zero, stepR_some, Res.bind_ok, gv_0, gv_s, cmpA_ok, cmp_lt, h1, decide_false, toB_ok, orT_f, nat_gt, h2, andT_f]
    rfl
  have c1 := fun o3 o4 o5 o6 o7 o8 o9 o10 o11 o12 => comp_if (s := s) (l := wantsOf c) (step := T__law_has_0 [some (lims c), some (lns (wantsOf c)), some (mayD c), o3, o4, o5, o6, o7, o8, o9, o10, o11, o12]) (e := nat) (g := fun _ => .int 1) (p := fun _ => false) (by rw [len_wants]; exact Lr) fun p hp => by
    have h1 : ¬ (p : Int) < 0 := by omega
    unfold T__law_has_0
    simp only [toN_eq, wipeR_cons, wipeR_nil, List.set_cons_succ, List.set_cons_zero, stepR_some, Res.bind_ok, gv_0, gv_s, cmpA_ok, cmp_lt, h1, decide_false, toB_ok, andT_f]
    rfl
  have ne0 : ∀ {α : Type} (l : List α) (f : α → D), cmpop .NotEq (.lst ((l.filter fun _ => false).map f)) (.lst []) s = .ok (.bl false) s := by
    intro α l f
    rw [show l.filter (fun _ => false) = [] from List.filter_eq_nil_iff.mpr (fun _ _ => by decide)]
    rfl
  have sl : seqI (.ok (lims c) s) = .ok ⟨c.people.map fun p => .lst [nat p.1, nat p.2], []⟩ s := rfl
  have ll : callB .len [lims c] s = .ok (nat c.people.length) s := by
    unfold lims
    rw [len_lst, List.length_map]
  have f1 := for_all (s := s) (e := eT) (to := fun d ρ => toN 8 d ρ) (B := L__law_has_0) (R := fun (j : Option D × Option D) => [some (lims c), some (lns (wantsOf c)), some (mayD c), none, none, none, some (lns (List.range c.people.length)), some (lns (List.range c.papers.length)), j.1, j.2, none, none, none]) (p := Pd c) (v := .bl false) (l := ls1) (fun lot hlot j => by
    refine ⟨_, rfl, ?_⟩
    have L1 : lot.length ≤ line := le_line (by have := le1 lot hlot; omega)
    have i1 := in1 lot hlot
    have cmw := fun o9 => comp_map (s := s) (l := lot) (step := T__law_has_4 [some (lims c), some (lns (wantsOf c)), some (mayD c), none, none, none, some (lns (List.range c.people.length)), some (lns (List.range c.papers.length)), some (eT lot), o9, none, none, none]) (e := nat) (g := fun i => nat (wantOf c i)) L1 fun i hi => by
      unfold T__law_has_4
      simp only [toN_eq, wipeR_cons, wipeR_nil, List.set_cons_succ, List.set_cons_zero, stepR_some, yes_eq, Res.bind_ok, gv_0, gv_s, ixR_ok, want_at (i1 i hi)]
    have cms := fun o9 => comp_map (s := s) (l := List.range c.people.length) (step := T__law_has_3 [some (lims c), some (lns (wantsOf c)), some (mayD c), none, none, none, some (lns (List.range c.people.length)), some (lns (List.range c.papers.length)), some (eT lot), o9, none, none, none]) (e := nat) (g := fun p => nat (min (loadOf c p) (cntP c lot p))) (by rw [List.length_range]; exact Lp) fun p hp => by
      have hp := List.mem_range.mp hp
      unfold T__law_has_3
      have cm2 := comp_if (s := s) (l := lot) (step := T__law_has_2 [some (lims c), some (lns (wantsOf c)), some (mayD c), none, none, none, some (lns (List.range c.people.length)), some (lns (List.range c.papers.length)), some (eT lot), o9, none, some (nat p), none]) (e := nat) (g := nat) (p := fun i => mayOf c i p) L1 fun i hi => by
        unfold T__law_has_2
        simp only [toN_eq, wipeR_cons, wipeR_nil, List.set_cons_succ, List.set_cons_zero, stepR_some, Res.bind_ok, gv_0, gv_s, ixR_ok, may_at (i1 i hi), cmpA_ok, nat_in_lst, toB_ok]
        unfold mayOf
        cases decide (p ∈ whoOf c (auOf c i)) <;> simp
      simp only [toN_eq, wipeR_cons, wipeR_nil, List.set_cons_succ, List.set_cons_zero, stepR_some, yes_eq, Res.bind_ok, gv_0, gv_s, ixR_ok, lim_at hp, get_l1, consA_ok, nilA_eq, seqI_tup, cm2, asLst_ok, btR_ok, len_lst, List.length_map, min2]
      rfl
    have e : L__law_has_0 [some (lims c), some (lns (wantsOf c)), some (mayD c), none, none, none, some (lns (List.range c.people.length)), some (lns (List.range c.papers.length)), some (eT lot), j.2, none, none, none] s = if Pd c lot = true then .ok (.nx [some (lims c), some (lns (wantsOf c)), some (mayD c), none, none, none, some (lns (List.range c.people.length)), some (lns (List.range c.papers.length)), some (eT lot), some (nat ((List.range c.people.length).map fun p => min (loadOf c p) (cntP c lot p)).sum), none, none, none]) s else .ok (.rt (.bl false)) s := by
      unfold L__law_has_0
      have sn := sum_nats ((List.range c.people.length).map fun p => min (loadOf c p) (cntP c lot p)) s
      rw [List.map_map] at sn
      have sn : callB .sum [.lst ((List.range c.people.length).map fun p => nat (min (loadOf c p) (cntP c lot p)))] s = _ := sn
      have sm := sum_nats (lot.map (wantOf c)) s
      rw [List.map_map] at sm
      have sm : callB .sum [.lst (lot.map fun i => nat (wantOf c i))] s = _ := sm
      simp only [gv_0, gv_s, seqI_lst, seqI_tup, cms, asLst_ok, consA_ok, nilA_eq, Res.bind_ok, btR_ok, sn, asg_ok, List.set_cons_succ, List.set_cons_zero, sq_nx, cmw, sm, cmpA_ok, nat_gt, toB_ok]
      rw [not_gt]
      unfold Pd
      cases q : decide ((lot.map (wantOf c)).sum ≤ ((List.range c.people.length).map fun p => min (loadOf c p) (cntP c lot p)).sum) with
      | true => simp
      | false => simp [ret_ok]
    exact ⟨fun q => ⟨(some (eT lot), some (nat ((List.range c.people.length).map fun p => min (loadOf c p) (cntP c lot p)).sum)), by exact e.trans (by rw [if_pos q])⟩, fun q => by exact e.trans (by rw [if_neg (by rw [q]; decide)])⟩)
  have f2 := fun o9 => for_all (s := s) (e := eT) (to := fun d ρ => toN 8 d ρ) (B := L__law_has_1) (R := fun (j : Option D × Option D) => [some (lims c), some (lns (wantsOf c)), some (mayD c), none, none, none, some (lns (List.range c.people.length)), some (lns (List.range c.papers.length)), j.1, o9, none, none, j.2]) (p := Pl c) (v := .bl false) (l := ls2) (fun lot hlot j => by
    refine ⟨_, rfl, ?_⟩
    have L1 : lot.length ≤ line := le_line (by have := le2 lot hlot; omega)
    have i2 := in2 lot hlot
    have cmw := fun o12 => comp_map (s := s) (l := lot) (step := T__law_has_8 [some (lims c), some (lns (wantsOf c)), some (mayD c), none, none, none, some (lns (List.range c.people.length)), some (lns (List.range c.papers.length)), some (eT lot), o9, none, none, o12]) (e := nat) (g := fun i => nat (leastOf c i)) L1 fun i hi => by
      unfold T__law_has_8
      simp only [toN_eq, wipeR_cons, wipeR_nil, List.set_cons_succ, List.set_cons_zero, stepR_some, yes_eq, Res.bind_ok, gv_0, gv_s, ixR_ok, lim_at (i2 i hi), get_l0]
    have cms := fun o12 => comp_map (s := s) (l := List.range c.papers.length) (step := T__law_has_7 [some (lims c), some (lns (wantsOf c)), some (mayD c), none, none, none, some (lns (List.range c.people.length)), some (lns (List.range c.papers.length)), some (eT lot), o9, none, none, o12]) (e := nat) (g := fun i => nat (min (wantOf c i) (cntL c lot i))) (by rw [List.length_range]; exact Lr) fun i hi => by
      have hi := List.mem_range.mp hi
      unfold T__law_has_7
      have cm2 := comp_if (s := s) (l := lot) (step := T__law_has_6 [some (lims c), some (lns (wantsOf c)), some (mayD c), none, none, none, some (lns (List.range c.people.length)), some (lns (List.range c.papers.length)), some (eT lot), o9, some (nat i), none, o12]) (e := nat) (g := nat) (p := fun p => mayOf c i p) L1 fun p hp => by
        unfold T__law_has_6
        simp only [toN_eq, wipeR_cons, wipeR_nil, List.set_cons_succ, List.set_cons_zero, stepR_some, Res.bind_ok, gv_0, gv_s, ixR_ok, may_at hi, cmpA_ok, nat_in_lst, toB_ok]
        unfold mayOf
        cases decide (p ∈ whoOf c (auOf c i)) <;> simp
      simp only [toN_eq, wipeR_cons, wipeR_nil, List.set_cons_succ, List.set_cons_zero, stepR_some, yes_eq, Res.bind_ok, gv_0, gv_s, ixR_ok, want_at hi, consA_ok, nilA_eq, seqI_tup, cm2, asLst_ok, btR_ok, len_lst, List.length_map, min2]
      rfl
    have e : L__law_has_1 [some (lims c), some (lns (wantsOf c)), some (mayD c), none, none, none, some (lns (List.range c.people.length)), some (lns (List.range c.papers.length)), some (eT lot), o9, none, none, j.2] s = if Pl c lot = true then .ok (.nx [some (lims c), some (lns (wantsOf c)), some (mayD c), none, none, none, some (lns (List.range c.people.length)), some (lns (List.range c.papers.length)), some (eT lot), o9, none, none, some (nat ((List.range c.papers.length).map fun p => min (wantOf c p) (cntL c lot p)).sum)]) s else .ok (.rt (.bl false)) s := by
      unfold L__law_has_1
      have sn := sum_nats ((List.range c.papers.length).map fun p => min (wantOf c p) (cntL c lot p)) s
      rw [List.map_map] at sn
      have sn : callB .sum [.lst ((List.range c.papers.length).map fun p => nat (min (wantOf c p) (cntL c lot p)))] s = _ := sn
      have sm := sum_nats (lot.map (leastOf c)) s
      rw [List.map_map] at sm
      have sm : callB .sum [.lst (lot.map fun i => nat (leastOf c i))] s = _ := sm
      simp only [gv_0, gv_s, seqI_lst, seqI_tup, cms, asLst_ok, consA_ok, nilA_eq, Res.bind_ok, btR_ok, sn, asg_ok, List.set_cons_succ, List.set_cons_zero, sq_nx, cmw, sm, cmpA_ok, nat_gt, toB_ok]
      rw [not_gt]
      unfold Pl
      cases q : decide ((lot.map (leastOf c)).sum ≤ ((List.range c.papers.length).map fun p => min (wantOf c p) (cntL c lot p)).sum) with
      | true => simp
      | false => simp [ret_ok]
    exact ⟨fun q => ⟨(some (eT lot), some (nat ((List.range c.papers.length).map fun p => min (wantOf c p) (cntL c lot p)).sum)), by exact e.trans (by rw [if_pos q])⟩, fun q => by exact e.trans (by rw [if_neg (by rw [q]; decide)])⟩)
  have c5 := fun o8 o9 o12 => comp_if (s := s) (l := List.range c.people.length) (step := T__law_has_5 [some (lims c), some (lns (wantsOf c)), some (mayD c), none, none, none, some (lns (List.range c.people.length)), some (lns (List.range c.papers.length)), o8, o9, none, none, o12]) (e := nat) (g := nat) (p := fun p => decide (0 < leastOf c p)) (by rw [List.length_range]; exact Lp) fun p hp => by
    have hp := List.mem_range.mp hp
    unfold T__law_has_5
    have gz : cmpop .Gt (nat (leastOf c p)) (.int 0) s = .ok (.bl (decide (0 < leastOf c p))) s := nat_gt _ 0 s
    simp only [toN_eq, wipeR_cons, wipeR_nil, List.set_cons_succ, List.set_cons_zero, stepR_some, Res.bind_ok, gv_0, gv_s, ixR_ok, lim_at hp, get_l0, cmpA_ok, gz, toB_ok]
    cases decide (0 < leastOf c p) <;> simp
  simp only [gv_0, gv_s, sl, c0, asLst_ok, cmpA_ok, nilA_eq, Res.bind_ok, ne0, toB_ok, orT_f, seqI_lst, c1, iteR_f, sq_nx, consA_ok, btR_ok, ll, len_lst, List.length_map, len_wants, rng1_ok, rngL_nat Lp, rngL_nat Lr, par_ok, setIs_cons, setIs_nil, nxR_ok, List.set_cons_succ, List.set_cons_zero, callD_ok, List.length_cons, List.length_nil, if_pos, lo1]
  have al1 : ls1.all (Pd c) = (lots (List.range c.papers.length)).all (Pd c) := pm1.all_eq
  have al2 : ls2.all (Pl c) = (lots (List.range c.people.length)).all (Pl c) := by rw [← pl_pos]; exact pm2.all_eq
  have g1 := f1 (none, none)
  cases q1 : ls1.all (Pd c) with
  | false =>
    rw [g1.2 q1, sq_rt, Res.bind_ok, fin_same rfl]
    unfold dealB
    rw [← al1, q1]
    rfl
  | true =>
    obtain ⟨j', h1⟩ := g1.1 q1
    rw [h1]
    have hpos : (List.range c.people.length).filter (fun p => decide (0 < leastOf c p)) = posP c := rfl
    simp only [gv_0, gv_s, sq_nx, seqI_lst, c5, asLst_ok, consA_ok, nilA_eq, Res.bind_ok, callD_ok, List.length_cons, List.length_nil, if_pos, hpos, lo2]
    have g2 := f2 j'.2 (j'.1, none)
    cases q2 : ls2.all (Pl c) with
    | false =>
      rw [g2.2 q2, sq_rt, Res.bind_ok, fin_same rfl]
      unfold dealB
      rw [← al1, ← al2, q1, q2]
      rfl
    | true =>
      obtain ⟨j2, h2⟩ := g2.1 q2
      rw [h2, sq_nx, ret_ok rfl, Res.bind_ok, fin_same rfl]
      unfold dealB
      rw [← al1, ← al2, q1, q2]
      rfl
end LK
set_option Elab.async false
set_option linter.all false
set_option maxRecDepth 100000
set_option maxHeartbeats 1000000
namespace LK
open PySem DL
/-! ### sorting -/
section
variable {α : Type}
def sortBy (e : α → D) (l : List α) : List α := l.mergeSort fun a b => dle (e a) (e b)
theorem sortN_at {e : α → D} {l : List α} {d : D} {s : S} (hd : seqOf s d = some (l.map e)) (hp : ∀ x ∈ l, (e x).plain = true) (hf : ∀ x ∈ l, fits 39 (e x) = true) (ha : ∀ x ∈ l, ∀ y ∈ l, PySem.W.alike (e x).pd (e y).pd = true) (hs : sortableB (l.map e) = true) : sortedN [d] s = .ok ((sortBy e l).map e) s := by
  show (match seqOf s d with
    | some xs => if D.plains xs = true ∧ (mapO (rsv s deep) xs).isSome = true ∧ alikeB xs = true ∧ sortableB xs = true then .ok (xs.mergeSort dle) s else .stuck
    | none => .stuck : Res (List D)) = _
  rw [hd]
  dsimp only
  have hA : (mapO (rsv s deep) (l.map e)).isSome = true := by
    rw [mapO_fits fun d hd => by
      obtain ⟨x, hx, rfl⟩ := List.mem_map.mp hd
      exact fits_mono (by show 39 ≤ 40; omega) (hf x hx)]
    exact Eq.trans rfl rfl
  have hB : alikeB (l.map e) = true := by
    unfold alikeB
    rw [List.all_map, List.all_eq_true]
    intro x hx
    show ((l.map e).all fun b => PySem.W.alike (e x).pd b.pd) = true
    rw [List.all_map, List.all_eq_true]
    intro y hy
    exact ha x hx y hy
  rw [if_pos ⟨plains_map hp, hA, hB, hs⟩]
  unfold sortBy
  rw [List.map_mergeSort (s := dle) fun a _ b _ => rfl]
theorem sortBy_perm (e : α → D) (l : List α) : (sortBy e l).Perm l := List.mergeSort_perm _ _
end
theorem dle_pairs (a b : Nat × Nat) : dle (eP a) (eP b) = decide (a.1 < b.1 ∨ (a.1 = b.1 ∧ a.2 ≤ b.2)) := by
  show PySem.W.dataLe false (fun p : Nat × Nat => .tuple [.int ((fun q : Nat × Nat => (q.1 : Int)) p), .int ((fun q : Nat × Nat => (q.2 : Int)) p)]) a b = _
  rw [PySem.W.dataLe_ii, Bool.eq_iff_iff, decide_eq_true_eq, decide_eq_true_eq]
  omega
theorem dle_nats (a b : Nat) : dle (nat a) (nat b) = decide (a ≤ b) := by
  show PySem.W.dataLe false (fun p : Nat => .int ((fun q : Nat => (q : Int)) p)) a b = _
  rw [PySem.W.dataLe_int, Bool.eq_iff_iff, decide_eq_true_eq, decide_eq_true_eq]
  omega
theorem sort_pairs {l : List (Nat × Nat)} {d : D} {s : S} (hd : seqOf s d = some (l.map eP)) : sortedN [d] s = .ok ((sortBy eP l).map eP) s := by
  refine sortN_at hd (fun x _ => rfl) (fun x _ => rfl) (fun x _ y _ => rfl) ?_
  unfold sortableB
  rw [Bool.or_eq_true]
  refine .inl ?_
  rw [List.all_map, List.all_eq_true]
  intro x _
  rfl
theorem sort_nats {l : List Nat} {d : D} {s : S} (hd : seqOf s d = some (l.map nat)) : sortedN [d] s = .ok ((sortBy nat l).map nat) s := by
  refine sortN_at hd (fun x _ => rfl) (fun x _ => rfl) (fun x _ y _ => rfl) ?_
  unfold sortableB
  rw [Bool.or_eq_true]
  refine .inr ?_
  rw [List.all_map, List.all_eq_true]
  intro x _
  rfl
theorem sortP_lex {l : List (Nat × Nat)} (h : l.Nodup) : (sortBy eP l).Pairwise lexLt := by
  have h1 := List.pairwise_mergeSort (le := fun a b => dle (eP a) (eP b)) (fun a b c => by
    rw [dle_pairs, dle_pairs, dle_pairs, decide_eq_true_eq, decide_eq_true_eq, decide_eq_true_eq]
    omega) (fun a b => by
    rw [dle_pairs, dle_pairs, Bool.or_eq_true, decide_eq_true_eq, decide_eq_true_eq]
    omega) l
  have h2 : (sortBy eP l).Nodup := (sortBy_perm eP l).nodup_iff.mpr h
  have h1 : (sortBy eP l).Pairwise _ := h1
  refine (h1.and h2).imp fun {a b} hab => ?_
  obtain ⟨x, y⟩ := hab
  rw [dle_pairs, decide_eq_true_eq] at x
  unfold lexLt
  have : a.1 ≠ b.1 ∨ a.2 ≠ b.2 := by
    refine Decidable.byContradiction fun z => y ?_
    have e1 : a.1 = b.1 := by omega
    have e2 : a.2 = b.2 := by omega
    exact Prod.ext e1 e2
  omega
theorem sortP_id {l : List (Nat × Nat)} (h : l.Pairwise lexLt) : sortBy eP l = l := by
  unfold sortBy
  refine List.mergeSort_of_pairwise (h.imp fun {a b} x => ?_)
  rw [dle_pairs, decide_eq_true_eq]
  unfold lexLt at x
  omega
theorem sortN_asc {l : List Nat} (h : l.Nodup) : (sortBy nat l).Pairwise (· < ·) := by
  have h1 := List.pairwise_mergeSort (le := fun a b => dle (nat a) (nat b)) (fun a b c => by
    rw [dle_nats, dle_nats, dle_nats, decide_eq_true_eq, decide_eq_true_eq, decide_eq_true_eq]
    omega) (fun a b => by
    rw [dle_nats, dle_nats, Bool.or_eq_true, decide_eq_true_eq, decide_eq_true_eq]
    omega) l
  have h2 : (sortBy nat l).Nodup := (sortBy_perm nat l).nodup_iff.mpr h
  have h1 : (sortBy nat l).Pairwise _ := h1
  refine (h1.and h2).imp fun {a b} hab => ?_
  obtain ⟨x, y⟩ := hab
  rw [dle_nats, decide_eq_true_eq] at x
  have : a ≠ b := y
  omega
theorem lex_nodup {l : List (Nat × Nat)} (h : l.Pairwise lexLt) : l.Nodup := h.imp fun {a b} x e => by
  unfold lexLt at x
  rw [e] at x
  omega
theorem sorted_pairsT (l : List (Nat × Nat)) (s : S) : callB .sorted [.tup (l.map eP)] s = .ok (.lst ((sortBy eP l).map eP)) s := by
  show asLst (sortedN [.tup (l.map eP)] s) = _
  rw [sort_pairs rfl]
  rfl
theorem sorted_at {l : List (Nat × Nat)} {d : D} {s : S} (hd : seqOf s d = some (l.map eP)) : callB .sorted [d] s = .ok (.lst ((sortBy eP l).map eP)) s := by
  show asLst (sortedN [d] s) = _
  rw [sort_pairs hd]
  rfl
theorem sorted_natsL (l : List Nat) (s : S) : callB .sorted [.lst (l.map nat)] s = .ok (.lst ((sortBy nat l).map nat)) s := by
  show asLst (sortedN [.lst (l.map nat)] s) = _
  rw [sort_nats rfl]
  rfl
/-! ### with a tie more -/
def more (c : Call) (t : Nat × Nat) : Call := { c with ties := if t ∈ c.ties then c.ties else sortBy eP (c.ties ++ [t]) }
theorem more_mem (c : Call) (t u : Nat × Nat) : u ∈ (more c t).ties ↔ u ∈ c.ties ∨ u = t := by
  unfold more
  dsimp only
  by_cases h : t ∈ c.ties
  · rw [if_pos h]
    exact ⟨.inl, fun z => z.elim id fun z => z ▸ h⟩
  · rw [if_neg h, (sortBy_perm _ _).mem_iff, List.mem_append, List.mem_singleton]
theorem more_good {c : Call} (g : Good c) {t : Nat × Nat} (h : t.1 < t.2 ∧ t.2 < c.people.length) : Good (more c t) where
  p1 := g.p1
  p8 := g.p8
  pl := g.pl
  r1 := g.r1
  r8 := g.r8
  rw := g.rw
  ra := g.ra
  rb := g.rb
  tw := fun u hu => by
    rcases (more_mem c t u).mp hu with q | rfl
    · exact g.tw u q
    · exact h
  ts := by
    unfold more
    dsimp only
    by_cases q : t ∈ c.ties
    · rw [if_pos q]
      exact g.ts
    · rw [if_neg q]
      refine sortP_lex ?_
      rw [List.nodup_append]
      refine ⟨lex_nodup g.ts, by simp, ?_⟩
      intro a ha b hb e
      rw [List.mem_singleton] at hb
      rw [e, hb] at ha
      exact q ha
theorem pr_good {n a b : Nat} (ha : a < n) (hb : b < n) (ne : a ≠ b) : (pr a b).1 < (pr a b).2 ∧ (pr a b).2 < n := by
  unfold pr
  dsimp only
  omega
theorem with_tie_eq (c : Call) (g : Good c) (p o : Nat) (h : p < c.people.length) (h2 : o < c.people.length) (ne : o ≠ p) (s : S) : F_with_tie [enc c, nat p, nat o] s = .ok (enc (more c (pr p o))) s := by
  rw [f_with_tie]
  unfold S_with_tie
  have L : c.ties.length ≤ 64 := g.ties64
  simp only [gv_0, gv_s, consA_ok, nilA_eq, Res.bind_ok, callD_ok, List.length_cons, List.length_nil, if_pos, check_other_eq c g p o h h2 ne, doR_ok, sq_nx, tie_between_eq, asg_ok, List.set_cons_succ, List.set_cons_zero, nopt_eq, optR_ok, cutR_ok, take3, ixR_ok, get3, cmpA_ok, in_pairsT, toB_ok, bin_ok]
  cases q : decide (pr p o ∈ c.ties) with
  | true =>
    simp only [iteR_t, Res.bind_ok, consA_ok, nilA_eq, tupR_ok, add1]
    have e : more c (pr p o) = c := by
      unfold more
      rw [if_pos (decide_eq_true_eq.mp q)]
    rw [e, ret_ok (plain_enc _), Res.bind_ok, fin_same (plain_enc _)]
  | false =>
    have q := decide_eq_false_iff_not.mp q
    have e1 : c.ties.map eP ++ [eP (pr p o)] = (c.ties ++ [pr p o]).map eP := by rw [List.map_append]; rfl
    have l1 : (c.ties.map eP).length + [eP (pr p o)].length ≤ line := by
      rw [List.length_map]
      exact le_line (by simp; omega)
    simp only [iteR_f, bin_ok, Res.bind_ok, tupR_ok]
    rw [add_tups, if_pos l1, e1]
    simp only [Res.bind_ok, consA_ok, nilA_eq, btR_ok, sorted_pairsT, bt1_ok, tuple_lst, tupR_ok, add1]
    have e : ({ c with ties := sortBy eP (c.ties ++ [pr p o]) } : Call) = more c (pr p o) := by
      unfold more
      rw [if_neg q]
    rw [e, ret_ok (plain_enc _), Res.bind_ok, fin_same (plain_enc _)]
/-! ### draws -/
section
variable {s : S} {k : Nat} {a b : Int}
theorem pot0 (h : s.get k = some (.lst [.int a, .int b])) : getD (.mref k) (.int 0) s = .ok (.int a) s := by
  show (match seqOf s (.mref k) with
    | some xs => (match pick xs 0 with
      | some d => .ok d s
      | none => .stuck)
    | none => .stuck : Res D) = _
  rw [show seqOf s (.mref k) = some [.int a, .int b] by
    show (match s.get k with
      | some (.lst ds) => some ds
      | _ => none) = _
    rw [h]]
  rfl
theorem pot1 (h : s.get k = some (.lst [.int a, .int b])) : getD (.mref k) (.int 1) s = .ok (.int b) s := by
  show (match seqOf s (.mref k) with
    | some xs => (match pick xs 1 with
      | some d => .ok d s
      | none => .stuck)
    | none => .stuck : Res D) = _
  rw [show seqOf s (.mref k) = some [.int a, .int b] by
    show (match s.get k with
      | some (.lst ds) => some ds
      | _ => none) = _
    rw [h]]
  rfl
theorem pset0 (h : s.get k = some (.lst [.int a, .int b])) (q : Int) : setD (.mref k) (.int 0) (.int q) s = .ok () (s.put k (.lst [.int q, .int b])) := by
  unfold setD
  dsimp only
  rw [h]
  rfl
theorem pset1 (h : s.get k = some (.lst [.int a, .int b])) (q : Int) : setD (.mref k) (.int 1) (.int q) s = .ok () (s.put k (.lst [.int a, .int q])) := by
  unfold setD
  dsimp only
  rw [h]
  rfl
theorem put_pe (hk : k < s.size) (ha : 0 ≤ a) (hb : 0 ≤ b) (hc : b < 4294967296) : PE k s (s.put k (.lst [.int a, .int b])) := by
  refine ⟨S.size_put .., fun i ne => ?_, fun _ => ⟨a, b, ?_, ha, hb, hc⟩⟩
  · rw [S.get_put _ _ _ _ hk, if_neg ne]
  · rw [S.get_put _ _ _ _ hk, if_pos rfl]
end
theorem draw_eq (s : S) (k : Nat) (p : Pot s k) (n : Nat) (h1 : 1 ≤ n) (h2 : n < 1000000) : ∃ (d : Nat) (s' : S), F__law_draw [.mref k, nat n] s = .ok (nat d) s' ∧ PE k s s' ∧ d < n := by
  obtain ⟨a, b, hg, ha, hb, hc⟩ := p
  have p : Pot s k := ⟨a, b, hg, ha, hb, hc⟩
  have hk := p.lt
  rw [f__law_draw]
  unfold S__law_draw
  simp only [gv_0, gv_s, ixR_ok, Res.bind_ok, pot0 hg, cmpA_ok, cmp_gt, toB_ok]
  by_cases q : 0 < a
  · have dm : callB .divmod [.int a, nat n] s = .ok (.tup [.int (a / n), .int (a % n)]) s := by
      show (if 0 < (n : Int) ∧ (n : Int) < 1073741824 then .ok (.tup [.int (a / n), .int (a % n)]) s else .stuck : Res D) = _
      rw [if_pos (by omega)]
    have q1 : 0 ≤ a / (n : Int) := Int.ediv_nonneg ha (by omega)
    have q2 : 0 ≤ a % (n : Int) := Int.emod_nonneg _ (by omega)
    have q3 : a % (n : Int) < n := Int.emod_lt_of_pos _ (by omega)
    have e : D.int (a % n) = nat (a % n).toNat := by
      show D.int _ = D.int _
      rw [Int.toNat_of_nonneg q2]
    have hl : [D.int (a / n), D.int (a % n)].length = 2 := rfl
    simp only [q, decide_true, iteR_t, pot0 hg, ixR_ok, consA_ok, nilA_eq, Res.bind_ok, btR_ok, dm, asgU_ok, List.length_cons, List.length_nil, if_pos, asgFs_cons, asgFs_nil, tgS, gv_0, gv_s, pset0 hg, tgN_eq, List.set_cons_succ, List.set_cons_zero, nxR_ok, sq_nx]
    rw [ret_ok rfl, sq_rt, Res.bind_ok, e]
    obtain ⟨Y, h3, h4⟩ := (put_pe (s := s) (k := k) hk q1 hb hc).fin p (d := nat (a % n).toNat) rfl
    exact ⟨_, Y, h3, h4, by omega⟩
  · have m1 : binop .Mult (.int b) (.int 40692) s = .ok (.int (b * 40692)) s := by
      rw [mul_ints, if_pos]
      unfold mulOk
      rw [Bool.or_eq_true, Bool.or_eq_true]
      exact .inl (.inr (by decide))
    have m2 : ∀ x s, binop .Mod (.int x) (.int 2147483587) s = .ok (.int (x.fmod 2147483587)) s := fun x s => by
      rw [mod_ints, if_pos (by decide)]
    have r1 : 0 ≤ (b * 40692 + 8999).fmod 2147483587 := Int.fmod_nonneg (by omega) (by decide)
    have r2 : (b * 40692 + 8999).fmod 2147483587 < 4294967296 := by
      rw [Int.fmod_eq_emod_of_nonneg _ (by decide)]
      have := Int.emod_lt_of_pos (b * 40692 + 8999) (show (0 : Int) < 2147483587 by decide)
      omega
    simp only [q, decide_false, iteR_f, sq_nx, gv_0, gv_s, ixR_ok, Res.bind_ok, pot1 hg, bin_ok, m1, add_ints, consA_ok, nilA_eq, btR_ok, int_int, m2, asg1_ok, tgS, pset1 hg, nxR_ok]
    generalize hz : (b * 40692 + 8999).fmod 2147483587 = z at r1 r2 ⊢
    have hg2 : (s.put k (.lst [.int a, .int z])).get k = some (.lst [.int a, .int z]) := by rw [S.get_put _ _ _ _ hk, if_pos rfl]
    generalize hs : s.put k (.lst [.int a, .int z]) = s2 at hg2 ⊢
    have m3 : binop .Mult (.int z) (.int z) s2 = .ok (.int (z * z)) s2 := by
      rw [mul_ints, if_pos]
      unfold mulOk
      rw [Bool.or_eq_true, Bool.or_eq_true]
      refine .inl (.inl ?_)
      rw [Bool.and_eq_true, decide_eq_true_eq, decide_eq_true_eq]
      omega
    have m4 : binop .Mod (.int (z * z)) (.int 2147483549) s2 = .ok (.int ((z * z).fmod 2147483549)) s2 := by
      rw [mod_ints, if_pos (by decide)]
    have m5 : ∀ x, binop .FloorDiv (.int x) (.int 643) s2 = .ok (.int (x.fdiv 643)) s2 := fun x => by
      rw [fdiv_ints, if_pos (by decide)]
    have m6 : ∀ x, binop .Mod (.int x) (nat n) s2 = .ok (.int (x.fmod n)) s2 := fun x => by
      rw [mod_ints, if_pos (by omega)]
    simp only [ixR_ok, pot1 hg2, Res.bind_ok, bin_ok, m3, consA_ok, nilA_eq, btR_ok, int_int, m4, m5, m6]
    rw [ret_ok rfl, Res.bind_ok]
    have w1 : 0 ≤ (((z * z).fmod 2147483549).fdiv 643).fmod (n : Int) := Int.fmod_nonneg (Int.fdiv_nonneg (Int.fmod_nonneg (Int.mul_nonneg r1 r1) (by decide)) (by decide)) (by omega)
    have w2 : (((z * z).fmod 2147483549).fdiv 643).fmod (n : Int) < n := by
      rw [Int.fmod_eq_emod_of_nonneg _ (by omega)]
      exact Int.emod_lt_of_pos _ (by omega)
    have pe : PE k s s2 := by rw [← hs]; exact put_pe hk ha r1 r2
    have e : D.int ((((z * z).fmod 2147483549).fdiv 643).fmod (n : Int)) = nat ((((z * z).fmod 2147483549).fdiv 643).fmod (n : Int)).toNat := by
      show D.int _ = D.int _
      rw [Int.toNat_of_nonneg w1]
    rw [e]
    obtain ⟨Y, h3, h4⟩ := pe.fin p (d := nat ((((z * z).fmod 2147483549).fdiv 643).fmod (n : Int)).toNat) rfl
    exact ⟨_, Y, h3, h4, by omega⟩
theorem pick_eq (s : S) (k : Nat) (p : Pot s k) (l : List Nat) (h1 : 1 ≤ l.length) (h2 : l.length < 1000) : ∃ (x : Nat) (s' : S), F__law_pick [.mref k, lns l] s = .ok (nat x) s' ∧ PE k s s' ∧ x ∈ l := by
  obtain ⟨d, s1, e1, pe, lt⟩ := draw_eq s k p l.length h1 (by omega)
  rw [f__law_pick]
  unfold S__law_pick
  simp only [gv_0, gv_s, ixR_ok, consA_ok, nilA_eq, Res.bind_ok, btR_ok, len_lst, List.length_map, callD_ok, List.length_cons, List.length_nil, if_pos, e1]
  rw [get_mapL (List.getElem?_eq_getElem lt), ret_ok rfl, Res.bind_ok]
  obtain ⟨Y, h3, h4⟩ := pe.fin p (d := nat l[d]) rfl
  exact ⟨l[d], Y, h3, h4, List.getElem_mem lt⟩
end LK
set_option Elab.async false
set_option linter.all false
set_option maxRecDepth 100000
set_option maxHeartbeats 1000000
namespace LK
open PySem DL
theorem add_one (a : Nat) (s : S) : binop .Add (nat a) (.int 1) s = .ok (nat (a + 1)) s := rfl
theorem one_add (a : Nat) (s : S) : binop .Add (.int 1) (nat a) s = .ok (nat (1 + a)) s := by
  rw [add_ints]
  show Res.ok (D.int _) s = Res.ok (D.int _) s
  congr 2
theorem sub_one (a : Nat) (h : 1 ≤ a) (s : S) : binop .Sub (nat a) (.int 1) s = .ok (nat (a - 1)) s := by
  rw [sub_ints]
  show Res.ok (D.int _) s = Res.ok (D.int _) s
  congr 2
  omega
theorem set_one {l : List D} {x : List D} : [x].set 0 l = [l] := rfl
/-- one person's limits -/
theorem lim_step (s : S) (k : Nat) (people papers most : Nat) (hm : most ≤ 9) (X : S) (ls : List (List D)) (rows : List (Nat × Nat)) (h0 : ls[0]? = some (rows.map eP)) (hr : rows.length ≤ 64) (fr : Fr k s X ls) (o5 : D) (o6 : Option D) :
    ∃ (r : Nat × Nat) (Y : S), L__law_call_of_0 [some (.mref k), some (nat people), some (nat papers), some (nat most), some (.mref s.size), some o5, o6, none, none, none, none, none, none, none] X = .ok (.nx [some (.mref k), some (nat people), some (nat papers), some (nat most), some (.mref s.size), some o5, some (nat r.2), none, none, none, none, none, none, none]) Y ∧ Fr k s Y (ls.set 0 ((rows ++ [r]).map eP)) ∧ r.1 ≤ r.2 ∧ r.2 ≤ 9 := by
  obtain ⟨load, X1, e1, p1, l1⟩ := draw_eq X k fr.pot (most + 1) (by omega) (by omega)
  have fr1 := fr.pe p1
  obtain ⟨x, X2, e2, p2, _⟩ := pick_eq X1 k fr1.pot [0, 0, 0, 1, 2] (by decide) (by decide)
  have fr2 := fr1.pe p2
  have e2 : F__law_pick [.mref k, .lst [.int 0, .int 0, .int 0, .int 1, .int 2]] X1 = .ok (nat x) X2 := e2
  have lo : lstOf X1 (.mref s.size) = some (rows.map eP) := fr1.lstOf h0
  obtain ⟨Y, a1, fr3⟩ := fr2.append h0 (eP (min load x, load)) (lt_line (by rw [List.length_map]; omega))
  have a1 : appendD (.mref s.size) (.tup [nat (min load x), nat load]) X2 = .ok () Y := a1
  refine ⟨(min load x, load), Y, ?_, ?_, by dsimp only; omega, by dsimp only; omega⟩
  · unfold L__law_call_of_0
    simp only [gv_0, gv_s, consA_ok, nilA_eq, bin_ok, Res.bind_ok, add_one, callD_ok, List.length_cons, List.length_nil, if_pos, e1, asg_ok, List.set_cons_succ, List.set_cons_zero, sq_nx, recvR_at lo, asLst_ok, e2, btR_ok, min2, tupR_ok, a1]
  · rw [List.map_append]
    exact fr3
/-- one paper's row -/
theorem row_step (s : S) (k : Nat) (people papers most : Nat) (hp : people ≤ 8) (X : S) (ls : List (List D)) (rows : List (Nat × List Nat)) (h0 : ls[1]? = some (rows.map eR)) (hr : rows.length ≤ 64) (fr : Fr k s X ls) (o5 o6 : Option D) (o8 : D) (o9 : Option D) :
    ∃ (r : Nat × List Nat) (Y : S), L__law_call_of_1 [some (.mref k), some (nat people), some (nat papers), some (nat most), some (.mref s.size), o5, o6, some (.mref (s.size + 1)), some o8, o9, none, none, none, none] X = .ok (.nx [some (.mref k), some (nat people), some (nat papers), some (nat most), some (.mref s.size), o5, o6, some (.mref (s.size + 1)), some o8, some (lns r.2), none, none, none, none]) Y ∧ Fr k s Y (ls.set 1 ((rows ++ [r]).map eR)) ∧ (1 ≤ r.1 ∧ r.1 ≤ 4) ∧ r.2.Sublist (List.range people) := by
  have P := fr.pot
  obtain ⟨au, X1, c1, p1, sb⟩ := comp_sub (β := Unit) (e := nat) (g := nat) (T := PE k) (step := T__law_call_of_0 [some (.mref k), some (nat people), some (nat papers), some (nat most), some (.mref s.size), o5, o6, some (.mref (s.size + 1)), some o8, o9, none, none, none, none]) (fun s => PE.refl k s) (fun a b c => PE.trans) X (l := List.range people) (PE.refl k X) fun x _ Z z => by
    obtain ⟨d, Z1, e1, q1, _⟩ := draw_eq Z k (z.pot P) 5 (by decide) (by decide)
    have e1 : F__law_draw [.mref k, .int 5] Z = .ok (nat d) Z1 := e1
    refine ⟨decide (d = 0), Z1, ?_, q1⟩
    unfold T__law_call_of_0
    have eq0 : cmpop .Eq (nat d) (.int 0) Z1 = .ok (.bl (decide (d = 0))) Z1 := nat_eq d 0 Z1
    simp only [toN_eq, wipeR_cons, wipeR_nil, List.set_cons_succ, List.set_cons_zero, stepR_some, gv_0, gv_s, consA_ok, nilA_eq, Res.bind_ok, callD_ok, List.length_cons, List.length_nil, if_pos, e1, cmpA_ok, eq0, toB_ok]
    cases decide (d = 0) <;> simp
  have c1 := compR_of (e := nat) (by rw [List.length_range]; exact le_line (by omega)) c1
  have fr1 := fr.pe p1
  obtain ⟨x, X2, e2, p2, hx⟩ := pick_eq X1 k fr1.pot [1, 2, 2, 3, 4] (by decide) (by decide)
  have e2 : F__law_pick [.mref k, .lst [.int 1, .int 2, .int 2, .int 3, .int 4]] X1 = .ok (nat x) X2 := e2
  have fr2 := fr1.pe p2
  have x4 : 1 ≤ x ∧ x ≤ 4 := by
    simp only [List.mem_cons, List.not_mem_nil, or_false] at hx
    omega
  obtain ⟨d, X3, e3, p3, hd⟩ := draw_eq X2 k fr2.pot x x4.1 (by omega)
  have fr3 := fr2.pe p3
  have lo : lstOf X1 (.mref (s.size + 1)) = some (rows.map eR) := fr1.lstOf h0
  obtain ⟨Y, a1, fr4⟩ := fr3.append h0 (eR (1 + d, au)) (lt_line (by rw [List.length_map]; omega))
  have a1 : appendD (.mref (s.size + 1)) (.tup [nat (1 + d), .tup (au.map nat)]) X3 = .ok () Y := a1
  refine ⟨(1 + d, au), Y, ?_, ?_, by dsimp only; omega, sb⟩
  · unfold L__law_call_of_1
    simp only [gv_0, gv_s, rng1_ok, rng_nat (le_line (show people ≤ 16000000 by omega)), c1, asLst_ok, asg_ok, List.set_cons_succ, List.set_cons_zero, sq_nx, recvR_at lo, consA_ok, nilA_eq, bin_ok, Res.bind_ok, callD_ok, List.length_cons, List.length_nil, if_pos, e2, e3, one_add, bt1_ok, tuple_lst, tupR_ok, a1]
  · rw [List.map_append]
    exact fr4
end LK
set_option Elab.async false
set_option linter.all false
set_option maxRecDepth 100000
set_option maxHeartbeats 1000000
namespace LK
open PySem DL
theorem rangeI_from (a n : Nat) : rangeI (a : Nat) (n : Nat) = (List.range (n - a)).map fun i => nat (a + i) := by
  unfold rangeI
  rw [show ((n : Int) - (a : Int)).toNat = n - a by omega]
  refine List.map_congr_left fun i _ => ?_
  show D.int _ = D.int _
  congr 1
theorem rng2_nat (a n : Nat) (ha : a ≤ line) (hn : n ≤ line) (s : S) : rngI (rng2 (.ok (nat a) s) fun s => .ok (nat n) s) = .ok ⟨(List.range (n - a)).map fun i => nat (a + i), []⟩ s := by
  rw [rng2_ok, Res.bind_ok, rngI_ok, if_pos ⟨rngOk_nat ha, rngOk_nat hn⟩, rangeI_from]
theorem draws_sub {step : D → S → Res (Option D)} {k : Nat} {X : S} {n a : Nat} {g : Nat → D} (P : Pot X k) (hn : n ≤ 64) (h : ∀ i s, Pot s k → ∃ (b : Bool) (s' : S), step (nat (a + i)) s = .ok (if b = true then some (g i) else none) s' ∧ PE k s s') :
    ∃ (l : List Nat) (Y : S), compR (.ok ⟨(List.range n).map fun i => nat (a + i), []⟩ X) step = .ok (l.map g) Y ∧ PE k X Y ∧ l.Sublist (List.range n) := by
  obtain ⟨l, Y, c1, p1, sb⟩ := comp_sub (β := Unit) (e := fun i => nat (a + i)) (g := g) (T := PE k) (step := step) (fun s => PE.refl k s) (fun a b c => PE.trans) X (l := List.range n) (PE.refl k X) fun x _ Z z => h x Z (z.pot P)
  exact ⟨l, Y, compR_of (e := fun i => nat (a + i)) (by rw [List.length_range]; exact le_line (by omega)) c1, p1, sb⟩
theorem tie_step (s : S) (k : Nat) (people : Nat) (hp : people ≤ 8) (one : Nat) (X : S) (ls : List (List D)) (ts : List (Nat × Nat)) (h0 : ls[2]? = some (ts.map eP)) (hr : ts.length ≤ 64) (ho : one < people) (fr : Fr k s X ls) (a2 a3 a4 a5 a6 a7 a8 a9 a13 : Option D) (odds : Nat) (od : 1 ≤ odds ∧ odds < 100) :
    ∃ (l : List Nat) (Y : S), L__law_call_of_2 [some (.mref k), some (nat people), a2, a3, a4, a5, a6, a7, a8, a9, some (.mref (s.size + 2)), some (nat odds), some (nat one), a13] X = .ok (.nx [some (.mref k), some (nat people), a2, a3, a4, a5, a6, a7, a8, a9, some (.mref (s.size + 2)), some (nat odds), some (nat one), a13]) Y ∧ Fr k s Y (ls.set 2 ((ts ++ l.map fun i => (one, one + 1 + i)).map eP)) ∧ l.Sublist (List.range (people - (one + 1))) := by
  obtain ⟨l, X1, c1, p1, sb⟩ := draws_sub (X := X) (k := k) (n := people - (one + 1)) (a := one + 1) (g := fun i => eP (one, one + 1 + i)) (step := T__law_call_of_1 [some (.mref k), some (nat people), a2, a3, a4, a5, a6, a7, a8, a9, some (.mref (s.size + 2)), some (nat odds), some (nat one), a13]) fr.pot (by omega) fun i Z z => by
    obtain ⟨d, Z1, e1, q1, _⟩ := draw_eq Z k z odds od.1 (by omega)
    refine ⟨decide (d = 0), Z1, ?_, q1⟩
    unfold T__law_call_of_1
    have eq0 : cmpop .Eq (nat d) (.int 0) Z1 = .ok (.bl (decide (d = 0))) Z1 := nat_eq d 0 Z1
    simp only [toN_eq, wipeR_cons, wipeR_nil, List.set_cons_succ, List.set_cons_zero, stepR_some, gv_0, gv_s, consA_ok, nilA_eq, Res.bind_ok, callD_ok, List.length_cons, List.length_nil, if_pos, e1, cmpA_ok, eq0, toB_ok]
    cases decide (d = 0) with
    | true =>
      simp only [andT_t, Res.bind_ok, gv_0, gv_s, consA_ok, nilA_eq, tupR_ok, if_pos]
      rfl
    | false => simp
  have fr1 := fr.pe p1
  have ll : l.length ≤ 8 := by
    have := sb.length_le
    rw [List.length_range] at this
    omega
  obtain ⟨Y, a1, fr2⟩ := fr1.extend h0 (l.map fun i => eP (one, one + 1 + i)) (le_line (by rw [List.length_map, List.length_map]; omega))
  have lo : lstOf X (.mref (s.size + 2)) = some (ts.map eP) := fr.lstOf h0
  refine ⟨l, Y, ?_, ?_, sb⟩
  · unfold L__law_call_of_2
    simp only [gv_0, gv_s, bin_ok, Res.bind_ok, add_one, rng2_nat _ _ (le_line (show one + 1 ≤ 16000000 by omega)) (le_line (show people ≤ 16000000 by omega)), c1, asLst_ok, recvR_at lo, a1, sq_nx]
  · rw [List.map_append, List.map_map]
    exact fr2
structure Draft (people papers : Nat) (c : Call) : Prop where
  pn : c.people.length = people
  pl : ∀ p ∈ c.people, p.1 ≤ p.2 ∧ p.2 ≤ 9
  rn : c.papers.length = papers
  rw : ∀ r ∈ c.papers, (1 ≤ r.1 ∧ r.1 ≤ 4) ∧ r.2.Sublist (List.range people)
theorem call_of_eq (s : S) (k : Nat) (P : Pot s k) (people papers : Nat) (hp : people ≤ 8) (hr : papers ≤ 8) : ∃ (c : Call) (Y : S), F__law_call_of [.mref k, nat people, nat papers] s = .ok (enc c) Y ∧ PE k s Y ∧ Draft people papers c := by
  rw [f__law_call_of]
  unfold S__law_call_of
  obtain ⟨most, s1, e1, p1, hm⟩ := pick_eq s k P [1, 2, 3, 9] (by decide) (by decide)
  have e1 : F__law_pick [.mref k, .lst [.int 1, .int 2, .int 3, .int 9]] s = .ok (nat most) s1 := e1
  have hm : most ≤ 9 := by
    simp only [List.mem_cons, List.not_mem_nil, or_false] at hm
    omega
  have fr0 := (Fr.start P).pe p1
  have fr1 : Fr k s (s1.push (.lst [])) [[]] := fr0.push []
  have Lp := rng_nat (s := s1.push (.lst [])) (le_line (show people ≤ 16000000 by omega))
  -- the people
  obtain ⟨ρ1, X1, f1, o5, o6, rows, rfl, fr2, rl, rg⟩ := for_st (e := nat) (l := List.range people) (to := fun d ρ => toN 5 d ρ) (B := L__law_call_of_0) (J := fun p ρ X => ∃ (o5 o6 : Option D) (rows : List (Nat × Nat)), ρ = [some (.mref k), some (nat people), some (nat papers), some (nat most), some (.mref s.size), o5, o6, none, none, none, none, none, none, none] ∧ Fr k s X [rows.map eP] ∧ rows.length = p.length ∧ ∀ r ∈ rows, r.1 ≤ r.2 ∧ r.2 ≤ 9) (fun p x q hq ρ X j => by
    obtain ⟨o5, o6, rows, rfl, fr, rl, rg⟩ := j
    have pl : p.length ≤ 8 := by
      have := congrArg List.length hq
      rw [List.length_range, List.length_append, List.length_cons] at this
      omega
    obtain ⟨r, Y, h1, h2, h3⟩ := lim_step s k people papers most hm X [rows.map eP] rows rfl (by omega) fr (nat x) o6
    refine ⟨_, rfl, _, Y, h1, some (nat x), some (nat r.2), rows ++ [r], rfl, h2, by rw [List.length_append, List.length_append, rl]; rfl, fun u hu => ?_⟩
    rcases List.mem_append.mp hu with q | q
    · exact rg u q
    · rw [List.mem_singleton.mp q]
      exact h3) (ρ := [some (.mref k), some (nat people), some (nat papers), some (nat most), some (.mref s.size), none, none, none, none, none, none, none, none, none]) (s := s1.push (.lst [])) ⟨none, none, [], rfl, fr1, rfl, fun _ h => by cases h⟩
  rw [List.length_range] at rl
  have z1 : s1.size = s.size := p1.sz
  -- the rows
  have fr3 : Fr k s (X1.push (.lst [])) [rows.map eP, []] := fr2.push []
  have z2 : X1.size = s.size + 1 := fr2.sz
  have Lr := rng_nat (s := X1.push (.lst [])) (le_line (show papers ≤ 16000000 by omega))
  obtain ⟨ρ2, X2, f2, o8, o9, rws, rfl, fr4, rl2, rg2⟩ := for_st (e := nat) (l := List.range papers) (to := fun d ρ => toN 8 d ρ) (B := L__law_call_of_1) (J := fun p ρ X => ∃ (o8 o9 : Option D) (rws : List (Nat × List Nat)), ρ = [some (.mref k), some (nat people), some (nat papers), some (nat most), some (.mref s.size), o5, o6, some (.mref (s.size + 1)), o8, o9, none, none, none, none] ∧ Fr k s X [rows.map eP, rws.map eR] ∧ rws.length = p.length ∧ ∀ r ∈ rws, (1 ≤ r.1 ∧ r.1 ≤ 4) ∧ r.2.Sublist (List.range people)) (fun p x q hq ρ X j => by
    obtain ⟨o8, o9, rws, rfl, fr, rl, rg⟩ := j
    have pl : p.length ≤ 8 := by
      have := congrArg List.length hq
      rw [List.length_range, List.length_append, List.length_cons] at this
      omega
    obtain ⟨r, Y, h1, h2, h3⟩ := row_step s k people papers most hp X [rows.map eP, rws.map eR] rws rfl (by omega) fr o5 o6 (nat x) o9
    refine ⟨_, rfl, _, Y, h1, some (nat x), some (lns r.2), rws ++ [r], rfl, h2, by rw [List.length_append, List.length_append, rl]; rfl, fun u hu => ?_⟩
    rcases List.mem_append.mp hu with q | q
    · exact rg u q
    · rw [List.mem_singleton.mp q]
      exact h3) (ρ := [some (.mref k), some (nat people), some (nat papers), some (nat most), some (.mref s.size), o5, o6, some (.mref (s.size + 1)), none, none, none, none, none, none]) (s := X1.push (.lst [])) ⟨none, none, [], rfl, fr3, rfl, fun _ h => by cases h⟩
  rw [List.length_range] at rl2
  -- the ties
  have z3 : X2.size = s.size + 2 := fr4.sz
  have fr5 : Fr k s (X2.push (.lst [])) [rows.map eP, rws.map eR, []] := fr4.push []
  obtain ⟨odds, X3, e3, p3, ho⟩ := pick_eq (X2.push (.lst [])) k fr5.pot [3, 6, 20] (by decide) (by decide)
  have e3 : F__law_pick [.mref k, .lst [.int 3, .int 6, .int 20]] (X2.push (.lst [])) = .ok (nat odds) X3 := e3
  have ho : 1 ≤ odds ∧ odds < 100 := by
    simp only [List.mem_cons, List.not_mem_nil, or_false] at ho
    omega
  have fr6 := fr5.pe p3
  have Lp3 := rng_nat (s := X3) (le_line (show people ≤ 16000000 by omega))
  obtain ⟨ρ3, X4, f3, o12, ts, rfl, fr7, _⟩ := for_st (e := nat) (l := List.range people) (to := fun d ρ => toN 12 d ρ) (B := L__law_call_of_2) (J := fun p ρ X => ∃ (o12 : Option D) (ts : List (Nat × Nat)), ρ = [some (.mref k), some (nat people), some (nat papers), some (nat most), some (.mref s.size), o5, o6, some (.mref (s.size + 1)), o8, o9, some (.mref (s.size + 2)), some (nat odds), o12, none] ∧ Fr k s X [rows.map eP, rws.map eR, ts.map eP] ∧ ts.length ≤ 8 * p.length) (fun p x q hq ρ X j => by
    obtain ⟨o12, ts, rfl, fr, tl⟩ := j
    have pl : p.length < people := by
      have := congrArg List.length hq
      rw [List.length_range, List.length_append, List.length_cons] at this
      omega
    have hx : x < people := (range_at hq).2
    obtain ⟨l, Y, h1, h2, h3⟩ := tie_step s k people hp x X [rows.map eP, rws.map eR, ts.map eP] ts rfl (by omega) hx fr (some (nat papers)) (some (nat most)) (some (.mref s.size)) o5 o6 (some (.mref (s.size + 1))) o8 o9 none odds ho
    refine ⟨_, rfl, _, Y, h1, some (nat x), ts ++ l.map fun i => (x, x + 1 + i), rfl, h2, ?_⟩
    have := h3.length_le
    rw [List.length_range] at this
    rw [List.length_append, List.length_map, List.length_append, List.length_cons, List.length_nil]
    omega) (ρ := [some (.mref k), some (nat people), some (nat papers), some (nat most), some (.mref s.size), o5, o6, some (.mref (s.size + 1)), o8, o9, some (.mref (s.size + 2)), some (nat odds), none, none]) (s := X3) ⟨none, [], rfl, fr6, Nat.le_refl _⟩
  have t4 : callB .tuple [.mref s.size] X4 = .ok (.tup (rows.map eP)) X4 := tuple_at (fr7.seqOf (j := 0) rfl)
  have t5 : callB .tuple [.mref (s.size + 1)] X4 = .ok (.tup (rws.map eR)) X4 := tuple_at (fr7.seqOf (j := 1) rfl)
  have t6 : callB .tuple [.mref (s.size + 2)] X4 = .ok (.tup (ts.map eP)) X4 := tuple_at (fr7.seqOf (j := 2) rfl)
  obtain ⟨Y, h1, h2⟩ := fr7.fin (d := enc ⟨rows, rws, ts⟩) (plain_enc _)
  refine ⟨⟨rows, rws, ts⟩, Y, ?_, h2, ⟨rl, rg, rl2, rg2⟩⟩
  simp only [gv_0, gv_s, consA_ok, nilA_eq, Res.bind_ok, asLst_ok, callD_ok, List.length_cons, List.length_nil, if_pos, e1, thawR_ok, z1, par_ok, setIs_cons, setIs_nil, nxR_ok, List.set_cons_succ, List.set_cons_zero, sq_nx, rng1_ok, Lp, f1, asg_ok, z2, Lr, f2, z3, e3, Lp3, f3, bt1_ok, t4, t5, t6, tupR_ok]
  rw [show (D.tup [.str "call", .tup (rows.map eP), .tup (rws.map eR), .tup (ts.map eP)]) = enc ⟨rows, rws, ts⟩ from rfl, ret_ok (plain_enc _), Res.bind_ok]
  exact h1
end LK
set_option Elab.async false
set_option linter.all false
set_option maxRecDepth 100000
set_option maxHeartbeats 1000000
namespace LK
open PySem DL
/-- ties drawn -/
structure TiesOk (n : Nat) (l : List (Nat × Nat)) : Prop where
  nd : l.Nodup
  w : ∀ t ∈ l, t.1 < t.2 ∧ t.2 < n
  len : l.length ≤ 64
theorem nodup_map {α β : Type} {f : α → β} (inj : ∀ x y, f x = f y → x = y) {l : List α} (h : l.Nodup) : (l.map f).Nodup := by
  rw [List.nodup_iff_pairwise_ne] at *
  rw [List.pairwise_map]
  exact h.imp fun {a b} ne e => ne (inj a b e)
theorem chain_ok (n : Nat) (hn : n ≤ 8) : TiesOk n ((List.range (n - 1)).map fun i => (i, i + 1)) where
  nd := nodup_map (fun x y e => by injection e) List.nodup_range
  w := fun t ht => by
    obtain ⟨i, hi, rfl⟩ := List.mem_map.mp ht
    have := List.mem_range.mp hi
    dsimp only
    omega
  len := by rw [List.length_map, List.length_range]; omega
theorem perm_ok {n : Nat} {l m : List (Nat × Nat)} (h : TiesOk n l) (p : m.Perm l) : TiesOk n m := ⟨p.nodup_iff.mpr h.nd, fun t ht => h.w t (p.mem_iff.mp ht), by rw [p.length_eq]; exact h.len⟩
theorem ring_ok (n : Nat) (hn : n ≤ 8) (h3 : 2 < n) : TiesOk n (((List.range (n - 1)).map fun i => (i, i + 1)) ++ [(0, n - 1)]) where
  nd := by
    rw [List.nodup_append]
    refine ⟨(chain_ok n hn).nd, by simp, ?_⟩
    intro a ha b hb e
    rw [List.mem_singleton] at hb
    obtain ⟨i, hi, rfl⟩ := List.mem_map.mp ha
    rw [hb] at e
    injection e with e1 e2
    omega
  w := fun t ht => by
    rcases List.mem_append.mp ht with q | q
    · exact (chain_ok n hn).w t q
    · rw [List.mem_singleton.mp q]
      dsimp only
      omega
  len := by
    rw [List.length_append, List.length_map, List.length_range, List.length_cons, List.length_nil]
    omega
/-- the third kind of ties: all of one, then of the next -/
theorem grow_ok {n one : Nat} (hn : n ≤ 8) {ts : List (Nat × Nat)} (h : ts.Nodup) (hw : ∀ t ∈ ts, t.1 < one ∧ t.1 < t.2 ∧ t.2 < n) {l : List Nat} (sb : l.Sublist (List.range (n - (one + 1)))) : (ts ++ l.map fun i => (one, one + 1 + i)).Nodup ∧ ∀ t ∈ ts ++ l.map fun i => (one, one + 1 + i), t.1 < one + 1 ∧ t.1 < t.2 ∧ t.2 < n := by
  constructor
  · rw [List.nodup_append]
    refine ⟨h, nodup_map (fun x y e => by injection e with e1 e2; omega) (sb.nodup List.nodup_range), ?_⟩
    intro a ha b hb e
    obtain ⟨i, hi, rfl⟩ := List.mem_map.mp hb
    have := (hw a ha).1
    rw [e] at this
    dsimp only at this
    omega
  · intro t ht
    rcases List.mem_append.mp ht with q | q
    · have := hw t q
      omega
    · obtain ⟨i, hi, rfl⟩ := List.mem_map.mp q
      have := List.mem_range.mp (sb.subset hi)
      dsimp only
      omega
theorem draft_good {n m : Nat} {c : Call} (h : Draft n m c) (hn : 1 ≤ n) (hn8 : n ≤ 8) (hm : 1 ≤ m) (hm8 : m ≤ 8) {ts : List (Nat × Nat)} (ht : TiesOk n ts) : Good { c with ties := sortBy eP ts } where
  p1 := by rw [show ({ c with ties := sortBy eP ts } : Call).people = c.people from rfl, h.pn]; exact hn
  p8 := by rw [show ({ c with ties := sortBy eP ts } : Call).people = c.people from rfl, h.pn]; exact hn8
  pl := h.pl
  r1 := by rw [show ({ c with ties := sortBy eP ts } : Call).papers = c.papers from rfl, h.rn]; exact hm
  r8 := by rw [show ({ c with ties := sortBy eP ts } : Call).papers = c.papers from rfl, h.rn]; exact hm8
  rw := fun r hr => (h.rw r hr).1
  ra := fun r hr => List.Pairwise.sublist (h.rw r hr).2 List.pairwise_lt_range
  rb := fun r hr a ha => by
    rw [show ({ c with ties := sortBy eP ts } : Call).people = c.people from rfl, h.pn]
    exact List.mem_range.mp ((h.rw r hr).2.subset ha)
  tw := fun t ht2 => by
    rw [show ({ c with ties := sortBy eP ts } : Call).people = c.people from rfl, h.pn]
    exact ht.w t ((sortBy_perm eP ts).mem_iff.mp ht2)
  ts := sortP_lex ht.nd
theorem add_refs {i : Nat} {xs ys : List D} {s : S} (h : lstOf s (.mref i) = some xs) (hl : xs.length + ys.length ≤ line) : binop .Add (.mref i) (.lst ys) s = .ok (.lst (xs ++ ys)) s := by
  show (match lstOf s (.mref i), lstOf s (.lst ys) with
    | some xs, some ys => if xs.length + ys.length ≤ line then .ok (.lst (xs ++ ys)) s else .stuck
    | _, _ => .stuck : Res D) = _
  rw [h, lstOf_lst]
  dsimp only
  rw [if_pos hl]
theorem tie_step2 (s : S) (k : Nat) (people : Nat) (hp : people ≤ 8) (one : Nat) (X : S) (ls : List (List D)) (j : Nat) (ts : List (Nat × Nat)) (h0 : ls[j]? = some (ts.map eP)) (hr : ts.length ≤ 64) (ho : one < people) (fr : Fr k s X ls) (a2 a4 a6 a8 : Option D) (way : Nat) (od : way < 100) :
    ∃ (l : List Nat) (Y : S), L__law_tied_call_0 [some (.mref k), some (nat people), a2, some (nat way), a4, some (.mref (s.size + j)), a6, some (nat one), a8] X = .ok (.nx [some (.mref k), some (nat people), a2, some (nat way), a4, some (.mref (s.size + j)), a6, some (nat one), a8]) Y ∧ Fr k s Y (ls.set j ((ts ++ l.map fun i => (one, one + 1 + i)).map eP)) ∧ l.Sublist (List.range (people - (one + 1))) := by
  obtain ⟨l, X1, c1, p1, sb⟩ := draws_sub (X := X) (k := k) (n := people - (one + 1)) (a := one + 1) (g := fun i => eP (one, one + 1 + i)) (step := T__law_tied_call_2 [some (.mref k), some (nat people), a2, some (nat way), a4, some (.mref (s.size + j)), a6, some (nat one), a8]) fr.pot (by omega) fun i Z z => by
    obtain ⟨d, Z1, e1, q1, _⟩ := draw_eq Z k z (way + 1) (by omega) (by omega)
    refine ⟨decide (d = 0), Z1, ?_, q1⟩
    unfold T__law_tied_call_2
    have eq0 : cmpop .Eq (nat d) (.int 0) Z1 = .ok (.bl (decide (d = 0))) Z1 := nat_eq d 0 Z1
    simp only [toN_eq, wipeR_cons, wipeR_nil, List.set_cons_succ, List.set_cons_zero, stepR_some, gv_0, gv_s, bin_ok, add_one, consA_ok, nilA_eq, Res.bind_ok, callD_ok, List.length_cons, List.length_nil, if_pos, e1, cmpA_ok, eq0, toB_ok]
    cases decide (d = 0) with
    | true =>
      simp only [andT_t, Res.bind_ok, gv_0, gv_s, consA_ok, nilA_eq, tupR_ok, if_pos]
      rfl
    | false => simp
  have fr1 := fr.pe p1
  have ll : l.length ≤ 8 := by
    have := sb.length_le
    rw [List.length_range] at this
    omega
  obtain ⟨Y, a1, fr2⟩ := fr1.extend h0 (l.map fun i => eP (one, one + 1 + i)) (le_line (by rw [List.length_map, List.length_map]; omega))
  have lo : lstOf X (.mref (s.size + j)) = some (ts.map eP) := fr.lstOf h0
  refine ⟨l, Y, ?_, ?_, sb⟩
  · unfold L__law_tied_call_0
    simp only [gv_0, gv_s, bin_ok, Res.bind_ok, add_one, rng2_nat _ _ (le_line (show one + 1 ≤ 16000000 by omega)) (le_line (show people ≤ 16000000 by omega)), c1, asLst_ok, recvR_at lo, a1, sq_nx]
  · rw [List.map_append, List.map_map]
    exact fr2
theorem take3d (c : Call) (s : S) : cutD (enc c) none (some 3) s = .ok (.tup [.str "call", .tup (c.people.map eP), .tup (c.papers.map eR)]) s := rfl
/-- the slots behind the first ties -/
def slots (k people papers way : Nat) (c : Call) (r : Nat) (o7 : Option D) : Rho := [some (.mref k), some (nat people), some (nat papers), some (nat way), some (enc c), some (.mref r), none, o7, none]
theorem tied_call_eq (s : S) (k : Nat) (P : Pot s k) : ∃ (c : Call) (Y : S), F__law_tied_call [.mref k] s = .ok (enc c) Y ∧ PE k s Y ∧ Good c := by
  rw [f__law_tied_call]
  unfold S__law_tied_call
  obtain ⟨d1, s1, e1, p1, l1⟩ := draw_eq s k P 8 (by decide) (by decide)
  have P1 := p1.pot P
  obtain ⟨d2, s2, e2, p2, l2⟩ := draw_eq s1 k P1 4 (by decide) (by decide)
  have P2 := p2.pot P1
  obtain ⟨way, s3, e3, p3, l3⟩ := draw_eq s2 k P2 5 (by decide) (by decide)
  have P3 := p3.pot P2
  have e1 : F__law_draw [.mref k, .int 8] s = .ok (nat d1) s1 := e1
  have e2 : F__law_draw [.mref k, .int 4] s1 = .ok (nat d2) s2 := e2
  have e3 : F__law_draw [.mref k, .int 5] s2 = .ok (nat way) s3 := e3
  generalize hn : 1 + d1 = n at *
  generalize hm : 1 + d2 = m at *
  have n8 : n ≤ 8 := by omega
  have m8 : m ≤ 8 := by omega
  obtain ⟨c, s4, e4, p4, dr⟩ := call_of_eq s3 k P3 n m n8 m8
  have pe := ((p1.trans p2).trans p3).trans p4
  have fr0 := (Fr.start P).pe pe
  have fr1 : Fr k s (s4.push (.lst (((List.range (n - 1)).map fun i => (i, i + 1)).map eP))) [((List.range (n - 1)).map fun i => (i, i + 1)).map eP] := fr0.push _
  have z4 : s4.size = s.size := pe.sz
  have L1 : n - 1 ≤ line := le_line (by omega)
  have cm := fun o5 => comp_map (s := s4) (l := List.range (n - 1)) (step := T__law_tied_call_0 [some (.mref k), some (nat n), some (nat m), some (nat way), some (enc c), o5, none, none, none]) (e := nat) (g := fun i => eP (i, i + 1)) (by rw [List.length_range]; exact L1) fun i _ => by
    unfold T__law_tied_call_0
    simp only [toN_eq, wipeR_cons, wipeR_nil, List.set_cons_succ, List.set_cons_zero, stepR_some, yes_eq, gv_0, gv_s, bin_ok, add_one, consA_ok, nilA_eq, Res.bind_ok, tupR_ok]
    rfl
  have mm : (List.range (n - 1)).map (fun i => eP (i, i + 1)) = ((List.range (n - 1)).map fun i => (i, i + 1)).map eP := by rw [List.map_map]; rfl
  simp only [gv_0, gv_s, consA_ok, nilA_eq, Res.bind_ok, callD_ok, List.length_cons, List.length_nil, if_pos, e1, bin_ok, one_add, hn, e2, hm, e3, par_ok, setIs_cons, setIs_nil, nxR_ok, List.set_cons_succ, List.set_cons_zero, sq_nx, e4, asg_ok, sub_one n (by omega), rng1_ok, rng_nat L1, cm, mm, thawR_ok, z4]
  generalize hX : s4.push (.lst (((List.range (n - 1)).map fun i => (i, i + 1)).map eP)) = X1 at fr1 ⊢
  have ww : ∀ (w : Nat) (X : S), cmpop .Eq (nat way) (.int w) X = .ok (.bl (decide (way = w))) X := fun w X => nat_eq way w X
  have w1 : ∀ X : S, cmpop .Eq (nat way) (.int 1) X = .ok (.bl (decide (way = 1))) X := fun X => ww 1 X
  have w2 : ∀ X : S, cmpop .Eq (nat way) (.int 2) X = .ok (.bl (decide (way = 2))) X := fun X => ww 2 X
  have w3 : ∀ X : S, cmpop .Gt (nat way) (.int 2) X = .ok (.bl (decide (2 < way))) X := fun X => nat_gt way 2 X
  have n2 : ∀ X : S, cmpop .Gt (nat n) (.int 2) X = .ok (.bl (decide (2 < n))) X := fun X => nat_gt n 2 X
  -- the end
  have done : ∀ (X : S) (ls : List (List D)) (j : Nat) (ts : List (Nat × Nat)) (o6 o7 o8 : Option D), Fr k s X ls → ls[j]? = some (ts.map eP) → TiesOk n ts →
      ∃ (c' : Call) (Y : S), ((sq (retR (bin .Add (cutR (gv 4 [some (.mref k), some (nat n), some (nat m), some (nat way), some (enc c), some (.mref (s.size + j)), o6, o7, o8] X) nopt (fun s => optR (.ok (.int 3) s))) (fun s_1 => tupR (consA (bt1 .tuple (btR .sorted (consA (gv 5 [some (.mref k), some (nat n), some (nat m), some (nat way), some (enc c), some (.mref (s.size + j)), o6, o7, o8] s_1) (fun s => nilA s)))) (fun s => nilA s))))) fun ρ s => .ok (.nx ρ) s).bind (fin false s)) = .ok (enc c') Y ∧ PE k s Y ∧ Good c' := by
    intro X ls j ts o6 o7 o8 fr hj ok
    obtain ⟨Y, h1, h2⟩ := fr.fin (d := enc { c with ties := sortBy eP ts }) (plain_enc _)
    refine ⟨{ c with ties := sortBy eP ts }, Y, ?_, h2, draft_good dr (by omega) n8 (by omega) m8 ok⟩
    simp only [gv_0, gv_s, nopt_eq, optR_ok, cutR_ok, Res.bind_ok, take3, bin_ok, consA_ok, nilA_eq, btR_ok, sorted_at (fr.seqOf hj), bt1_ok, tuple_lst, tupR_ok, add1]
    rw [ret_ok (plain_enc _), Res.bind_ok]
    exact h1
  by_cases q3 : 2 < way
  · have q1 : ¬ way = 1 := by omega
    have q2 : ¬ way = 2 := by omega
    have fr2 : Fr k s (X1.push (.lst [])) [((List.range (n - 1)).map fun i => (i, i + 1)).map eP, []] := fr1.push []
    have z5 : X1.size = s.size + 1 := fr1.sz
    have Lp := rng_nat (s := X1.push (.lst [])) (le_line (show n ≤ 16000000 by omega))
    obtain ⟨ρ3, X4, f3, o7, ts, rfl, fr7, tl, nd, tw⟩ := for_st (e := nat) (l := List.range n) (to := fun d ρ => toN 7 d ρ) (B := L__law_tied_call_0) (J := fun p ρ X => ∃ (o7 : Option D) (ts : List (Nat × Nat)), ρ = [some (.mref k), some (nat n), some (nat m), some (nat way), some (enc c), some (.mref (s.size + 1)), none, o7, none] ∧ Fr k s X [((List.range (n - 1)).map fun i => (i, i + 1)).map eP, ts.map eP] ∧ ts.length ≤ 8 * p.length ∧ ts.Nodup ∧ ∀ t ∈ ts, t.1 < p.length ∧ t.1 < t.2 ∧ t.2 < n) (fun p x q hq ρ X j => by
      obtain ⟨o7, ts, rfl, fr, tl, nd, tw⟩ := j
      have pl : p.length < n := by
        have := congrArg List.length hq
        rw [List.length_range, List.length_append, List.length_cons] at this
        omega
      have hx := range_at hq
      have xp : p.length = x := by rw [hx.1, List.length_range]
      obtain ⟨l, Y, h1, h2, h3⟩ := tie_step2 s k n n8 x X [((List.range (n - 1)).map fun i => (i, i + 1)).map eP, ts.map eP] 1 ts rfl (by omega) hx.2 fr (some (nat m)) (some (enc c)) none none way (by omega)
      obtain ⟨g1, g2⟩ := grow_ok n8 nd (fun t ht => by have := tw t ht; rw [xp] at this; exact this) h3
      refine ⟨_, rfl, _, Y, h1, some (nat x), ts ++ l.map fun i => (x, x + 1 + i), rfl, h2, ?_, g1, ?_⟩
      · have := h3.length_le
        rw [List.length_range] at this
        rw [List.length_append, List.length_map, List.length_append, List.length_cons, List.length_nil]
        omega
      · rw [List.length_append, List.length_cons, List.length_nil, xp]
        exact g2) (ρ := [some (.mref k), some (nat n), some (nat m), some (nat way), some (enc c), some (.mref (s.size + 1)), none, none, none]) (s := X1.push (.lst [])) ⟨none, [], rfl, fr2, Nat.le_refl _, List.nodup_nil, fun _ h => by cases h⟩
    rw [List.length_range] at tl
    simp only [gv_0, gv_s, cmpA_ok, Res.bind_ok, w1, q1, decide_false, toB_ok, andT_f, iteR_f, sq_nx, w2, q2, w3, q3, decide_true, iteR_t, nilA_eq, thawR_ok, asg_ok, List.set_cons_succ, List.set_cons_zero, z5, rng1_ok, Lp, f3]
    exact done X4 _ 1 ts none o7 none fr7 rfl ⟨nd, fun t ht => (tw t ht).2, by omega⟩
  · by_cases q2 : way = 2
    · have q1 : ¬ way = 1 := by omega
      obtain ⟨ts, X5, c5, p5, hk, hq⟩ := comp_each (β := Nat × Nat) (e := fun i => nat (1 + i)) (g := eP) (k := fun t => t.2 - 1) (Q := fun t => t.1 < t.2 ∧ t.2 < n ∧ 1 ≤ t.2) (T := fun a b => PE k a b) (step := T__law_tied_call_1 [some (.mref k), some (nat n), some (nat m), some (nat way), some (enc c), some (.mref s.size), none, none, none]) (fun s => PE.refl k s) (fun a b c => PE.trans) X1 (l := List.range (n - 1)) (PE.refl k X1) fun i hi Z z => by
        have hi := List.mem_range.mp hi
        obtain ⟨d, Z1, e1, q1, ld⟩ := draw_eq Z k (z.pot fr1.pot) (1 + i) (by omega) (by omega)
        refine ⟨(d, 1 + i), Z1, ?_, q1, by dsimp only; omega, by dsimp only; omega⟩
        unfold T__law_tied_call_1
        simp only [toN_eq, wipeR_cons, wipeR_nil, List.set_cons_succ, List.set_cons_zero, stepR_some, yes_eq, gv_0, gv_s, consA_ok, nilA_eq, Res.bind_ok, callD_ok, List.length_cons, List.length_nil, if_pos, e1, tupR_ok]
        rfl
      have c5 := compR_of (e := fun i => nat (1 + i)) (by rw [List.length_range]; exact le_line (by omega)) c5
      have fr2 := fr1.pe p5
      have fr3 := fr2.push ((sortBy eP ts).map eP)
      have z5 : X5.size = s.size + 1 := fr2.sz
      have tl : ts.length = n - 1 := by
        have := congrArg List.length hk
        rwa [List.length_map, List.length_range] at this
      have tok : TiesOk n ts := by
        refine ⟨?_, fun t ht => ⟨(hq t ht).1, (hq t ht).2.1⟩, by omega⟩
        have nd : (ts.map fun t => t.2 - 1).Nodup := by rw [hk]; exact List.nodup_range
        rw [List.nodup_iff_pairwise_ne] at *
        rw [List.pairwise_map] at nd
        exact nd.imp fun {a b} ne e => ne (by rw [e])
      have r1 : rngI (rng2 (.ok (.int 1) X1) fun s => .ok (nat n) s) = .ok ⟨(List.range (n - 1)).map fun i => nat (1 + i), []⟩ X1 := rng2_nat 1 n (le_line (by decide)) (le_line (by omega)) X1
      have st : sortedN [.lst (ts.map eP)] X5 = .ok ((sortBy eP ts).map eP) X5 := sort_pairs rfl
      simp only [gv_0, gv_s, cmpA_ok, Res.bind_ok, w1, q1, decide_false, toB_ok, andT_f, iteR_f, sq_nx, w2]
      simp only [q2, decide_true, iteR_t]
      rw [← q2]
      simp only [gv_0, gv_s, r1, c5, asLst_ok, sort1_ok, st, thawR_ok, z5, asg_ok, List.set_cons_succ, List.set_cons_zero, sq_nx, cmpA_ok, Res.bind_ok, w3, q3, decide_false, toB_ok, iteR_f]
      exact done _ _ 1 (sortBy eP ts) none none none fr3 rfl (perm_ok tok (sortBy_perm eP ts))
    · by_cases q1 : way = 1 ∧ 2 < n
      · obtain ⟨qa, qb⟩ := q1
        have lo : lstOf X1 (.mref s.size) = some (((List.range (n - 1)).map fun i => (i, i + 1)).map eP) := fr1.lstOf (j := 0) rfl
        have ad : binop .Add (.mref s.size) (.lst [.tup [.int 0, nat (n - 1)]]) X1 = .ok (.lst ((((List.range (n - 1)).map fun i => (i, i + 1)) ++ [(0, n - 1)]).map eP)) X1 := by
          rw [add_refs lo (le_line (by rw [List.length_map, List.length_map, List.length_range, List.length_cons, List.length_nil]; omega)), List.map_append]
          rfl
        have st : sortedN [.lst ((((List.range (n - 1)).map fun i => (i, i + 1)) ++ [(0, n - 1)]).map eP)] X1 = .ok ((sortBy eP (((List.range (n - 1)).map fun i => (i, i + 1)) ++ [(0, n - 1)])).map eP) X1 := sort_pairs rfl
        have fr3 := fr1.push ((sortBy eP (((List.range (n - 1)).map fun i => (i, i + 1)) ++ [(0, n - 1)])).map eP)
        have z5 : X1.size = s.size + 1 := fr1.sz
        have w1' : ∀ X : S, cmpop .Eq (nat way) (.int 1) X = .ok (.bl true) X := fun X => by rw [w1 X, decide_eq_true qa]
        have w2' : ∀ X : S, cmpop .Eq (nat way) (.int 2) X = .ok (.bl false) X := fun X => by rw [w2 X, decide_eq_false q2]
        have w3' : ∀ X : S, cmpop .Gt (nat way) (.int 2) X = .ok (.bl false) X := fun X => by rw [w3 X, decide_eq_false q3]
        have n2' : ∀ X : S, cmpop .Gt (nat n) (.int 2) X = .ok (.bl true) X := fun X => by rw [n2 X, decide_eq_true qb]
        simp only [gv_0, gv_s, cmpA_ok, Res.bind_ok, w1', toB_ok, andT_t, n2', iteR_t, sq_nx, bin_ok, sub_one n (show 1 ≤ n by omega), consA_ok, nilA_eq, tupR_ok, asLst_ok, ad, sort1_ok, st, thawR_ok, z5, asg_ok, List.set_cons_succ, List.set_cons_zero, w2', iteR_f, w3']
        exact done _ _ 1 _ none none none fr3 rfl (perm_ok (ring_ok n n8 qb) (sortBy_perm eP _))
      · have b1 : andT (Res.ok (decide (way = 1)) X1) (fun s => Res.ok (decide (2 < n)) s) = .ok false X1 := by
          by_cases qa : way = 1
          · rw [decide_eq_true qa, andT_t, decide_eq_false fun z => q1 ⟨qa, z⟩]
          · rw [decide_eq_false qa, andT_f]
        have w2' : ∀ X : S, cmpop .Eq (nat way) (.int 2) X = .ok (.bl false) X := fun X => by rw [w2 X, decide_eq_false q2]
        have w3' : ∀ X : S, cmpop .Gt (nat way) (.int 2) X = .ok (.bl false) X := fun X => by rw [w3 X, decide_eq_false q3]
        simp only [gv_0, gv_s, cmpA_ok, Res.bind_ok, w1, toB_ok, n2, b1, iteR_f, sq_nx, w2', w3']
        exact done X1 _ 0 _ none none none fr1 rfl (chain_ok n n8)
end LK
set_option Elab.async false
set_option linter.all false
set_option maxRecDepth 100000
set_option maxHeartbeats 1000000
namespace LK
open PySem DL
/-! ### texts of values: small enough -/
structure Wd (n B : Nat) (d : D) : Prop where
  sm : small n d = true
  wd : wide n d ≤ B
theorem Wd.mono {n B C : Nat} {d : D} (h : Wd n B d) (le : B ≤ C) : Wd n C d := ⟨h.sm, Nat.le_trans h.wd le⟩
theorem wd_nat (n x : Nat) (h : x ≤ 100) : Wd (n + 1) 102 (nat x) := by
  have l1 : x.log2 ≤ x := Nat.log2_le_self x
  refine ⟨?_, ?_⟩
  · show decide (((x : Int)).natAbs.log2 < 1920) = true
    rw [Int.natAbs_natCast, decide_eq_true_eq]
    omega
  · show ((x : Int)).natAbs.log2 + 2 ≤ 102
    rw [Int.natAbs_natCast]
    omega
theorem nodes_le {f : D → Nat} {B : Nat} : ∀ {ds : List D}, (∀ d ∈ ds, f d ≤ B) → nodesL f ds ≤ ds.length * B
  | [], _ => Nat.zero_le _
  | d :: r, h => by
    have h1 := h d (List.mem_cons_self ..)
    have h2 := nodes_le (ds := r) fun x hx => h x (List.mem_cons_of_mem _ hx)
    show f d + nodesL f r ≤ (r.length + 1) * B
    rw [Nat.add_mul]
    omega
theorem small_all {f : D → Bool} : ∀ {ds : List D}, (∀ d ∈ ds, f d = true) → smallL f ds = true
  | [], _ => rfl
  | d :: r, h => by
    show (f d && smallL f r) = true
    rw [h d (List.mem_cons_self ..), small_all fun x hx => h x (List.mem_cons_of_mem _ hx)]
    rfl
theorem wd_lst {n B L : Nat} {ds : List D} (h : ∀ d ∈ ds, Wd n B d) (hl : ds.length ≤ L) : Wd (n + 1) (3 + L * (B + 2)) (.lst ds) := by
  refine ⟨small_all fun d hd => (h d hd).sm, ?_⟩
  show 3 + nodesL (fun d => wide n d + 2) ds ≤ _
  have := nodes_le (f := fun d => wide n d + 2) (B := B + 2) fun d hd => Nat.add_le_add_right (h d hd).wd 2
  have q := Nat.mul_le_mul_right (B + 2) hl
  omega
theorem wd_tup {n B L : Nat} {ds : List D} (h : ∀ d ∈ ds, Wd n B d) (hl : ds.length ≤ L) : Wd (n + 1) (3 + L * (B + 2)) (.tup ds) := by
  refine ⟨small_all fun d hd => (h d hd).sm, ?_⟩
  show 3 + nodesL (fun d => wide n d + 2) ds ≤ _
  have := nodes_le (f := fun d => wide n d + 2) (B := B + 2) fun d hd => Nat.add_le_add_right (h d hd).wd 2
  have q := Nat.mul_le_mul_right (B + 2) hl
  omega
theorem wd_eP (n : Nat) (p : Nat × Nat) (h : p.1 ≤ 100 ∧ p.2 ≤ 100) : Wd (n + 2) 211 (eP p) := by
  refine (wd_tup (n := n + 1) (B := 102) (L := 2) (fun d hd => ?_) (by simp)).mono (by omega)
  simp only [List.mem_cons, List.not_mem_nil, or_false] at hd
  rcases hd with rfl | rfl
  · exact wd_nat n _ h.1
  · exact wd_nat n _ h.2
theorem wd_pairs (n : Nat) (l : List (Nat × Nat)) (h : ∀ p ∈ l, p.1 ≤ 100 ∧ p.2 ≤ 100) (hl : l.length ≤ 64) : Wd (n + 3) 14000 (.lst (l.map eP)) := by
  refine (wd_lst (n := n + 2) (B := 211) (L := 64) (fun d hd => ?_) (by rw [List.length_map]; exact hl)).mono (by omega)
  obtain ⟨p, hp, rfl⟩ := List.mem_map.mp hd
  exact wd_eP n p (h p hp)
theorem wd_pairsT (n : Nat) (l : List (Nat × Nat)) (h : ∀ p ∈ l, p.1 ≤ 100 ∧ p.2 ≤ 100) (hl : l.length ≤ 64) : Wd (n + 3) 14000 (.tup (l.map eP)) := by
  refine (wd_tup (n := n + 2) (B := 211) (L := 64) (fun d hd => ?_) (by rw [List.length_map]; exact hl)).mono (by omega)
  obtain ⟨p, hp, rfl⟩ := List.mem_map.mp hd
  exact wd_eP n p (h p hp)
theorem repr_at {s : S} {d e : D} (h : rsv s deep d = some e) {B : Nat} (w : Wd deep B e) (hB : B ≤ 16000000) : callB .repr [d] s = .ok (.str (shown e)) s := by
  show (match rsv s deep d with
    | some e => if small deep e = true ∧ wide deep e ≤ line then .ok (.str (shown e)) s else .stuck
    | none => .stuck : Res D) = _
  rw [h]
  dsimp only
  rw [if_pos ⟨w.sm, Nat.le_trans w.wd (le_line hB)⟩]
theorem ne_same (x : Str) (s : S) : cmpop .NotEq (.str x) (.str x) s = .ok (.bl false) s := by
  rw [ne_strs, decide_eq_true rfl]
  rfl
theorem eq_same (x : Str) (s : S) : cmpop .Eq (.str x) (.str x) s = .ok (.bl true) s := by
  rw [eq_strs, decide_eq_true rfl]
/-! ### what is compared -/
theorem noBs_nats : ∀ l : List Nat, D.noBs (l.map nat) = true
  | [] => rfl
  | x :: r => by
    show (D.noB (nat x) && D.noBs (r.map nat)) = true
    rw [noBs_nats r]
    rfl
theorem map_nat_inj : ∀ {l m : List Nat}, l.map nat = m.map nat → l = m
  | [], [], _ => rfl
  | [], _ :: _, h => by cases h
  | _ :: _, [], h => by cases h
  | x :: r, y :: t, h => by
    rw [List.map_cons, List.map_cons] at h
    injection h with h1 h2
    rw [nat_inj _ _ h1, map_nat_inj h2]
theorem lns_inj (l m : List Nat) (h : lns l = lns m) : l = m := by
  injection h with h
  exact map_nat_inj h
theorem noB_lns (l : List Nat) : (lns l).noB = true := noBs_nats l
theorem fits_lns (n : Nat) (l : List Nat) : fits (n + 2) (lns l) = true := fits_nats n l
theorem eq_lns (l m : List Nat) (s : S) : cmpop .Eq (lns l) (lns m) s = .ok (.bl (decide (l = m))) s := by
  rw [cmp_eq (fits_lns 38 l) (fits_lns 38 m) (fun _ _ h => by cases h), eqd_enc noB_lns lns_inj]
theorem ne_lns (l m : List Nat) (s : S) : cmpop .NotEq (lns l) (lns m) s = .ok (.bl !(decide (l = m))) s := by
  rw [cmp_ne (fits_lns 38 l) (fits_lns 38 m) (fun _ _ h => by cases h), eqd_enc noB_lns lns_inj]
theorem rsv_at {s : S} {r : Nat} {ds : List D} {n : Nat} (h : s.get r = some (.lst ds)) (f : fitsL n ds = true) : rsv s (n + 1) (.mref r) = some (.lst ds) := by
  show (match s.get r with
      | some (.lst ds) => (match mapO (rsv s n) ds with
        | some es => some (D.lst es)
        | none => none)
      | _ => none) = _
  rw [h]
  dsimp only
  rw [mapO_fits (fitsL_all.mp f)]
theorem ne_nil_at {s : S} {r : Nat} {ds : List D} (h : s.get r = some (.lst ds)) (f : fitsL 39 ds = true) : cmpop .NotEq (.mref r) (.lst []) s = .ok (.bl !ds.isEmpty) s := by
  show notD (match rsv s deep (.mref r), rsv s deep (.lst []) with
    | some a, some b => .ok (.bl (eqd a b)) s
    | _, _ => .stuck) = _
  rw [rsv_at (n := 39) h f, rsv_fits deep (d := .lst []) rfl]
  dsimp only
  rw [eqd_nilR]
  rfl
theorem ne_bls (a b : Bool) (s : S) : cmpop .NotEq (.bl a) (.bl b) s = .ok (.bl !(a == b)) s := by
  rw [cmp_ne rfl rfl (fun _ _ h => by cases h)]
  cases a <;> cases b <;> rfl
theorem callK_ok {ps ks : List Str} {F : Den} {ds es fs : List D} {s s2 : S} {r2 : S → Res (List D)} (h2 : r2 s = .ok es s2) (hk : kwPick (ks.zip es) (ps.drop ds.length) = some fs) (hc : ds.length + ks.length = ps.length ∧ ks.Nodup ∧ ∀ k ∈ ks, k ∈ ps.drop ds.length) : callK ps ks F (.ok ds s) r2 = F (ds ++ fs) s2 := by
  unfold callK
  rw [Res.bind_ok, h2, Res.bind_ok, hk]
  dsimp only
  rw [if_pos hc]
/-! ### ties right -/
def rowOf (c : Call) (i : Nat) : Nat × List Nat := c.papers[i]?.getD (0, [])
theorem enum_rows (c : Call) : enumF 0 (c.papers.map eR) = (List.range c.papers.length).map fun i => .tup [nat i, eR (rowOf c i)] := by
  have e : c.papers.map eR = ((List.range c.papers.length).map (rowOf c)).map eR := by
    rw [map_range c.papers eR (0, []), List.map_map]
    rfl
  rw [e, enumF_map, zipIdx_range, List.map_map]
  rfl
def cond (c : Call) (i : Nat) (y : Nat × Nat) : Bool := decide (y.1 ∈ auOf c i) && (!decide (y.2 ∈ auOf c i) && decide (barsOf c (auOf c i) y.2 = [y.1]))
def two (t : Nat × Nat) : List (Nat × Nat) := [(t.1, t.2), (t.2, t.1)]
def aloneOf (c : Call) (t : Nat × Nat) (i : Nat) : List (Nat × Nat) := ((two t).filter (cond c i)).map fun y => (i, y.2)
def alone (c : Call) (t : Nat × Nat) : List (Nat × Nat) := (List.range c.papers.length).flatMap (aloneOf c t)
theorem two_len (t : Nat × Nat) (p : Nat × Nat → Bool) : ((two t).filter p).length ≤ 2 := by
  refine Nat.le_trans (List.length_filter_le ..) ?_
  exact Nat.le_refl 2
theorem alone_len (c : Call) (t : Nat × Nat) (l : List Nat) : (l.flatMap (aloneOf c t)).length ≤ 2 * l.length := by
  induction l with
  | nil => exact Nat.le_refl _
  | cons x r ih =>
    rw [List.flatMap_cons, List.length_append, List.length_cons]
    have : (aloneOf c t x).length ≤ 2 := by
      unfold aloneOf
      rw [List.length_map]
      exact two_len t _
    omega
theorem cond_iff (c : Call) (i : Nat) (y : Nat × Nat) : cond c i y = true ↔ y.1 ∈ auOf c i ∧ y.2 ∉ auOf c i ∧ barsOf c (auOf c i) y.2 = [y.1] := by
  unfold cond
  rw [Bool.and_eq_true, Bool.and_eq_true, Bool.not_eq_true', decide_eq_true_eq, decide_eq_true_eq, decide_eq_false_iff_not]
theorem mem_alone {c : Call} {t x : Nat × Nat} (h : x ∈ alone c t) : ∃ y, x.1 < c.papers.length ∧ (y = (t.1, t.2) ∨ y = (t.2, t.1)) ∧ x.2 = y.2 ∧ barsOf c (auOf c x.1) y.2 = [y.1] := by
  unfold alone at h
  rw [List.mem_flatMap] at h
  obtain ⟨i, hi, h⟩ := h
  unfold aloneOf at h
  obtain ⟨y, hy, rfl⟩ := List.mem_map.mp h
  obtain ⟨h1, h2⟩ := List.mem_filter.mp hy
  refine ⟨y, List.mem_range.mp hi, ?_, rfl, ((cond_iff c i y).mp h2).2.2⟩
  unfold two at h1
  simpa using h1
theorem alone_due {c : Call} (g : Good c) {t : Nat × Nat} (ht : t ∈ c.ties) : (!(alone c t).isEmpty) = decide (t ∈ due c) := by
  rw [Bool.eq_iff_iff, decide_eq_true_eq]
  unfold due
  rw [List.mem_filter, due_iff, alone_iff g ht, Bool.not_eq_true', Bool.eq_false_iff, ne_eq, List.isEmpty_iff]
  constructor
  · intro h
    refine ⟨ht, ?_⟩
    obtain ⟨x, hx⟩ := List.exists_mem_of_ne_nil _ h
    unfold alone at hx
    rw [List.mem_flatMap] at hx
    obtain ⟨i, hi, h⟩ := hx
    unfold aloneOf at h
    obtain ⟨y, hy, rfl⟩ := List.mem_map.mp h
    obtain ⟨h1, h2⟩ := List.mem_filter.mp hy
    refine ⟨i, List.mem_range.mp hi, y, ?_, (cond_iff c i y).mp h2⟩
    unfold two at h1
    simpa using h1
  · rintro ⟨_, i, hi, y, hy, h⟩ z
    have : (i, y.2) ∈ alone c t := by
      unfold alone
      rw [List.mem_flatMap]
      refine ⟨i, List.mem_range.mpr hi, ?_⟩
      unfold aloneOf
      refine List.mem_map.mpr ⟨y, List.mem_filter.mpr ⟨?_, (cond_iff c i y).mpr h⟩, rfl⟩
      unfold two
      simpa using hy
    rw [z] at this
    cases this
theorem row_at {c : Call} {i : Nat} (h : i < c.papers.length) : (rowOf c i).2 = auOf c i := rfl
/-- one row, both ways -/
theorem both_step (c : Call) (g : Good c) (t : Nat × Nat) (a1 a2 : Option D) (X : S) (i : Nat) (hi : i < c.papers.length) (al : List (Nat × Nat)) (hal : al.length ≤ 64) (o8 o9 : Option D) :
    ∃ (p8 p9 : Option D), L__law_ties_right_1 [some (enc c), a1, a2, some (nat t.1), some (nat t.2), some (.mref X.size), some (nat i), some (eR (rowOf c i)), o8, o9, none] (X.push (.lst (al.map eP))) = .ok (.nx [some (enc c), a1, a2, some (nat t.1), some (nat t.2), some (.mref X.size), some (nat i), some (eR (rowOf c i)), p8, p9, none]) (X.push (.lst ((al ++ aloneOf c t i).map eP))) := by
  unfold L__law_ties_right_1
  have hau : (auOf c i).length ≤ line := by
    obtain ⟨w, hw⟩ := auOf_mem hi
    exact le_line (Nat.le_trans (g.au8 (r := (w, auOf c i)) hw) (by decide))
  have it : seqI (tupR (consA (tupR (consA (Res.ok (nat t.1) (X.push (.lst (al.map eP)))) fun s => consA (Res.ok (nat t.2) s) fun s => nilA s)) fun s => consA (tupR (consA (Res.ok (nat t.2) s) fun s => consA (Res.ok (nat t.1) s) fun s => nilA s)) fun s => nilA s)) = .ok ⟨(two t).map eP, []⟩ (X.push (.lst (al.map eP))) := rfl
  obtain ⟨ρ', s', h1, p8, p9, rfl, rfl⟩ := for_st (e := eP) (l := two t) (to := fun d ρ => bindTup [8, 9] d ρ) (B := L__law_ties_right_0) (J := fun p ρ s => ∃ (p8 p9 : Option D), ρ = [some (enc c), a1, a2, some (nat t.1), some (nat t.2), some (.mref X.size), some (nat i), some (eR (rowOf c i)), p8, p9, none] ∧ s = X.push (.lst ((al ++ (p.filter (cond c i)).map fun y => (i, y.2)).map eP))) (fun p y q hq ρ s j => by
    obtain ⟨p8, p9, rfl, rfl⟩ := j
    refine ⟨[some (enc c), a1, a2, some (nat t.1), some (nat t.2), some (.mref X.size), some (nat i), some (eR (rowOf c i)), some (nat y.1), some (nat y.2), none], rfl, ?_⟩
    generalize hs : al ++ (p.filter (cond c i)).map (fun y => (i, y.2)) = al2
    have l2 : al2.length ≤ 66 := by
      rw [← hs, List.length_append, List.length_map]
      have : (p.filter (cond c i)).length ≤ p.length := List.length_filter_le ..
      have := congrArg List.length hq
      rw [List.length_append, List.length_cons] at this
      have : (two t).length = 2 := rfl
      omega
    have r1 : getD (eR (rowOf c i)) (.int 1) (X.push (.lst (al2.map eP))) = .ok (.tup ((auOf c i).map nat)) (X.push (.lst (al2.map eP))) := rfl
    have cm := comp_if (s := X.push (.lst (al2.map eP))) (l := auOf c i) (step := T__law_ties_right_0 [some (enc c), a1, a2, some (nat t.1), some (nat t.2), some (.mref X.size), some (nat i), some (eR (rowOf c i)), some (nat y.1), some (nat y.2), none]) (e := nat) (g := nat) (p := fun a => decide (a = y.2) || tied c a y.2) hau fun a _ => by
      unfold T__law_ties_right_0
      simp only [toN_eq, wipeR_cons, wipeR_nil, List.set_cons_succ, List.set_cons_zero, stepR_some, gv_0, gv_s, Res.bind_ok, consA_ok, nilA_eq, callD_ok, List.length_cons, List.length_nil, if_pos, law_near_eq c g, evTruth_bl]
      cases (decide (a = y.2) || tied c a y.2) <;> simp
    have fold : (auOf c i).filter (fun a => decide (a = y.2) || tied c a y.2) = barsOf c (auOf c i) y.2 := rfl
    rw [fold] at cm
    have e1 : cmpop .Eq (.lst ((barsOf c (auOf c i) y.2).map nat)) (.lst [nat y.1]) (X.push (.lst (al2.map eP))) = .ok (.bl (decide (barsOf c (auOf c i) y.2 = [y.1]))) (X.push (.lst (al2.map eP))) := eq_lns _ [y.1] _
    have ap : appendD (.mref X.size) (.tup [nat i, nat y.2]) (X.push (.lst (al2.map eP))) = .ok () (X.push (.lst (al2.map eP ++ [.tup [nat i, nat y.2]]))) := append_push (lt_line (by rw [List.length_map]; omega))
    have main : L__law_ties_right_0 [some (enc c), a1, a2, some (nat t.1), some (nat t.2), some (.mref X.size), some (nat i), some (eR (rowOf c i)), some (nat y.1), some (nat y.2), none] (X.push (.lst (al2.map eP))) = .ok (.nx [some (enc c), a1, a2, some (nat t.1), some (nat t.2), some (.mref X.size), some (nat i), some (eR (rowOf c i)), some (nat y.1), some (nat y.2), none]) (X.push (.lst ((al2 ++ if cond c i y = true then [(i, y.2)] else []).map eP))) := by
      unfold L__law_ties_right_0 cond
      simp only [gv_0, gv_s, cmpA_ok, ixR_ok, Res.bind_ok, r1, nat_in_tup, toB_ok]
      cases decide (y.1 ∈ auOf c i) with
      | false => simp
      | true =>
        simp only [andT_t, cmpA_ok, ixR_ok, Res.bind_ok, gv_0, gv_s, r1, nat_notin_tup, toB_ok]
        cases (!decide (y.2 ∈ auOf c i)) with
        | false => simp
        | true =>
          simp only [andT_t, cmpA_ok, ixR_ok, Res.bind_ok, gv_0, gv_s, r1, seqI_tup, cm, asLst_ok, consA_ok, nilA_eq, e1, toB_ok]
          cases decide (barsOf c (auOf c i) y.2 = [y.1]) with
          | false => simp
          | true =>
            simp only [iteR_t, recvR_push, consA_ok, nilA_eq, Res.bind_ok, tupR_ok, gv_0, gv_s, ap, sq_nx, Bool.and_self, if_pos, List.map_append]
            rfl
    refine ⟨_, _, main, some (nat y.1), some (nat y.2), rfl, ?_⟩
    have eqn : (al2 ++ if cond c i y = true then [(i, y.2)] else []) = al ++ ((p ++ [y]).filter (cond c i)).map fun y => (i, y.2) := by
      rw [List.filter_append, List.map_append, ← List.append_assoc, hs, List.filter_cons]
      cases cond c i y <;> rfl
    rw [eqn]) (ρ := [some (enc c), a1, a2, some (nat t.1), some (nat t.2), some (.mref X.size), some (nat i), some (eR (rowOf c i)), o8, o9, none]) (s := X.push (.lst (al.map eP))) ⟨o8, o9, rfl, by rw [List.filter_nil, List.map_nil, List.append_nil]⟩
  refine ⟨p8, p9, ?_⟩
  simp only [gv_0, gv_s]
  rw [it, h1, sq_nx]
  rfl
/-- one tie -/
theorem tie_turn (c : Call) (g : Good c) (t : Nat × Nat) (ht : t ∈ c.ties) (told : D) (X : S) (o5 o6 o7 o8 o9 : Option D) :
    ∃ (p5 p6 p7 p8 p9 : Option D) (Y : S), L__law_ties_right_3 [some (enc c), some (.lst ((due c).map eP)), some told, some (nat t.1), some (nat t.2), o5, o6, o7, o8, o9, none] X = .ok (.nx [some (enc c), some (.lst ((due c).map eP)), some told, some (nat t.1), some (nat t.2), p5, p6, p7, p8, p9, none]) Y ∧ Kept X Y := by
  unfold L__law_ties_right_3
  have tw := g.tw t ht
  have it : enumI (.ok (.tup (c.papers.map eR)) (X.push (.lst []))) = .ok ⟨(List.range c.papers.length).map fun i => .tup [nat i, eR (rowOf c i)], []⟩ (X.push (.lst [])) := by
    rw [enumI_tup, enum_rows]
  obtain ⟨ρ', s', h1, p6, p7, p8, p9, rfl, rfl⟩ := for_st (e := fun i => .tup [nat i, eR (rowOf c i)]) (l := List.range c.papers.length) (to := fun d ρ => bindTup [6, 7] d ρ) (B := L__law_ties_right_1) (J := fun p ρ s => ∃ (p6 p7 p8 p9 : Option D), ρ = [some (enc c), some (.lst ((due c).map eP)), some told, some (nat t.1), some (nat t.2), some (.mref X.size), p6, p7, p8, p9, none] ∧ s = X.push (.lst ((p.flatMap (aloneOf c t)).map eP))) (fun p i q hq ρ s j => by
    obtain ⟨p6, p7, p8, p9, rfl, rfl⟩ := j
    have hi := range_at hq
    have hl : (p.flatMap (aloneOf c t)).length ≤ 64 := by
      have := alone_len c t p
      have e : p.length = i := by rw [hi.1, List.length_range]
      have := g.r8
      omega
    obtain ⟨q8, q9, h1⟩ := both_step c g t (some (.lst ((due c).map eP))) (some told) X i hi.2 (p.flatMap (aloneOf c t)) hl p8 p9
    refine ⟨_, rfl, _, _, h1, _, _, q8, q9, rfl, ?_⟩
    rw [List.flatMap_append, List.flatMap_singleton]) (ρ := [some (enc c), some (.lst ((due c).map eP)), some told, some (nat t.1), some (nat t.2), some (.mref X.size), o6, o7, o8, o9, none]) (s := X.push (.lst [])) ⟨o6, o7, o8, o9, rfl, rfl⟩
  have al64 : (alone c t).length ≤ 64 := by
    have := alone_len c t (List.range c.papers.length)
    rw [List.length_range] at this
    have := g.r8
    unfold alone
    omega
  have fold : (List.range c.papers.length).flatMap (aloneOf c t) = alone c t := rfl
  rw [fold] at h1
  have gt : (X.push (.lst ((alone c t).map eP))).get X.size = some (.lst ((alone c t).map eP)) := push_get
  have ne : cmpop .NotEq (.mref X.size) (.lst []) (X.push (.lst ((alone c t).map eP))) = .ok (.bl !(alone c t).isEmpty) (X.push (.lst ((alone c t).map eP))) := by
    rw [ne_nil_at gt (fitsL_pairs 37 _), List.isEmpty_map]
  have ind := in_pairsL (due c) t (X.push (.lst ((alone c t).map eP)))
  have ind : cmpop .In (.tup [nat t.1, nat t.2]) (.lst ((due c).map eP)) (X.push (.lst ((alone c t).map eP))) = .ok (.bl (decide (t ∈ due c))) (X.push (.lst ((alone c t).map eP))) := ind
  have both : (!((!(alone c t).isEmpty) == decide (t ∈ due c))) = false := by
    rw [alone_due g ht]
    simp
  have cut : cutD (.mref X.size) none (some 1) (X.push (.lst ((alone c t).map eP))) = .ok (.lst (((alone c t).take 1).map eP)) (X.push (.lst ((alone c t).map eP))) := by
    show (match lstOf (X.push (.lst ((alone c t).map eP))) (.mref X.size) with
      | some xs => .ok (.lst (cutL xs none (some 1))) (X.push (.lst ((alone c t).map eP)))
      | none => .stuck : Res D) = _
    rw [lstOf_push]
    dsimp only
    rw [show (1 : Int) = ((1 : Nat) : Int) from rfl, cutL_take, List.map_take]
  obtain ⟨ρ2, s2, h2, q6, q9, rfl, rfl⟩ := for_st (e := eP) (l := (alone c t).take 1) (to := fun d ρ => bindTup [6, 9] d ρ) (B := L__law_ties_right_2) (J := fun p ρ s => ∃ (q6 q9 : Option D), ρ = [some (enc c), some (.lst ((due c).map eP)), some told, some (nat t.1), some (nat t.2), some (.mref X.size), q6, p7, p8, q9, none] ∧ s = X.push (.lst ((alone c t).map eP))) (fun p x q hq ρ s j => by
    obtain ⟨q6, q9, rfl, rfl⟩ := j
    have hx : x ∈ alone c t := List.mem_of_mem_take (by rw [hq]; simp)
    obtain ⟨y, hi, hy, e2, hb⟩ := mem_alone hx
    have hp : x.2 < c.people.length := by
      rw [e2]
      rcases hy with rfl | rfl
      · exact tw.2
      · dsimp only; omega
    refine ⟨_, rfl, _, _, ?_, some (nat x.1), some (nat x.2), rfl, rfl⟩
    unfold L__law_ties_right_2
    have ba := bars_eq c g x.1 x.2 hi hp (X.push (.lst ((alone c t).map eP)))
    rw [e2, hb] at ba
    have nn : ∀ a b : Nat, cmpop .NotEq (.lst [nat a]) (.lst [nat b]) (X.push (.lst ((alone c t).map eP))) = .ok (.bl !(decide (a = b))) (X.push (.lst ((alone c t).map eP))) := fun a b => by
      rw [show D.lst [nat a] = lns [a] from rfl, show D.lst [nat b] = lns [b] from rfl, ne_lns]
      simp
    have ba : F_bars [enc c, nat x.1, nat x.2] (X.push (.lst ((alone c t).map eP))) = .ok (.lst [nat y.1]) (X.push (.lst ((alone c t).map eP))) := by rw [e2]; exact ba
    have ch : iteR (Res.ok (decide (x.2 = t.2)) (X.push (.lst ((alone c t).map eP)))) (fun s => Res.ok (nat t.1) s) (fun s => Res.ok (nat t.2) s) = .ok (nat y.1) (X.push (.lst ((alone c t).map eP))) := by
      rcases hy with rfl | rfl
      · rw [decide_eq_true e2, iteR_t]
      · rw [decide_eq_false (by rw [e2]; dsimp only; omega), iteR_f]
    simp only [gv_0, gv_s, consA_ok, nilA_eq, Res.bind_ok, callD_ok, List.set_cons_succ, List.set_cons_zero, List.length_cons, List.length_nil, if_pos, ba, cmpA_ok, nat_eq, toB_ok, ch, asLst_ok, nn, decide_true, Bool.not_true, iteR_f, sq_nx]) (ρ := [some (enc c), some (.lst ((due c).map eP)), some told, some (nat t.1), some (nat t.2), some (.mref X.size), p6, p7, p8, p9, none]) (s := X.push (.lst ((alone c t).map eP))) ⟨p6, p9, rfl, rfl⟩
  refine ⟨some (.mref X.size), q6, p7, p8, q9, X.push (.lst ((alone c t).map eP)), ?_, (Kept.refl X).push _⟩
  simp only [gv_0, gv_s, nilA_eq, thawR_ok, asg_ok, List.set_cons_succ, List.set_cons_zero, sq_nx, ixR_ok, Res.bind_ok, get2, it, h1, asLst_ok, cmpA_ok, ne, consA_ok, tupR_ok, ind, ne_bls, both, toB_ok, iteR_f, nopt_eq, optR_ok, cutR_ok, cut, seqI_lst, h2]
theorem due_len (c : Call) (g : Good c) : (due c).length ≤ 64 := Nat.le_trans (List.length_filter_le ..) g.ties64
theorem due_small (c : Call) (g : Good c) : ∀ p ∈ due c, p.1 ≤ 100 ∧ p.2 ≤ 100 := fun p hp => by
  have := g.tw p (List.mem_filter.mp hp).1
  have := g.p8
  omega
theorem law_ties_right_eq (c : Call) (g : Good c) (s : S) : F__law_ties_right [enc c] s = .ok (.bl true) s := by
  rw [f__law_ties_right]
  unfold S__law_ties_right
  have tt : ∀ s, F_ties_that_count [enc c] s = .ok (.mref s.size) (s.push (.lst ((due c).map eP))) := fun s => by rw [due_counting]; exact ties_that_count_eq c g s
  have fd := fitsL_pairs 37 (due c)
  have fd' := fitsL_pairs 36 (due c)
  have w1 : Wd 39 14000 (.lst ((due c).map eP)) := wd_pairs 36 _ (due_small c g) (due_len c g)
  have w0 : Wd 40 14000 (.lst ((due c).map eP)) := wd_pairs 37 _ (due_small c g) (due_len c g)
  have w2 : Wd 40 28100 (.lst [.lst ((due c).map eP), .lst ((due c).map eP)]) := (wd_lst (n := 39) (B := 14000) (L := 2) (fun d hd => by
    simp only [List.mem_cons, List.not_mem_nil, or_false, or_self] at hd
    rw [hd]; exact w1) (by simp)).mono (by omega)
  generalize hs1 : s.push (.lst ((due c).map eP)) = s1
  have z1 : s1.size = s.size + 1 := by rw [← hs1, S.size_push]
  generalize hs2 : s1.push (.lst ((due c).map eP)) = s2
  have z2 : s2.size = s.size + 2 := by rw [← hs2, S.size_push, z1]
  have g1 : s2.get s.size = some (.lst ((due c).map eP)) := by
    rw [← hs2, S.get_push, if_neg (by omega), ← hs1]
    exact push_get
  have g2 : s2.get s1.size = some (.lst ((due c).map eP)) := by
    rw [← hs2]
    exact push_get
  have k2 : Kept s s2 := by
    rw [← hs2, ← hs1]
    exact ((Kept.refl s).push _).push _
  have rs : rsv s2 deep (.lst [.mref s.size, .mref s1.size]) = some (.lst [.lst ((due c).map eP), .lst ((due c).map eP)]) := by
    show (match mapO (rsv s2 39) [.mref s.size, .mref s1.size] with
      | some es => some (D.lst es)
      | none => none) = _
    have a1 := rsv_at (n := 38) g1 fd'
    have a2 := rsv_at (n := 38) g2 fd'
    unfold mapO mapO mapO
    rw [a1, a2]
  have rr := repr_at rs w2 (by decide)
  have rsd : ∀ s, rsv s deep (.lst [.lst ((due c).map eP), .lst ((due c).map eP)]) = some (.lst [.lst ((due c).map eP), .lst ((due c).map eP)]) := fun s => rsv_fits deep (fitsL_all (n := 39).mpr fun d hd => by
    simp only [List.mem_cons, List.not_mem_nil, or_false, or_self] at hd
    rw [hd]; exact fits_lpairs 36 _)
  have rr2 := repr_at (rsd s2) w2 (by decide)
  have ck : callK ["call"] ["call"] F_ties_that_count (Res.ok [] s1) (fun s => Res.ok [enc c] s) = .ok (.mref s1.size) s2 := by
    rw [callK_ok (es := [enc c]) (fs := [enc c]) rfl rfl (by decide +kernel)]
    show F_ties_that_count [enc c] s1 = _
    rw [tt, hs2]
  have told : getD (.lst [.mref s.size, .mref s1.size]) (.int 0) s2 = .ok (.mref s.size) s2 := rfl
  have lo : lstOf s2 (.mref s.size) = some ((due c).map eP) := by
    show (match s2.get s.size with
      | some (.lst ds) => some ds
      | _ => none) = _
    rw [g1]
  obtain ⟨s3, ap, k3⟩ : ∃ s3, appendD (.mref s.size) .non s2 = .ok () s3 ∧ Kept s s3 := by
    refine ⟨s2.put s.size (.lst ((due c).map eP ++ [.non])), ?_, k2.put (Nat.le_refl _) (by omega) _⟩
    unfold appendD
    dsimp only
    rw [g1]
    dsimp only
    rw [if_pos (lt_line (by rw [List.length_map]; have := due_len c g; omega))]
  have rs3 : rsv (s3.push (.lst ((due c).map eP))) deep (.mref s3.size) = some (.lst ((due c).map eP)) := rsv_at (n := 39) push_get fd
  have rr3 := repr_at rs3 w0 (by decide)
  have rr4 := repr_at (s := s3.push (.lst ((due c).map eP))) (rsv_fits deep (d := .lst ((due c).map eP)) (fits_lpairs 37 _)) w0 (by decide)
  obtain ⟨ρ', X, h1, p3, p4, p5, p6, p7, p8, p9, rfl, kX⟩ := for_st (e := eP) (l := c.ties) (to := fun d ρ => bindTup [3, 4] d ρ) (B := L__law_ties_right_3) (J := fun p ρ X => ∃ (p3 p4 p5 p6 p7 p8 p9 : Option D), ρ = [some (enc c), some (.lst ((due c).map eP)), some (.lst [.mref s.size, .mref s1.size]), p3, p4, p5, p6, p7, p8, p9, none] ∧ Kept s X) (fun p t q hq ρ X j => by
    obtain ⟨p3, p4, p5, p6, p7, p8, p9, rfl, kX⟩ := j
    obtain ⟨q5, q6, q7, q8, q9, Y, h1, k⟩ := tie_turn c g t (by rw [hq]; simp) (.lst [.mref s.size, .mref s1.size]) X p5 p6 p7 p8 p9
    exact ⟨_, rfl, _, Y, h1, some (nat t.1), some (nat t.2), q5, q6, q7, q8, q9, rfl, kX.trans k⟩) (ρ := [some (enc c), some (.lst ((due c).map eP)), some (.lst [.mref s.size, .mref s1.size]), none, none, none, none, none, none, none, none]) (s := s3.push (.lst ((due c).map eP))) ⟨none, none, none, none, none, none, none, rfl, k3.push _⟩
  simp only [gv_0, gv_s, consA_ok, nilA_eq, Res.bind_ok, callD_ok, List.length_cons, List.length_nil, if_pos, law_counting_eq c g, asg_ok, List.set_cons_succ, List.set_cons_zero, sq_nx, tt, hs1, ck, asLst_ok, btR_ok, rr, cmpA_ok, rr2, ne_same, toB_ok, iteR_f, ixR_ok, told, recvR_at lo, ap, rr3, rr4, get3, seqI_tup, h1]
  rw [ret_ok rfl, Res.bind_ok]
  exact fin_rt kX rfl
end LK
set_option Elab.async false
set_option linter.all false
set_option maxRecDepth 100000
set_option maxHeartbeats 1000000
namespace LK
open PySem DL
/-! ### sizes of calls -/
theorem wd_natsT (n : Nat) (l : List Nat) (h : ∀ x ∈ l, x ≤ 100) (hl : l.length ≤ 8) : Wd (n + 2) 900 (.tup (l.map nat)) := by
  refine (wd_tup (n := n + 1) (B := 102) (L := 8) (fun d hd => ?_) (by rw [List.length_map]; exact hl)).mono (by omega)
  obtain ⟨x, hx, rfl⟩ := List.mem_map.mp hd
  exact wd_nat n x (h x hx)
theorem wd_eR (n : Nat) (r : Nat × List Nat) (h1 : r.1 ≤ 100) (h2 : ∀ x ∈ r.2, x ≤ 100) (hl : r.2.length ≤ 8) : Wd (n + 3) 1900 (eR r) := by
  refine (wd_tup (n := n + 2) (B := 900) (L := 2) (fun d hd => ?_) (by simp)).mono (by omega)
  simp only [List.mem_cons, List.not_mem_nil, or_false] at hd
  rcases hd with rfl | rfl
  · exact (wd_nat (n + 1) _ h1).mono (by omega)
  · exact wd_natsT n _ h2 hl
theorem wd_word (n : Nat) : Wd (n + 1) 16000 (.str "call") := ⟨rfl, by
  show 12 * (PySem.Str.length "call") + 2 ≤ 16000
  decide +kernel⟩
theorem wd_enc (n : Nat) (c : Call) (g : Good c) : Wd (n + 5) 70000 (enc c) := by
  refine (wd_tup (n := n + 4) (B := 16000) (L := 4) (fun d hd => ?_) (by simp)).mono (by omega)
  simp only [List.mem_cons, List.not_mem_nil, or_false] at hd
  rcases hd with rfl | rfl | rfl | rfl
  · exact wd_word _
  · refine (wd_pairsT (n + 1) _ (fun p hp => ?_) (by have := g.p8; omega)).mono (by omega)
    have := g.pl p hp
    omega
  · refine (wd_tup (n := n + 3) (B := 1900) (L := 8) (fun d hd => ?_) (by rw [List.length_map]; exact g.r8)).mono (by omega)
    obtain ⟨r, hr, rfl⟩ := List.mem_map.mp hd
    have h4 := g.rw r hr
    have p8 := g.p8
    exact wd_eR n r (by omega) (fun x hx => by have := g.rb r hr x hx; omega) (g.au8 hr)
  · refine (wd_pairsT (n + 1) _ (fun p hp => ?_) g.ties64).mono (by omega)
    have := g.tw p hp
    have := g.p8
    omega
theorem fits_nats1 (n : Nat) (l : List Nat) : fitsL (n + 1) (l.map nat) = true := fits_nats n l
theorem fits_eR (n : Nat) (r : Nat × List Nat) : fits (n + 3) (eR r) = true := by
  show (fits (n + 2) (nat r.1) && (fits (n + 2) (.tup (r.2.map nat)) && true)) = true
  rw [fits_natsT n r.2]
  rfl
theorem fits_enc (n : Nat) (c : Call) : fits (n + 5) (enc c) = true := by
  show (fits (n + 4) (.str "call") && (fits (n + 4) (.tup (c.people.map eP)) && (fits (n + 4) (.tup (c.papers.map eR)) && (fits (n + 4) (.tup (c.ties.map eP)) && true)))) = true
  rw [fits_tup_map (n := n + 3) (fun a _ => fits_eP (n := n + 1) a), fits_tup_map (n := n + 3) (fun a _ => fits_eR n a), fits_tup_map (n := n + 3) (fun a _ => fits_eP (n := n + 1) a)]
  show (PyData.strOk "call" && _) = true
  decide +kernel
theorem repr_fits {s : S} {d : D} (h : fits deep d = true) {B : Nat} (w : Wd deep B d) (hB : B ≤ 16000000) : callB .repr [d] s = .ok (.str (shown d)) s := repr_at (rsv_fits deep h) w hB
theorem pairs_small (c : Call) (g : Good c) : ∀ p ∈ pairsOf c, p.1 ≤ 100 ∧ p.2 ≤ 100 := fun p hp => by
  obtain ⟨i, q⟩ := p
  rw [mem_pairs] at hp
  have h2 := hp.2
  unfold whoOf at h2
  have := List.mem_range.mp (List.mem_filter.mp h2).1
  have := g.p8
  have := g.r8
  dsimp only
  omega
theorem wd_pl (n : Nat) (c : Call) (g : Good c) : Wd (n + 3) 14000 (.lst ((pairsOf c).map eP)) := wd_pairs n _ (pairs_small c g) (pairs_len c g)
/-! ### moved right -/
theorem pr_comm (a b : Nat) : pr a b = pr b a := by
  unfold pr
  rw [Nat.min_comm, Nat.max_comm]
theorem eqd_bls (a b : Bool) : eqd (.lst [.bl a, .bl b]) (.lst [.bl a, .bl b]) = true := by cases a <;> cases b <;> rfl
theorem filter_none {α : Type} {l : List α} {P : α → Bool} (h : ∀ x ∈ l, P x = false) : l.filter P = [] := List.filter_eq_nil_iff.mpr fun x hx => by
  rw [h x hx]
  decide
theorem moved_at (c : Call) (g : Good c) (one other : Nat) (h1 : one < c.people.length) (h2 : other < c.people.length) (ne : one ≠ other) (X : S) (k : Nat) (Q : Res Fl → Prop)
    (q : Q (.ok (.rt (.bl true)) X)) : Q (
  sq (iteR ((cmpA .Eq (gv 2 [some (.mref k), some (enc c), some (nat one), some (nat other), none, none, none, none, none, none, none, none, none, none, none] X) (fun s => gv 3 [some (.mref k), some (enc c), some (nat one), some (nat other), none, none, none, none, none, none, none, none, none, none, none] s)).bind toB) (fun s =>
    sq (retR (.ok (.bl true) s)) fun ρ s =>
    .ok (.nx ρ) s) (fun s =>
    .ok (.nx [some (.mref k), some (enc c), some (nat one), some (nat other), none, none, none, none, none, none, none, none, none, none, none]) s)) fun ρ s =>
  .ok (.rt (.bl true)) s) := by
  simp only [gv_0, gv_s, cmpA_ok, Res.bind_ok, nat_eq, ne, decide_false, toB_ok, iteR_f, sq_nx]
  exact q
theorem law_moved_right_eq (c : Call) (g : Good c) (s : S) (k : Nat) (P : Pot s k) : ∃ Y, F__law_moved_right [.mref k, enc c] s = .ok (.bl true) Y ∧ PE k s Y := by
  rw [f__law_moved_right]
  unfold S__law_moved_right
  have p1 := g.p1
  have p8 := g.p8
  obtain ⟨one, s1, e1, q1, l1⟩ := draw_eq s k P c.people.length p1 (by omega)
  obtain ⟨other, s2, e2, q2, l2⟩ := draw_eq s1 k (q1.pot P) c.people.length p1 (by omega)
  have pe := q1.trans q2
  simp only [gv_0, gv_s, ixR_ok, get1, consA_ok, nilA_eq, Res.bind_ok, btR_ok, len_tup, List.length_map, callD_ok, List.length_cons, List.length_nil, if_pos, e1, e2, asg_ok, List.set_cons_succ, List.set_cons_zero, sq_nx, cmpA_ok, nat_eq, toB_ok]
  by_cases ne : one = other
  · simp only [ne, decide_true, iteR_t]
    rw [ret_ok rfl, sq_rt, Res.bind_ok]
    exact pe.fin P rfl
  · have t12 := pr_good l1 l2 ne
    have gm := more_good g t12
    have gl := without_good g (pr one other)
    have wt := fun s => with_tie_eq c g one other l1 l2 (fun z => ne z.symm) s
    have wt2 : ∀ s, F_with_tie [enc c, nat other, nat one] s = .ok (enc (more c (pr one other))) s := fun s => by rw [pr_comm]; exact with_tie_eq c g other one l2 l1 ne s
    have wo := fun s => without_tie_eq c g one other l1 l2 (fun z => ne z.symm) s
    have wo2 : ∀ s, F_without_tie [enc c, nat other, nat one] s = .ok (enc (without c (pr one other))) s := fun s => by rw [pr_comm]; exact without_tie_eq c g other one l2 l1 ne s
    have ck1 : ∀ s, callK ["call", "person", "other"] ["other", "person", "call"] F_with_tie (Res.ok [] s) (fun s => Res.ok [nat one, nat other, enc c] s) = .ok (enc (more c (pr one other))) s := fun s => by
      rw [callK_ok (es := [nat one, nat other, enc c]) (fs := [enc c, nat other, nat one]) rfl rfl (by decide +kernel)]
      exact wt2 s
    have ck2 : ∀ s, callK ["call", "person", "other"] ["other", "person", "call"] F_without_tie (Res.ok [] s) (fun s => Res.ok [nat one, nat other, enc c] s) = .ok (enc (without c (pr one other))) s := fun s => by
      rw [callK_ok (es := [nat one, nat other, enc c]) (fs := [enc c, nat other, nat one]) rfl rfl (by decide +kernel)]
      exact wo2 s
    have tieD : D.tup [nat (min one other), nat (max one other)] = eP (pr one other) := rfl
    -- the call with a tie more, by hand
    have hm : ∀ s, (bin .Add (.ok (.tup (c.ties.map eP)) s) fun s => iteR (.ok (!decide (pr one other ∈ c.ties)) s) (fun s => tupR (Res.ok [eP (pr one other)] s)) (fun s => tupR (Res.ok [] s))) = .ok (.tup ((if pr one other ∈ c.ties then c.ties else c.ties ++ [pr one other]).map eP)) s := fun s => by
      have L := g.ties64
      by_cases z : pr one other ∈ c.ties
      · rw [decide_eq_true z, if_pos z, bin_ok]
        show (iteR (.ok false s) _ _).bind _ = _
        rw [iteR_f, tupR_ok, Res.bind_ok, add_tups, if_pos (le_line (by rw [List.length_map]; simp; omega)), List.append_nil]
      · rw [decide_eq_false z, if_neg z, bin_ok]
        show (iteR (.ok true s) _ _).bind _ = _
        rw [iteR_t, tupR_ok, Res.bind_ok, add_tups, if_pos (le_line (by rw [List.length_map]; simp; omega)), List.map_append]
        rfl
    have hs : sortBy eP (if pr one other ∈ c.ties then c.ties else c.ties ++ [pr one other]) = (more c (pr one other)).ties := by
      unfold more
      dsimp only
      by_cases z : pr one other ∈ c.ties
      · rw [if_pos z, if_pos z, sortP_id g.ts]
      · rw [if_neg z, if_neg z]
    have hm2 : ({ c with ties := (more c (pr one other)).ties } : Call) = more c (pr one other) := rfl
    generalize hM : more c (pr one other) = M at *
    generalize hW : without c (pr one other) = W at *
    have sub : ∀ x ∈ pairsOf M, x ∈ pairsOf W := by
      intro x hx
      refine pairs_mono (c := M) (d := W) ?_ ?_ ?_ hx
      · rw [← hM, ← hW]; rfl
      · rw [← hM, ← hW]; rfl
      · intro t ht
        rw [← hM, more_mem]
        rw [← hW] at ht
        exact .inl (sub_ties t ht)
    have dm : dealB M = true → dealB W = true := by
      refine deal_mono ?_ ?_ ?_
      · rw [← hM, ← hW]; rfl
      · rw [← hM, ← hW]; rfl
      · intro t ht
        rw [← hM, more_mem]
        rw [← hW] at ht
        exact .inl (sub_ties t ht)
    have f4 : fits deep (.lst [enc M, enc W, enc M, enc W]) = true := fitsL_all (n := 39).mpr fun d hd => by
      simp only [List.mem_cons, List.not_mem_nil, or_false] at hd
      rcases hd with rfl | rfl | rfl | rfl <;> exact fits_enc 34 _
    have w4 : Wd deep 300000 (.lst [enc M, enc W, enc M, enc W]) := (wd_lst (n := 39) (B := 70000) (L := 4) (fun d hd => by
      simp only [List.mem_cons, List.not_mem_nil, or_false] at hd
      rcases hd with rfl | rfl | rfl | rfl
      · exact wd_enc 34 _ gm
      · exact wd_enc 34 _ gl
      · exact wd_enc 34 _ gm
      · exact wd_enc 34 _ gl) (by simp)).mono (by omega)
    have r4 := fun s => repr_fits (s := s) f4 w4 (by decide)
    have f2 : fits deep (.lst [.lst ((pairsOf M).map eP), .lst ((pairsOf W).map eP)]) = true := fitsL_all (n := 39).mpr fun d hd => by
      simp only [List.mem_cons, List.not_mem_nil, or_false] at hd
      rcases hd with rfl | rfl <;> exact fits_lpairs 36 _
    have w2 : Wd deep 30000 (.lst [.lst ((pairsOf M).map eP), .lst ((pairsOf W).map eP)]) := (wd_lst (n := 39) (B := 14000) (L := 2) (fun d hd => by
      simp only [List.mem_cons, List.not_mem_nil, or_false] at hd
      rcases hd with rfl | rfl
      · exact wd_pl 36 _ gm
      · exact wd_pl 36 _ gl) (by simp)).mono (by omega)
    have r2 := fun s => repr_fits (s := s) f2 w2 (by decide)
    have i1 : ∀ s, cmpop .IsNot (.bl true) (.bl true) s = .ok (.bl false) s := fun s => rfl
    have L2 : (pairsOf M).length ≤ line := le_line (Nat.le_trans (pairs_len M gm) (by decide))
    have cm := fun o => comp_if (s := s2) (l := pairsOf M) (step := T__law_moved_right_0 [some (.mref k), some (enc c), some (nat one), some (nat other), some (eP (pr one other)), some (enc M), some (enc W), some (.lst [enc M, enc W, enc M, enc W]), some (.lst ((pairsOf M).map eP)), some (.lst ((pairsOf W).map eP)), o, none, none, none, none]) (e := eP) (g := eP) (p := fun x => !decide (x ∈ pairsOf W)) L2 fun x _ => by
      unfold T__law_moved_right_0
      simp only [toN_eq, wipeR_cons, wipeR_nil, List.set_cons_succ, List.set_cons_zero, stepR_some, gv_0, gv_s, Res.bind_ok, cmpA_ok, notin_pairsL, toB_ok]
      cases (!decide (x ∈ pairsOf W)) <;> simp
    rw [filter_none (P := fun x => !decide (x ∈ pairsOf W)) fun x hx => by rw [decide_eq_true (sub x hx)]; rfl] at cm
    have ne0 : cmpop .NotEq (.lst []) (.lst []) s2 = .ok (.bl false) s2 := rfl
    have cm2 := fun o => comp_map (s := s2) (l := [M, W]) (step := T__law_moved_right_1 [some (.mref k), some (enc c), some (nat one), some (nat other), some (eP (pr one other)), some (enc M), some (enc W), some (.lst [enc M, enc W, enc M, enc W]), some (.lst ((pairsOf M).map eP)), some (.lst ((pairsOf W).map eP)), none, o, none, none, none]) (e := fun c => .tup [lims c, lns (wantsOf c), mayD c]) (g := fun c => .bl (dealB c)) (le_line (by simp)) fun x hx => by
      have gx : Good x := by
        simp only [List.mem_cons, List.not_mem_nil, or_false] at hx
        rcases hx with rfl | rfl
        · exact gm
        · exact gl
      unfold T__law_moved_right_1
      simp only [bindTup_eq, setIs_cons, setIs_nil, wipeR_cons, wipeR_nil, List.set_cons_succ, List.set_cons_zero, stepR_some, yes_eq, Res.bind_ok, gv_0, gv_s, consA_ok, nilA_eq, callD_ok, List.length_cons, List.length_nil, if_pos, law_has_eq x gx]
    have cm2 : ∀ o, compR (.ok ⟨[.tup [lims M, lns (wantsOf M), mayD M], .tup [lims W, lns (wantsOf W), mayD W]], []⟩ s2) (T__law_moved_right_1 [some (.mref k), some (enc c), some (nat one), some (nat other), some (eP (pr one other)), some (enc M), some (enc W), some (.lst [enc M, enc W, enc M, enc W]), some (.lst ((pairsOf M).map eP)), some (.lst ((pairsOf W).map eP)), none, o, none, none, none]) = .ok [.bl (dealB M), .bl (dealB W)] s2 := cm2
    have eqo : cmpop .Eq (.lst [.bl (dealB M), .bl (dealB W)]) (.lst [.bl (dealB M), .bl (dealB W)]) s2 = .ok (.bl true) s2 := by
      rw [cmp_eq rfl rfl (fun _ _ h => by cases h), eqd_bls]
    have g0 : ∀ d s, getD (.lst [enc M, enc W, enc M, d]) (.int 0) s = .ok (enc M) s := fun _ _ => rfl
    have g1 : ∀ d s, getD (.lst [enc M, enc W, enc M, d]) (.int 1) s = .ok (enc W) s := fun _ _ => rfl
    simp only [ne, decide_false, iteR_f, sq_nx, gv_0, gv_s, consA_ok, nilA_eq, Res.bind_ok, btR_ok, min2, max2, tupR_ok, tieD, asg_ok, List.set_cons_succ, List.set_cons_zero, nopt_eq, optR_ok, cutR_ok, take3, bin_ok, ixR_ok, get3, cmpA_ok, notin_pairsT, toB_ok]
    have hm' := fun s => hm s
    simp only [bin_ok, tupR_ok] at hm'
    simp only [hm', Res.bind_ok, btR_ok, sorted_pairsT, hs, bt1_ok, tuple_lst, consA_ok, nilA_eq, tupR_ok, add1, hm2, asg_ok, List.set_cons_succ, List.set_cons_zero, sq_nx, gv_0, gv_s, callD_ok, List.length_cons, List.length_nil, if_pos, law_without_eq c g, hW, wt, wo, ck1, ck2, asLst_ok, r4, cmpA_ok, ne_same, toB_ok, orT_f, ixR_ok, g0, g1, is_call_eq M gm, i1, iteR_f, law_pairs_eq M gm, law_pairs_eq W gl, par_ok, setIs_cons, setIs_nil, nxR_ok, pairs_eq M gm, pairs_eq W gl, r2, seqI_lst, cm, List.map_nil, ne0, law_plain_eq M gm, law_plain_eq W gl, cm2, has_deal_eq M gm, has_deal_eq W gl, eqo, andD_t, get_l0, get_l1]
    have fin : ∃ Y, (DL.fin false s (.rt (.bl true)) s2) = .ok (.bl true) Y ∧ PE k s Y := pe.fin P rfl
    cases z : dealB M with
    | false =>
      simp only [andD_f, notR_ok, Bool.not_false]
      rw [ret_ok rfl, Res.bind_ok]
      exact fin
    | true =>
      rw [dm z]
      simp only [andD_t, notR_ok, Bool.not_true, Bool.not_false]
      rw [ret_ok rfl, Res.bind_ok]
      exact fin
end LK
set_option Elab.async false
set_option linter.all false
set_option maxRecDepth 100000
set_option maxHeartbeats 1000000
namespace LK
open PySem DL
/-! ### an author more, an author less -/
def edit (c : Call) (i : Nat) (au : List Nat) : Call := { c with papers := c.papers.set i (wantOf c i, au) }
theorem edit_good {c : Call} (g : Good c) {i : Nat} (hi : i < c.papers.length) {au : List Nat} (ha : au.Pairwise (· < ·)) (hb : ∀ a ∈ au, a < c.people.length) : Good (edit c i au) where
  p1 := g.p1
  p8 := g.p8
  pl := g.pl
  r1 := by show 1 ≤ (c.papers.set i _).length; rw [List.length_set]; exact g.r1
  r8 := by show (c.papers.set i _).length ≤ 8; rw [List.length_set]; exact g.r8
  rw := fun r hr => by
    rcases List.mem_or_eq_of_mem_set hr with q | rfl
    · exact g.rw r q
    · obtain ⟨w, hw, hm⟩ := g.at_ hi
      have e : wantOf c i = w := by unfold wantOf; rw [hw]; rfl
      rw [e]
      exact g.rw (w, auOf c i) hm
  ra := fun r hr => by
    rcases List.mem_or_eq_of_mem_set hr with q | rfl
    · exact g.ra r q
    · exact ha
  rb := fun r hr => by
    rcases List.mem_or_eq_of_mem_set hr with q | rfl
    · exact g.rb r q
    · exact hb
  tw := g.tw
  ts := g.ts
theorem auOf_edit {c : Call} {i : Nat} (hi : i < c.papers.length) (au : List Nat) (j : Nat) : auOf (edit c i au) j = if j = i then au else auOf c j := by
  unfold auOf edit
  dsimp only
  by_cases h : j = i
  · subst h
    rw [if_pos rfl, List.getElem?_set_self hi]
    rfl
  · rw [if_neg h, List.getElem?_set_ne (fun z => h z.symm)]
theorem bars_sub {c : Call} {au au2 : List Nat} (h : ∀ a ∈ au, a ∈ au2) (p : Nat) (e : (barsOf c au2 p).isEmpty = true) : (barsOf c au p).isEmpty = true := by
  unfold barsOf at *
  rw [List.isEmpty_iff, List.filter_eq_nil_iff] at *
  exact fun a ha => e a (h a ha)
/-- fewer authors, more pairs -/
theorem pairs_authors {c d : Call} (hp : c.people = d.people) (ht : c.ties = d.ties) (hl : d.papers.length = c.papers.length) (h : ∀ i, ∀ a ∈ auOf d i, a ∈ auOf c i) {x : Nat × Nat} (e : x ∈ pairsOf c) : x ∈ pairsOf d := by
  obtain ⟨i, p⟩ := x
  rw [mem_pairs] at *
  refine ⟨by rw [hl]; exact e.1, ?_⟩
  have e2 := e.2
  unfold whoOf at *
  rw [List.mem_filter] at *
  rw [← hp]
  refine ⟨e2.1, ?_⟩
  have := bars_sub (h i) p e2.2
  have bb : ∀ au, barsOf d au p = barsOf c au p := fun au => by
    unfold barsOf tied
    rw [ht]
  rw [bb]
  exact this
def twoC : Call := ⟨[(0, 1), (0, 1), (0, 1)], [(1, [0, 1])], [(0, 2), (1, 2)]⟩
theorem twoC_good : Good twoC where
  p1 := by decide
  p8 := by decide
  pl := by decide
  r1 := by decide
  r8 := by decide
  rw := by decide
  ra := by decide
  rb := by decide
  tw := by decide
  ts := by decide
theorem row_val {c : Call} {i : Nat} (h : i < c.papers.length) : c.papers[i]? = some (wantOf c i, auOf c i) := by
  unfold wantOf auOf
  rw [List.getElem?_eq_getElem h]
  rfl
theorem set_cut {α : Type} {l : List α} {i : Nat} {x : α} (h : i < l.length) : l.take i ++ [x] ++ l.drop (i + 1) = l.set i x := by
  rw [List.set_eq_take_append_cons_drop, if_pos h, List.append_assoc]
  rfl
theorem take2 (c : Call) (s : S) : cutD (enc c) none (some 2) s = .ok (.tup [.str "call", .tup (c.people.map eP)]) s := rfl
theorem drop3 (c : Call) (s : S) : cutD (enc c) (some 3) none s = .ok (.tup [.tup (c.ties.map eP)]) s := rfl
theorem law_authors_right_eq (c : Call) (g : Good c) (s : S) (k : Nat) (P : Pot s k) : ∃ Y, F__law_authors_right [.mref k, enc c] s = .ok (.bl true) Y ∧ PE k s Y := by
  rw [f__law_authors_right]
  unfold S__law_authors_right
  have p1 := g.p1
  have p8 := g.p8
  have r1 := g.r1
  have r8 := g.r8
  obtain ⟨i, s1, e1, q1, hi⟩ := draw_eq s k P c.papers.length r1 (by omega)
  obtain ⟨p, s2, e2, q2, hp⟩ := draw_eq s1 k (q1.pot P) c.people.length p1 (by omega)
  have pe := q1.trans q2
  have rv := row_val hi
  have rm : (wantOf c i, auOf c i) ∈ c.papers := List.mem_of_getElem? rv
  have au8 := g.au8 rm
  have ra := g.ra _ rm
  have rb := g.rb _ rm
  have au8 : (auOf c i).length ≤ 8 := au8
  have ra : (auOf c i).Pairwise (· < ·) := ra
  have rb : ∀ a ∈ auOf c i, a < c.people.length := rb
  have row : getD (.tup (c.papers.map eR)) (nat i) s2 = .ok (eR (wantOf c i, auOf c i)) s2 := get_map rv s2
  have as_ : asgU [tgN 4, tgN 5] 2 [some (.mref k), some (enc c), some (nat i), some (nat p), none, none, none, none, none, none, none, none, none] (.ok (eR (wantOf c i, auOf c i)) s2) = .ok (.nx [some (.mref k), some (enc c), some (nat i), some (nat p), some (nat (wantOf c i)), some (.tup ((auOf c i).map nat)), none, none, none, none, none, none, none]) s2 := rfl
  -- the authors behind the change
  let late : List Nat := if p ∈ auOf c i then (auOf c i).filter fun a => !decide (a = p) else sortBy nat (auOf c i ++ [p])
  have late_eq : late = if p ∈ auOf c i then (auOf c i).filter fun a => !decide (a = p) else sortBy nat (auOf c i ++ [p]) := rfl
  clear_value late
  have lateA : late.Pairwise (· < ·) := by
    rw [late_eq]
    by_cases z : p ∈ auOf c i
    · rw [if_pos z]
      exact ra.filter _
    · rw [if_neg z]
      refine sortN_asc ?_
      rw [List.nodup_append]
      refine ⟨ra.imp fun {a b} h e => by omega, by simp, ?_⟩
      intro a ha b hb e
      rw [List.mem_singleton] at hb
      rw [e, hb] at ha
      exact z ha
  have lateB : ∀ a ∈ late, a < c.people.length := by
    intro a ha
    rw [late_eq] at ha
    by_cases z : p ∈ auOf c i
    · rw [if_pos z] at ha
      exact rb a (List.mem_filter.mp ha).1
    · rw [if_neg z] at ha
      rw [(sortBy_perm _ _).mem_iff, List.mem_append, List.mem_singleton] at ha
      rcases ha with ha | rfl
      · exact rb a ha
      · exact hp
  have ge := edit_good g hi lateA lateB
  have sub : p ∉ auOf c i → ∀ x ∈ pairsOf (edit c i late), x ∈ pairsOf c := by
    intro z x hx
    refine pairs_authors (c := edit c i late) (d := c) rfl rfl (by show _ = (c.papers.set i _).length; rw [List.length_set]) ?_ hx
    intro j a ha
    rw [auOf_edit hi]
    by_cases hj : j = i
    · rw [if_pos hj, late_eq, if_neg z, (sortBy_perm _ _).mem_iff, List.mem_append]
      rw [hj] at ha
      exact .inl ha
    · rw [if_neg hj]
      exact ha
  have sub2 : p ∈ auOf c i → ∀ x ∈ pairsOf c, x ∈ pairsOf (edit c i late) := by
    intro z x hx
    refine pairs_authors (c := c) (d := edit c i late) rfl rfl (by show (c.papers.set i _).length = _; rw [List.length_set]) ?_ hx
    intro j a ha
    rw [auOf_edit hi] at ha
    by_cases hj : j = i
    · rw [if_pos hj, late_eq, if_pos z] at ha
      rw [hj]
      exact (List.mem_filter.mp ha).1
    · rw [if_neg hj] at ha
      exact ha
  have cm := fun o => comp_if (s := s2) (l := auOf c i) (step := T__law_authors_right_0 [some (.mref k), some (enc c), some (nat i), some (nat p), some (nat (wantOf c i)), some (.tup ((auOf c i).map nat)), none, o, none, none, none, none, none]) (e := nat) (g := nat) (p := fun a => !decide (a = p)) (le_line (by omega)) fun a _ => by
    unfold T__law_authors_right_0
    simp only [toN_eq, wipeR_cons, wipeR_nil, List.set_cons_succ, List.set_cons_zero, stepR_some, gv_0, gv_s, Res.bind_ok, cmpA_ok, nat_ne, toB_ok]
    cases (!decide (a = p)) <;> simp
  have ladd : binop .Add (.lst ((auOf c i).map nat)) (.lst [nat p]) s2 = .ok (.lst ((auOf c i ++ [p]).map nat)) s2 := by
    rw [add_lsts, if_pos (le_line (by rw [List.length_map]; simp; omega)), List.map_append]
    rfl
  have hl : iteR (.ok (!decide (p ∈ auOf c i)) s2) (fun s => bt1 .tuple (btR .sorted (consA (bin .Add (callB .list [.tup ((auOf c i).map nat)] s) fun s => .ok (.lst [nat p]) s) fun s => .ok [] s))) (fun s => bt1 .tuple (asLst (compR (.ok ⟨(auOf c i).map nat, []⟩ s) (T__law_authors_right_0 [some (.mref k), some (enc c), some (nat i), some (nat p), some (nat (wantOf c i)), some (.tup ((auOf c i).map nat)), none, none, none, none, none, none, none])))) = .ok (.tup (late.map nat)) s2 := by
    rw [late_eq]
    by_cases z : p ∈ auOf c i
    · rw [decide_eq_true z, if_pos z]
      show iteR (.ok false s2) _ _ = _
      rw [iteR_f, cm]
      rfl
    · rw [decide_eq_false z, if_neg z]
      show iteR (.ok true s2) _ _ = _
      rw [iteR_t]
      simp only [list_tup, Res.bind_ok, bin_ok, ladd, consA_ok, btR_ok, sorted_natsL, bt1_ok, tuple_lst]
  have tk : cutD (.tup (c.papers.map eR)) none (some (i : Nat)) s2 = .ok (.tup ((c.papers.take i).map eR)) s2 := by rw [cut_take, List.map_take]
  have dk : cutD (.tup (c.papers.map eR)) (some ((i + 1 : Nat) : Int)) none s2 = .ok (.tup ((c.papers.drop (i + 1)).map eR)) s2 := by rw [cut_drop, List.map_drop]
  have rowD : D.tup [nat (wantOf c i), .tup (late.map nat)] = eR (wantOf c i, late) := rfl
  have a1 : binop .Add (.tup ((c.papers.take i).map eR)) (.tup [eR (wantOf c i, late)]) s2 = .ok (.tup ((c.papers.take i ++ [(wantOf c i, late)]).map eR)) s2 := by
    rw [add_tups, if_pos (le_line (by rw [List.length_map, List.length_take]; simp; omega)), List.map_append]
    rfl
  have a2 : binop .Add (.tup ((c.papers.take i ++ [(wantOf c i, late)]).map eR)) (.tup ((c.papers.drop (i + 1)).map eR)) s2 = .ok (.tup ((c.papers.set i (wantOf c i, late)).map eR)) s2 := by
    rw [add_tups, if_pos (le_line (by rw [List.length_map, List.length_map, List.length_append, List.length_take, List.length_drop]; simp; omega)), ← List.map_append, set_cut hi]
  have a3 : binop .Add (.tup [.str "call", .tup (c.people.map eP)]) (.tup [.tup ((c.papers.set i (wantOf c i, late)).map eR)]) s2 = .ok (.tup [.str "call", .tup (c.people.map eP), .tup ((c.papers.set i (wantOf c i, late)).map eR)]) s2 := by
    rw [add_tups, if_pos (le_line (by simp only [List.length_cons, List.length_nil]; omega))]
    rfl
  have a4 : binop .Add (.tup [.str "call", .tup (c.people.map eP), .tup ((c.papers.set i (wantOf c i, late)).map eR)]) (.tup [.tup (c.ties.map eP)]) s2 = .ok (enc (edit c i late)) s2 := by
    rw [add_tups, if_pos (le_line (by simp only [List.length_cons, List.length_nil]; omega))]
    rfl
  generalize hE : edit c i late = E at *
  have rE := repr_fits (s := s2) (fits_lpairs 37 (pairsOf E)) (wd_pl 37 E ge) (by decide)
  have ne0 : cmpop .NotEq (.lst []) (.lst []) s2 = .ok (.bl false) s2 := rfl
  -- which of both is nearer
  obtain ⟨A, B, hAB, gA, gB, sAB⟩ : ∃ A B : Call, iteR (.ok (!decide (p ∈ auOf c i)) s2) (fun s => .ok (D.tup [.lst ((pairsOf E).map eP), .lst ((pairsOf c).map eP)]) s) (fun s => .ok (D.tup [.lst ((pairsOf c).map eP), .lst ((pairsOf E).map eP)]) s) = .ok (D.tup [.lst ((pairsOf A).map eP), .lst ((pairsOf B).map eP)]) s2 ∧ Good A ∧ Good B ∧ ∀ x ∈ pairsOf A, x ∈ pairsOf B := by
    by_cases z : p ∈ auOf c i
    · refine ⟨c, E, ?_, g, ge, sub2 z⟩
      rw [decide_eq_true z]
      show iteR (.ok false s2) _ _ = _
      rw [iteR_f]
    · refine ⟨E, c, ?_, ge, g, sub z⟩
      rw [decide_eq_false z]
      show iteR (.ok true s2) _ _ = _
      rw [iteR_t]
  have as2 : ∀ o8, asgU [tgN 9, tgN 10] 2 [some (.mref k), some (enc c), some (nat i), some (nat p), some (nat (wantOf c i)), some (.tup ((auOf c i).map nat)), some (.tup (late.map nat)), none, o8, none, none, none, none] (.ok (.tup [.lst ((pairsOf A).map eP), .lst ((pairsOf B).map eP)]) s2) = .ok (.nx [some (.mref k), some (enc c), some (nat i), some (nat p), some (nat (wantOf c i)), some (.tup ((auOf c i).map nat)), some (.tup (late.map nat)), none, o8, some (.lst ((pairsOf A).map eP)), some (.lst ((pairsOf B).map eP)), none, none]) s2 := fun _ => rfl
  have cm2 := comp_if (s := s2) (l := pairsOf A) (step := T__law_authors_right_1 [some (.mref k), some (enc c), some (nat i), some (nat p), some (nat (wantOf c i)), some (.tup ((auOf c i).map nat)), some (.tup (late.map nat)), none, some (enc E), some (.lst ((pairsOf A).map eP)), some (.lst ((pairsOf B).map eP)), none, none]) (e := eP) (g := eP) (p := fun x => !decide (x ∈ pairsOf B)) (le_line (Nat.le_trans (pairs_len A gA) (by decide))) fun x _ => by
    unfold T__law_authors_right_1
    simp only [toN_eq, wipeR_cons, wipeR_nil, List.set_cons_succ, List.set_cons_zero, stepR_some, gv_0, gv_s, Res.bind_ok, cmpA_ok, notin_pairsL, toB_ok]
    cases (!decide (x ∈ pairsOf B)) <;> simp
  rw [filter_none (P := fun x => !decide (x ∈ pairsOf B)) fun x hx => by rw [decide_eq_true (sAB x hx)]; rfl] at cm2
  have two3 : binop .Mult (.tup [.tup [.int 0, .int 1]]) (.int 3) s2 = .ok (.tup [.tup [.int 0, .int 1], .tup [.int 0, .int 1], .tup [.int 0, .int 1]]) s2 := rfl
  have twoD : D.tup [.str "call", .tup [.tup [.int 0, .int 1], .tup [.int 0, .int 1], .tup [.int 0, .int 1]], .tup [.tup [.int 1, .tup [.int 0, .int 1]]], .tup [.tup [.int 0, .int 2], .tup [.int 1, .int 2]]] = enc twoC := rfl
  have t1 := ties_that_count_eq twoC twoC_good s2
  rw [show counting twoC = [] from by decide] at t1
  have t2 := fun s => pairs_eq twoC twoC_good s
  rw [show pairsOf twoC = [] from by decide] at t2
  have t3 : ∀ s, F_without_tie [enc twoC, .int 2, .int 0] s = .ok (enc (without twoC (pr 2 0))) s := fun s => without_tie_eq twoC twoC_good 2 0 (by decide) (by decide) (by decide) s
  have t4 := fun s => pairs_eq (without twoC (pr 2 0)) (without_good twoC_good _) s
  rw [show pairsOf (without twoC (pr 2 0)) = [] from by decide] at t4
  have t5 : ∀ s, F_bars [enc twoC, .int 0, .int 2] s = .ok (.lst [.int 0, .int 1]) s := fun s => by
    have := bars_eq twoC twoC_good 0 2 (by decide) (by decide) s
    rw [show barsOf twoC (auOf twoC 0) 2 = [0, 1] from by decide] at this
    exact this
  rw [List.map_nil] at t1 t2 t4
  have fr := ((Fr.start P).pe pe).push []
  have z2 : s2.size = s.size := pe.sz
  generalize hs3 : s2.push (.lst []) = s3 at *
  have rs : rsv s3 deep (.lst [.mref s2.size, .lst [], .lst [], .lst [.int 0, .int 1]]) = some (.lst [.lst [], .lst [], .lst [], .lst [.int 0, .int 1]]) := by
    show (match mapO (rsv s3 39) [.mref s2.size, .lst [], .lst [], .lst [.int 0, .int 1]] with
      | some es => some (D.lst es)
      | none => none) = _
    have b1 : rsv s3 39 (.mref s2.size) = some (.lst []) := rsv_at (n := 38) (by rw [← hs3]; exact push_get) rfl
    unfold mapO
    rw [b1]
    rfl
  have w : Wd deep 100000 (.lst [.lst [], .lst [], .lst [], .lst [.int 0, .int 1]]) := ⟨rfl, by decide +kernel⟩
  have ra := repr_at rs w (by decide)
  have rb2 := repr_at (s := s3) (rsv_fits deep (d := .lst [.lst [], .lst [], .lst [], .lst [.int 0, .int 1]]) rfl) w (by decide)
  simp only [gv_0, gv_s, ixR_ok, get2, get1, consA_ok, nilA_eq, Res.bind_ok, btR_ok, len_tup, List.length_map, callD_ok, List.length_cons, List.length_nil, if_pos, e1, e2, par_ok, setIs_cons, setIs_nil, nxR_ok, List.set_cons_succ, List.set_cons_zero, sq_nx, row, as_, cmpA_ok, nat_notin_tup, toB_ok, bt1_ok, seqI_tup]
  simp only [asLst_ok, hl, asg_ok, List.set_cons_succ, List.set_cons_zero, sq_nx, gv_0, gv_s, nopt_eq, optR_ok, cutR_ok, Res.bind_ok, take2, ixR_ok, get2, tk, bin_ok, consA_ok, nilA_eq, tupR_ok, rowD, a1, add_one, dk, a2, a3, drop3, a4, cmpA_ok, nat_notin_tup, toB_ok, callD_ok, List.length_cons, List.length_nil, if_pos, pairs_eq E ge, pairs_eq c g, hAB, as2, btR_ok, rE, law_pairs_eq E ge, ne_same, orT_f, seqI_lst, cm2, List.map_nil, ne0, iteR_f, two3, twoD, t1, t2, t3, t4, t5, ra, rb2, eq_same]
  rw [ret_ok rfl, Res.bind_ok]
  exact fr.fin rfl
end LK
set_option Elab.async false
set_option linter.all false
set_option maxRecDepth 100000
set_option maxHeartbeats 1000000
namespace LK
open PySem DL
theorem turn_right (k : Nat) (X : S) (P : Pot X k) (o1 o2 o3 : Option D) : ∃ (q2 q3 : Option D) (Y : S), L__law_right_0 [some (.mref k), o1, o2, o3] X = .ok (.nx [some (.mref k), o1, q2, q3]) Y ∧ PE k X Y := by
  unfold L__law_right_0
  obtain ⟨c, s1, e1, q1, g⟩ := tied_call_eq X k P
  have P1 := q1.pot P
  obtain ⟨s2, e2, q2⟩ := law_moved_right_eq c g s1 k P1
  have P2 := q2.pot P1
  obtain ⟨s3, e3, q3⟩ := law_authors_right_eq c g s2 k P2
  have r := fun s => repr_fits (s := s) (fits_enc 35 c) (wd_enc 35 c g) (by decide)
  refine ⟨some (enc c), some (.str (shown (enc c))), s3, ?_, (q1.trans q2).trans q3⟩
  simp only [gv_0, gv_s, consA_ok, nilA_eq, Res.bind_ok, callD_ok, List.length_cons, List.length_nil, if_pos, e1, asg_ok, List.set_cons_succ, List.set_cons_zero, sq_nx, btR_ok, r, law_ties_right_eq c g, evTruth_bl, notT_ok, Bool.not_true, orT_f, e2, e3, cmpA_ok, ne_same, toB_ok, iteR_f]
theorem law_right_eq (k : Nat) (s : S) (P : Pot s k) : ∃ Y, F__law_right [.mref k] s = .ok (.bl true) Y := by
  rw [f__law_right]
  unfold S__law_right
  have r4 : rngI (.ok ((0 : Int), (4 : Int)) s) = .ok ⟨(List.range 4).map nat, []⟩ s := rng_nat (n := 4) (le_line (by decide))
  obtain ⟨ρ', X, h1, o1, o2, o3, rfl, px⟩ := for_st (e := nat) (l := List.range 4) (to := fun d ρ => toN 1 d ρ) (B := L__law_right_0) (J := fun p ρ X => ∃ (o1 o2 o3 : Option D), ρ = [some (.mref k), o1, o2, o3] ∧ PE k s X) (fun p x q hq ρ X j => by
    obtain ⟨o1, o2, o3, rfl, pe⟩ := j
    obtain ⟨q2, q3, Y, h1, h2⟩ := turn_right k X (pe.pot P) (some (nat x)) o2 o3
    exact ⟨_, rfl, _, Y, h1, some (nat x), q2, q3, rfl, pe.trans h2⟩) (ρ := [some (.mref k), none, none, none]) (s := s) ⟨none, none, none, rfl, PE.refl k s⟩
  simp only [rng1_ok, r4, h1, sq_nx]
  rw [ret_ok rfl, Res.bind_ok]
  obtain ⟨Y, e, _⟩ := px.fin P (d := .bl true) rfl
  exact ⟨Y, e⟩
theorem law_pot_eq (ns : List Int) (j : Nat) (s : S) : ∃ Y, F__law_pot [.fix (ns.map D.int), nat j] s = .ok (.mref s.size) Y ∧ Pot Y s.size := by
  rw [f__law_pot]
  unfold S__law_pot
  have ln : callB .len [.fix (ns.map D.int)] s = .ok (nat ns.length) s := by
    show (.ok (.int ((ns.map D.int).length : Nat)) s : Res D) = _
    rw [List.length_map]
  have m1 : binop .Mult (.int 2003) (nat j) s = .ok (.int (2003 * j)) s := by
    rw [mul_ints, if_pos]
    unfold mulOk
    rw [Bool.or_eq_true, Bool.or_eq_true]
    exact .inl (.inl (by decide))
  have m3 : binop .Mult (.int 8923) (nat j) s = .ok (.int (8923 * j)) s := by
    rw [mul_ints, if_pos]
    unfold mulOk
    rw [Bool.or_eq_true, Bool.or_eq_true]
    exact .inl (.inl (by decide))
  have m2 : ∀ x, binop .Mult (.int x) (.int 41351) s = .ok (.int (x * 41351)) s := fun x => by
    rw [mul_ints, if_pos]
    unfold mulOk
    rw [Bool.or_eq_true, Bool.or_eq_true]
    exact .inl (.inr (by decide))
  have d1 : ∀ x, binop .Mod (.int x) (.int 2147483549) s = .ok (.int (x.fmod 2147483549)) s := fun x => by
    rw [mod_ints, if_pos (by decide)]
  have d2 : ∀ x, binop .Mod (.int x) (.int 2147483563) s = .ok (.int (x.fmod 2147483563)) s := fun x => by
    rw [mod_ints, if_pos (by decide)]
  have pw : binop .Pow (.int 10) (.int 18) s = .ok (.int (10 ^ 18)) s := by
    rw [pow_ints, if_pos (by decide)]
    rfl
  have mx : ∀ x : Int, ∃ y : Int, callB .max [.int 0, .int x] s = .ok (.int y) s ∧ 0 ≤ y := fun x => by
    refine ⟨if x > 0 then x else 0, rfl, ?_⟩
    split <;> omega
  have cell : ∃ x : Int, iteR (.ok (decide (j < ns.length)) s) (fun s => (getD (.fix (ns.map D.int)) (nat j) s).bind fun d s => callB .abs [d] s) (fun s => (binop .Mult (.int 2003) (nat j) s).bind fun x s => binop .Add x (.int 1163) s) = .ok (.int x) s := by
    by_cases h : j < ns.length
    · rw [decide_eq_true h, iteR_t]
      have gd : getD (.fix (ns.map D.int)) (nat j) s = .ok (.int ns[j]) s := by
        show (match pick (ns.map D.int) ((j : Nat) : Int) with
          | some d => .ok d s
          | none => .stuck : Res D) = _
        rw [pick_map ns D.int j (List.getElem?_eq_getElem h)]
      rw [gd, Res.bind_ok]
      exact ⟨_, rfl⟩
    · rw [decide_eq_false h, iteR_f, m1, Res.bind_ok, add_ints]
      exact ⟨_, rfl⟩
  obtain ⟨x, cell⟩ := cell
  obtain ⟨y, mx, y0⟩ := mx (x - 10 ^ 18)
  generalize hz : (((x.fmod 2147483549) * 41351 + 8923 * j + 907).fmod 2147483563) = z
  have z1 : 0 ≤ z := by rw [← hz]; exact Int.fmod_nonneg_of_pos _ (by decide)
  have z2 : z < 2147483563 := by
    rw [← hz, Int.fmod_eq_emod_of_nonneg _ (by decide)]
    exact Int.emod_lt_of_pos _ (by decide)
  refine ⟨s.push (.lst [.int y, .int (z + 1)]), ?_, y, z + 1, push_get, y0, by omega, by omega⟩
  have cell2 : (iteR (.ok (decide (j < ns.length)) s) (fun s => btR .abs (consA (getD (.fix (ns.map D.int)) (nat j) s) fun s => .ok [] s)) (fun s => bin .Add (binop .Mult (.int 2003) (nat j) s) fun s => .ok (.int 1163) s)) = .ok (.int x) s := by
    by_cases h : j < ns.length
    · rw [decide_eq_true h, iteR_t] at cell ⊢
      revert cell
      cases getD (.fix (ns.map D.int)) (nat j) s with
      | ok d s' => exact fun h => h
      | err e s' => exact fun h => by cases h
      | stuck => exact fun h => by cases h
    · rw [decide_eq_false h, iteR_f] at cell ⊢
      rw [m1] at cell ⊢
      exact cell
  simp only [gv_0, gv_s, consA_ok, nilA_eq, Res.bind_ok, btR_ok, ln, cmpA_ok, nat_lt, toB_ok, ixR_ok, bin_ok]
  rw [cell2]
  simp only [asg_ok, List.set_cons_succ, List.set_cons_zero, sq_nx, gv_0, gv_s, bin_ok, pw, Res.bind_ok, sub_ints, consA_ok, btR_ok, mx, int_int, d1, m2, m3, add_ints, d2, hz, thawR_ok, retK_ok, sq_rt]
  rfl
theorem law_true : ∀ ns : List Int, ns.length ≤ LW.most.getD 0 → (∀ z ∈ ns, Builtin.Int.intBits z ≤ 1048576) → ∃ t, F_law [.fix (ns.map D.int)] ⟨[]⟩ = .ok (.bl true) t := by
  intro ns hn _
  rw [f_law]
  unfold S_law
  have hn : ns.length ≤ 63 := hn
  have ln : ∀ s, callB .len [.fix (ns.map D.int)] s = .ok (nat ns.length) s := fun s => by
    show (.ok (.int ((ns.map D.int).length : Nat)) s : Res D) = _
    rw [List.length_map]
  have mn : ∀ s, callB .min [.int 2, nat ns.length] s = .ok (nat (min 2 ns.length)) s := fun s => min2 2 ns.length s
  have mx : ∀ s, callB .max [.int 1, nat (min 2 ns.length)] s = .ok (nat (max 1 (min 2 ns.length))) s := fun s => max2 1 _ s
  have L : max 1 (min 2 ns.length) ≤ line := le_line (by omega)
  obtain ⟨l', s', c1, _, hk, _⟩ := comp_each (β := Nat) (e := nat) (g := fun _ => .bl true) (k := id) (Q := fun _ => True) (T := fun _ _ => True) (step := T_law_0 [some (.fix (ns.map D.int)), none]) (fun _ => trivial) (fun _ _ _ _ _ => trivial) ⟨[]⟩ (l := List.range (max 1 (min 2 ns.length))) (s := ⟨[]⟩) trivial fun x _ Z _ => by
    obtain ⟨Y, h1, P⟩ := law_pot_eq ns x Z
    obtain ⟨W, h2⟩ := law_right_eq _ Y P
    refine ⟨x, W, ?_, trivial, rfl, trivial⟩
    unfold T_law_0
    simp only [toN_eq, wipeR_cons, wipeR_nil, List.set_cons_succ, List.set_cons_zero, stepR_some, yes_eq, gv_0, gv_s, consA_ok, nilA_eq, Res.bind_ok, callD_ok, List.length_cons, List.length_nil, if_pos, h1, h2]
  have c2 := compR_of (e := nat) (by rw [List.length_range]; exact L) c1
  have a1 := all_bls (fun _ => true) l' s'
  simp only [gv_0, gv_s, consA_ok, nilA_eq, Res.bind_ok, btR_ok, ln, mn, mx, rng1_ok, rng_nat L, c2, asLst_ok, a1, all_true]
  rw [ret_ok rfl, Res.bind_ok]
  exact ⟨_, rfl⟩
end LK
set_option maxHeartbeats 0
namespace LK
open PySem PySem.Spec PyProof.Rows L2 DL
theorem k_is_integer : b_is_integer.all ((ck c_is_integer 60).X (defScope (top 1)) (defScope (top 1))) = true := by kernel_rfl
theorem s_is_integer : FnScope c_is_integer.N ["value"] (defScope (top 1)) := ⟨rfl, rfl, rfl, by decide +kernel, rfl, by decide +kernel, by decide +kernel⟩
theorem p_is_integer : plainPs (defArgs (top 1)) ["value"] = true := by kernel_rfl
theorem k_are_tied : b_are_tied.all ((ck c_are_tied 60).X (defScope (top 27)) (defScope (top 27))) = true := by kernel_rfl
theorem s_are_tied : FnScope c_are_tied.N ["call", "one", "other"] (defScope (top 27)) := ⟨rfl, rfl, rfl, by decide +kernel, rfl, by decide +kernel, by decide +kernel⟩
theorem p_are_tied : plainPs (defArgs (top 27)) ["call", "one", "other"] = true := by kernel_rfl
theorem k_sums_by_lots : b_sums_by_lots.all ((ck c_sums_by_lots 60).X (defScope (top 38)) (defScope (top 38))) = true := by kernel_rfl
theorem s_sums_by_lots : FnScope c_sums_by_lots.N ["lists", "width"] (defScope (top 38)) := ⟨rfl, rfl, rfl, by decide +kernel, rfl, by decide +kernel, by decide +kernel⟩
theorem p_sums_by_lots : plainPs (defArgs (top 38)) ["lists", "width"] = true := by kernel_rfl
theorem k_totals_by_lots : b_totals_by_lots.all ((ck c_totals_by_lots 60).X (defScope (top 39)) (defScope (top 39))) = true := by kernel_rfl
theorem s_totals_by_lots : FnScope c_totals_by_lots.N ["numbers"] (defScope (top 39)) := ⟨rfl, rfl, rfl, by decide +kernel, rfl, by decide +kernel, by decide +kernel⟩
theorem p_totals_by_lots : plainPs (defArgs (top 39)) ["numbers"] = true := by kernel_rfl
theorem k_turned_may : b_turned_may.all ((ck c_turned_may 60).X (defScope (top 40)) (defScope (top 40))) = true := by kernel_rfl
theorem s_turned_may : FnScope c_turned_may.N ["asked"] (defScope (top 40)) := ⟨rfl, rfl, rfl, by decide +kernel, rfl, by decide +kernel, by decide +kernel⟩
theorem p_turned_may : plainPs (defArgs (top 40)) ["asked"] = true := by kernel_rfl
theorem k_tie_between : b_tie_between.all ((ck c_tie_between 60).X (defScope (top 46)) (defScope (top 46))) = true := by kernel_rfl
theorem s_tie_between : FnScope c_tie_between.N ["one", "other"] (defScope (top 46)) := ⟨rfl, rfl, rfl, by decide +kernel, rfl, by decide +kernel, by decide +kernel⟩
theorem p_tie_between : plainPs (defArgs (top 46)) ["one", "other"] = true := by kernel_rfl
theorem k__law_pot : b__law_pot.all ((ck c__law_pot 60).X (defScope (top 50)) (defScope (top 50))) = true := by kernel_rfl
theorem s__law_pot : FnScope c__law_pot.N ["script", "k"] (defScope (top 50)) := ⟨rfl, rfl, rfl, by decide +kernel, rfl, by decide +kernel, by decide +kernel⟩
theorem p__law_pot : plainPs (defArgs (top 50)) ["script", "k"] = true := by kernel_rfl
theorem k__law_draw : b__law_draw.all ((ck c__law_draw 60).X (defScope (top 51)) (defScope (top 51))) = true := by kernel_rfl
theorem s__law_draw : FnScope c__law_draw.N ["pot", "many"] (defScope (top 51)) := ⟨rfl, rfl, rfl, by decide +kernel, rfl, by decide +kernel, by decide +kernel⟩
theorem p__law_draw : plainPs (defArgs (top 51)) ["pot", "many"] = true := by kernel_rfl
theorem k__law_is_near : b__law_is_near.all ((ck c__law_is_near 60).X (defScope (top 54)) (defScope (top 54))) = true := by kernel_rfl
theorem s__law_is_near : FnScope c__law_is_near.N ["call", "one", "other"] (defScope (top 54)) := ⟨rfl, rfl, rfl, by decide +kernel, rfl, by decide +kernel, by decide +kernel⟩
theorem p__law_is_near : plainPs (defArgs (top 54)) ["call", "one", "other"] = true := by kernel_rfl
theorem k__law_lots : b__law_lots.all ((ck c__law_lots 60).X (defScope (top 57)) (defScope (top 57))) = true := by kernel_rfl
theorem s__law_lots : FnScope c__law_lots.N ["some"] (defScope (top 57)) := ⟨rfl, rfl, rfl, by decide +kernel, rfl, by decide +kernel, by decide +kernel⟩
theorem p__law_lots : plainPs (defArgs (top 57)) ["some"] = true := by kernel_rfl
theorem k__law_without : b__law_without.all ((ck c__law_without 60).X (defScope (top 61)) (defScope (top 61))) = true := by kernel_rfl
theorem s__law_without : FnScope c__law_without.N ["call", "tie"] (defScope (top 61)) := ⟨rfl, rfl, rfl, by decide +kernel, rfl, by decide +kernel, by decide +kernel⟩
theorem p__law_without : plainPs (defArgs (top 61)) ["call", "tie"] = true := by kernel_rfl
theorem k_is_count : b_is_count.all ((ck c_is_count 60).X (defScope (top 2)) (defScope (top 2))) = true := by kernel_rfl
theorem s_is_count : FnScope c_is_count.N ["value"] (defScope (top 2)) := ⟨rfl, rfl, rfl, by decide +kernel, rfl, by decide +kernel, by decide +kernel⟩
theorem p_is_count : plainPs (defArgs (top 2)) ["value"] = true := by kernel_rfl
theorem k_is_position : b_is_position.all ((ck c_is_position 60).X (defScope (top 3)) (defScope (top 3))) = true := by kernel_rfl
theorem s_is_position : FnScope c_is_position.N ["value", "many"] (defScope (top 3)) := ⟨rfl, rfl, rfl, by decide +kernel, rfl, by decide +kernel, by decide +kernel⟩
theorem p_is_position : plainPs (defArgs (top 3)) ["value", "many"] = true := by kernel_rfl
theorem k_bars_of : b_bars_of.all ((ck c_bars_of 60).X (defScope (top 28)) (defScope (top 28))) = true := by kernel_rfl
theorem s_bars_of : FnScope c_bars_of.N ["call", "paper", "person"] (defScope (top 28)) := ⟨rfl, rfl, rfl, by decide +kernel, rfl, by decide +kernel, by decide +kernel⟩
theorem p_bars_of : plainPs (defArgs (top 28)) ["call", "paper", "person"] = true := by kernel_rfl
theorem k_can_be_dealt : b_can_be_dealt.all ((ck c_can_be_dealt 60).X (defScope (top 41)) (defScope (top 41))) = true := by kernel_rfl
theorem s_can_be_dealt : FnScope c_can_be_dealt.N ["asked"] (defScope (top 41)) := ⟨rfl, rfl, rfl, by decide +kernel, rfl, by decide +kernel, by decide +kernel⟩
theorem p_can_be_dealt : plainPs (defArgs (top 41)) ["asked"] = true := by kernel_rfl
theorem k__law_pick : b__law_pick.all ((ck c__law_pick 60).X (defScope (top 52)) (defScope (top 52))) = true := by kernel_rfl
theorem s__law_pick : FnScope c__law_pick.N ["pot", "some"] (defScope (top 52)) := ⟨rfl, rfl, rfl, by decide +kernel, rfl, by decide +kernel, by decide +kernel⟩
theorem p__law_pick : plainPs (defArgs (top 52)) ["pot", "some"] = true := by kernel_rfl
theorem k__law_who : b__law_who.all ((ck c__law_who 60).X (defScope (top 55)) (defScope (top 55))) = true := by kernel_rfl
theorem s__law_who : FnScope c__law_who.N ["call", "paper"] (defScope (top 55)) := ⟨rfl, rfl, rfl, by decide +kernel, rfl, by decide +kernel, by decide +kernel⟩
theorem p__law_who : plainPs (defArgs (top 55)) ["call", "paper"] = true := by kernel_rfl
theorem k__law_has : b__law_has.all ((ck c__law_has 60).X (defScope (top 59)) (defScope (top 59))) = true := by kernel_rfl
theorem s__law_has : FnScope c__law_has.N ["limits", "wants", "who"] (defScope (top 59)) := ⟨rfl, rfl, rfl, by decide +kernel, rfl, by decide +kernel, by decide +kernel⟩
theorem p__law_has : plainPs (defArgs (top 59)) ["limits", "wants", "who"] = true := by kernel_rfl
theorem k_is_rising_tuple : b_is_rising_tuple.all ((ck c_is_rising_tuple 60).X (defScope (top 15)) (defScope (top 15))) = true := by kernel_rfl
theorem s_is_rising_tuple : FnScope c_is_rising_tuple.N ["value", "many"] (defScope (top 15)) := ⟨rfl, rfl, rfl, by decide +kernel, rfl, by decide +kernel, by decide +kernel⟩
theorem p_is_rising_tuple : plainPs (defArgs (top 15)) ["value", "many"] = true := by kernel_rfl
theorem k_person_is_right : b_person_is_right.all ((ck c_person_is_right 60).X (defScope (top 16)) (defScope (top 16))) = true := by kernel_rfl
theorem s_person_is_right : FnScope c_person_is_right.N ["value"] (defScope (top 16)) := ⟨rfl, rfl, rfl, by decide +kernel, rfl, by decide +kernel, by decide +kernel⟩
theorem p_person_is_right : plainPs (defArgs (top 16)) ["value"] = true := by kernel_rfl
theorem k_who_of : b_who_of.all ((ck c_who_of 60).X (defScope (top 29)) (defScope (top 29))) = true := by kernel_rfl
theorem s_who_of : FnScope c_who_of.N ["call", "paper"] (defScope (top 29)) := ⟨rfl, rfl, rfl, by decide +kernel, rfl, by decide +kernel, by decide +kernel⟩
theorem p_who_of : plainPs (defArgs (top 29)) ["call", "paper"] = true := by kernel_rfl
theorem k__law_call_of : b__law_call_of.all ((ck c__law_call_of 60).X (defScope (top 53)) (defScope (top 53))) = true := by kernel_rfl
theorem s__law_call_of : FnScope c__law_call_of.N ["pot", "people", "papers"] (defScope (top 53)) := ⟨rfl, rfl, rfl, by decide +kernel, rfl, by decide +kernel, by decide +kernel⟩
theorem p__law_call_of : plainPs (defArgs (top 53)) ["pot", "people", "papers"] = true := by kernel_rfl
theorem k__law_pairs : b__law_pairs.all ((ck c__law_pairs 60).X (defScope (top 56)) (defScope (top 56))) = true := by kernel_rfl
theorem s__law_pairs : FnScope c__law_pairs.N ["call"] (defScope (top 56)) := ⟨rfl, rfl, rfl, by decide +kernel, rfl, by decide +kernel, by decide +kernel⟩
theorem p__law_pairs : plainPs (defArgs (top 56)) ["call"] = true := by kernel_rfl
theorem k__law_plain : b__law_plain.all ((ck c__law_plain 60).X (defScope (top 58)) (defScope (top 58))) = true := by kernel_rfl
theorem s__law_plain : FnScope c__law_plain.N ["call"] (defScope (top 58)) := ⟨rfl, rfl, rfl, by decide +kernel, rfl, by decide +kernel, by decide +kernel⟩
theorem p__law_plain : plainPs (defArgs (top 58)) ["call"] = true := by kernel_rfl
theorem k_people_are_right : b_people_are_right.all ((ck c_people_are_right 60).X (defScope (top 17)) (defScope (top 17))) = true := by kernel_rfl
theorem s_people_are_right : FnScope c_people_are_right.N ["value"] (defScope (top 17)) := ⟨rfl, rfl, rfl, by decide +kernel, rfl, by decide +kernel, by decide +kernel⟩
theorem p_people_are_right : plainPs (defArgs (top 17)) ["value"] = true := by kernel_rfl
theorem k_paper_is_right : b_paper_is_right.all ((ck c_paper_is_right 60).X (defScope (top 18)) (defScope (top 18))) = true := by kernel_rfl
theorem s_paper_is_right : FnScope c_paper_is_right.N ["people", "value"] (defScope (top 18)) := ⟨rfl, rfl, rfl, by decide +kernel, rfl, by decide +kernel, by decide +kernel⟩
theorem p_paper_is_right : plainPs (defArgs (top 18)) ["people", "value"] = true := by kernel_rfl
theorem k_tie_is_right : b_tie_is_right.all ((ck c_tie_is_right 60).X (defScope (top 20)) (defScope (top 20))) = true := by kernel_rfl
theorem s_tie_is_right : FnScope c_tie_is_right.N ["people", "value"] (defScope (top 20)) := ⟨rfl, rfl, rfl, by decide +kernel, rfl, by decide +kernel, by decide +kernel⟩
theorem p_tie_is_right : plainPs (defArgs (top 20)) ["people", "value"] = true := by kernel_rfl
theorem k_pairs_of : b_pairs_of.all ((ck c_pairs_of 60).X (defScope (top 30)) (defScope (top 30))) = true := by kernel_rfl
theorem s_pairs_of : FnScope c_pairs_of.N ["call"] (defScope (top 30)) := ⟨rfl, rfl, rfl, by decide +kernel, rfl, by decide +kernel, by decide +kernel⟩
theorem p_pairs_of : plainPs (defArgs (top 30)) ["call"] = true := by kernel_rfl
theorem k_asked_of : b_asked_of.all ((ck c_asked_of 60).X (defScope (top 37)) (defScope (top 37))) = true := by kernel_rfl
theorem s_asked_of : FnScope c_asked_of.N ["call"] (defScope (top 37)) := ⟨rfl, rfl, rfl, by decide +kernel, rfl, by decide +kernel, by decide +kernel⟩
theorem p_asked_of : plainPs (defArgs (top 37)) ["call"] = true := by kernel_rfl
theorem k__law_tied_call : b__law_tied_call.all ((ck c__law_tied_call 60).X (defScope (top 60)) (defScope (top 60))) = true := by kernel_rfl
theorem s__law_tied_call : FnScope c__law_tied_call.N ["pot"] (defScope (top 60)) := ⟨rfl, rfl, rfl, by decide +kernel, rfl, by decide +kernel, by decide +kernel⟩
theorem p__law_tied_call : plainPs (defArgs (top 60)) ["pot"] = true := by kernel_rfl
theorem k__law_counting : b__law_counting.all ((ck c__law_counting 60).X (defScope (top 62)) (defScope (top 62))) = true := by kernel_rfl
theorem s__law_counting : FnScope c__law_counting.N ["call"] (defScope (top 62)) := ⟨rfl, rfl, rfl, by decide +kernel, rfl, by decide +kernel, by decide +kernel⟩
theorem p__law_counting : plainPs (defArgs (top 62)) ["call"] = true := by kernel_rfl
theorem k_papers_are_right : b_papers_are_right.all ((ck c_papers_are_right 60).X (defScope (top 19)) (defScope (top 19))) = true := by kernel_rfl
theorem s_papers_are_right : FnScope c_papers_are_right.N ["people", "value"] (defScope (top 19)) := ⟨rfl, rfl, rfl, by decide +kernel, rfl, by decide +kernel, by decide +kernel⟩
theorem p_papers_are_right : plainPs (defArgs (top 19)) ["people", "value"] = true := by kernel_rfl
theorem k_ties_are_right : b_ties_are_right.all ((ck c_ties_are_right 60).X (defScope (top 21)) (defScope (top 21))) = true := by kernel_rfl
theorem s_ties_are_right : FnScope c_ties_are_right.N ["people", "value"] (defScope (top 21)) := ⟨rfl, rfl, rfl, by decide +kernel, rfl, by decide +kernel, by decide +kernel⟩
theorem p_ties_are_right : plainPs (defArgs (top 21)) ["people", "value"] = true := by kernel_rfl
theorem k_flaw_of : b_flaw_of.all ((ck c_flaw_of 60).X (defScope (top 22)) (defScope (top 22))) = true := by kernel_rfl
theorem s_flaw_of : FnScope c_flaw_of.N ["value"] (defScope (top 22)) := ⟨rfl, rfl, rfl, by decide +kernel, rfl, by decide +kernel, by decide +kernel⟩
theorem p_flaw_of : plainPs (defArgs (top 22)) ["value"] = true := by kernel_rfl
theorem k_check_call : b_check_call.all ((ck c_check_call 60).X (defScope (top 23)) (defScope (top 23))) = true := by kernel_rfl
theorem s_check_call : FnScope c_check_call.N ["call"] (defScope (top 23)) := ⟨rfl, rfl, rfl, by decide +kernel, rfl, by decide +kernel, by decide +kernel⟩
theorem p_check_call : plainPs (defArgs (top 23)) ["call"] = true := by kernel_rfl
theorem k_is_call : b_is_call.all ((ck c_is_call 60).X (defScope (top 31)) (defScope (top 31))) = true := by kernel_rfl
theorem s_is_call : FnScope c_is_call.N ["value"] (defScope (top 31)) := ⟨rfl, rfl, rfl, by decide +kernel, rfl, by decide +kernel, by decide +kernel⟩
theorem p_is_call : plainPs (defArgs (top 31)) ["value"] = true := by kernel_rfl
theorem k_check_paper : b_check_paper.all ((ck c_check_paper 60).X (defScope (top 24)) (defScope (top 24))) = true := by kernel_rfl
theorem s_check_paper : FnScope c_check_paper.N ["call", "paper"] (defScope (top 24)) := ⟨rfl, rfl, rfl, by decide +kernel, rfl, by decide +kernel, by decide +kernel⟩
theorem p_check_paper : plainPs (defArgs (top 24)) ["call", "paper"] = true := by kernel_rfl
theorem k_check_person : b_check_person.all ((ck c_check_person 60).X (defScope (top 25)) (defScope (top 25))) = true := by kernel_rfl
theorem s_check_person : FnScope c_check_person.N ["call", "person"] (defScope (top 25)) := ⟨rfl, rfl, rfl, by decide +kernel, rfl, by decide +kernel, by decide +kernel⟩
theorem p_check_person : plainPs (defArgs (top 25)) ["call", "person"] = true := by kernel_rfl
theorem k_pairs : b_pairs.all ((ck c_pairs 60).X (defScope (top 33)) (defScope (top 33))) = true := by kernel_rfl
theorem s_pairs : FnScope c_pairs.N ["call"] (defScope (top 33)) := ⟨rfl, rfl, rfl, by decide +kernel, rfl, by decide +kernel, by decide +kernel⟩
theorem p_pairs : plainPs (defArgs (top 33)) ["call"] = true := by kernel_rfl
theorem k_ties_that_count : b_ties_that_count.all ((ck c_ties_that_count 60).X (defScope (top 35)) (defScope (top 35))) = true := by kernel_rfl
theorem s_ties_that_count : FnScope c_ties_that_count.N ["call"] (defScope (top 35)) := ⟨rfl, rfl, rfl, by decide +kernel, rfl, by decide +kernel, by decide +kernel⟩
theorem p_ties_that_count : plainPs (defArgs (top 35)) ["call"] = true := by kernel_rfl
theorem k_has_deal : b_has_deal.all ((ck c_has_deal 60).X (defScope (top 43)) (defScope (top 43))) = true := by kernel_rfl
theorem s_has_deal : FnScope c_has_deal.N ["call"] (defScope (top 43)) := ⟨rfl, rfl, rfl, by decide +kernel, rfl, by decide +kernel, by decide +kernel⟩
theorem p_has_deal : plainPs (defArgs (top 43)) ["call"] = true := by kernel_rfl
theorem k_check_both : b_check_both.all ((ck c_check_both 60).X (defScope (top 26)) (defScope (top 26))) = true := by kernel_rfl
theorem s_check_both : FnScope c_check_both.N ["call", "paper", "person"] (defScope (top 26)) := ⟨rfl, rfl, rfl, by decide +kernel, rfl, by decide +kernel, by decide +kernel⟩
theorem p_check_both : plainPs (defArgs (top 26)) ["call", "paper", "person"] = true := by kernel_rfl
theorem k_check_other : b_check_other.all ((ck c_check_other 60).X (defScope (top 45)) (defScope (top 45))) = true := by kernel_rfl
theorem s_check_other : FnScope c_check_other.N ["call", "person", "other"] (defScope (top 45)) := ⟨rfl, rfl, rfl, by decide +kernel, rfl, by decide +kernel, by decide +kernel⟩
theorem p_check_other : plainPs (defArgs (top 45)) ["call", "person", "other"] = true := by kernel_rfl
theorem k_bars : b_bars.all ((ck c_bars 60).X (defScope (top 32)) (defScope (top 32))) = true := by kernel_rfl
theorem s_bars : FnScope c_bars.N ["call", "paper", "person"] (defScope (top 32)) := ⟨rfl, rfl, rfl, by decide +kernel, rfl, by decide +kernel, by decide +kernel⟩
theorem p_bars : plainPs (defArgs (top 32)) ["call", "paper", "person"] = true := by kernel_rfl
theorem k_with_tie : b_with_tie.all ((ck c_with_tie 60).X (defScope (top 47)) (defScope (top 47))) = true := by kernel_rfl
theorem s_with_tie : FnScope c_with_tie.N ["call", "person", "other"] (defScope (top 47)) := ⟨rfl, rfl, rfl, by decide +kernel, rfl, by decide +kernel, by decide +kernel⟩
theorem p_with_tie : plainPs (defArgs (top 47)) ["call", "person", "other"] = true := by kernel_rfl
theorem k_without_tie : b_without_tie.all ((ck c_without_tie 60).X (defScope (top 48)) (defScope (top 48))) = true := by kernel_rfl
theorem s_without_tie : FnScope c_without_tie.N ["call", "person", "other"] (defScope (top 48)) := ⟨rfl, rfl, rfl, by decide +kernel, rfl, by decide +kernel, by decide +kernel⟩
theorem p_without_tie : plainPs (defArgs (top 48)) ["call", "person", "other"] = true := by kernel_rfl
theorem k__law_ties_right : b__law_ties_right.all ((ck c__law_ties_right 60).X (defScope (top 63)) (defScope (top 63))) = true := by kernel_rfl
theorem s__law_ties_right : FnScope c__law_ties_right.N ["call"] (defScope (top 63)) := ⟨rfl, rfl, rfl, by decide +kernel, rfl, by decide +kernel, by decide +kernel⟩
theorem p__law_ties_right : plainPs (defArgs (top 63)) ["call"] = true := by kernel_rfl
theorem k__law_moved_right : b__law_moved_right.all ((ck c__law_moved_right 60).X (defScope (top 64)) (defScope (top 64))) = true := by kernel_rfl
theorem s__law_moved_right : FnScope c__law_moved_right.N ["pot", "call"] (defScope (top 64)) := ⟨rfl, rfl, rfl, by decide +kernel, rfl, by decide +kernel, by decide +kernel⟩
theorem p__law_moved_right : plainPs (defArgs (top 64)) ["pot", "call"] = true := by kernel_rfl
theorem k__law_authors_right : b__law_authors_right.all ((ck c__law_authors_right 60).X (defScope (top 65)) (defScope (top 65))) = true := by kernel_rfl
theorem s__law_authors_right : FnScope c__law_authors_right.N ["pot", "call"] (defScope (top 65)) := ⟨rfl, rfl, rfl, by decide +kernel, rfl, by decide +kernel, by decide +kernel⟩
theorem p__law_authors_right : plainPs (defArgs (top 65)) ["pot", "call"] = true := by kernel_rfl
theorem k__law_right : b__law_right.all ((ck c__law_right 60).X (defScope (top 66)) (defScope (top 66))) = true := by kernel_rfl
theorem s__law_right : FnScope c__law_right.N ["pot"] (defScope (top 66)) := ⟨rfl, rfl, rfl, by decide +kernel, rfl, by decide +kernel, by decide +kernel⟩
theorem p__law_right : plainPs (defArgs (top 66)) ["pot"] = true := by kernel_rfl
theorem k_law : b_law.all ((ck c_law 60).X (defScope (top 67)) (defScope (top 67))) = true := by kernel_rfl
theorem s_law : FnScope c_law.N ["script"] (defScope (top 67)) := ⟨rfl, rfl, rfl, by decide +kernel, rfl, by decide +kernel, by decide +kernel⟩
theorem p_law : plainPs (defArgs (top 67)) ["script"] = true := by kernel_rfl
/-! ### promises -/
section
variable {P : Program} {w : World} {K : PySem.W.Frag} {mg : Str → Option Value} {base h : Heap} {cl : Str → Option Addr}
abbrev tabs (K : PySem.W.Frag) : Tabl := tf.map fun p => ((He.cT K p).1, (He.cT K p).2, (p.1 ++ ".<locals>.") ++ "<lambda>")
/-- what all the promises stand on -/
structure Hyp (w : World) (K : PySem.W.Frag) (mg : Str → Option Value) (base h : Heap) : Prop where
  inK : K.In h
  ns : h.Ns mainGlobals mg
  says : He.SaysX fa fn [] tf (fun _ => true) w h K
  tab : ∀ p ∈ tabs K, LamX.TabB base mg p.1 p.2.1
theorem Hyp.glo (y : Hyp w K mg base h) (i : Nat) {x : Str} (e : fa[i]? = some (.glo x) := by rfl) : mg x = some (.ref (He.ga K x)) := He.glo_ok y.inK y.ns (y.says.t.d.fact i e)
theorem Hyp.free (y : Hyp w K mg base h) (i : Nat) {x : Str} (e : fa[i]? = some (.free x) := by rfl) : mg x = none := He.free_ok y.inK y.ns (y.says.t.d.fact i e)
theorem Hyp.int (y : Hyp w K mg base h) (i : Nat) {x : Str} {j : Int} (e : fa[i]? = some (.int x j) := by rfl) : ∃ t, mg x = some (.int j t) := He.int_ok y.inK y.ns (y.says.t.d.fact i e)
theorem Hyp.def_ (y : Hyp w K mg base h) (i : Nat) {n : Str} {j : Nat} (e : fn[i]? = some (dD n j) := by rfl) : ∃ fd, FunD K n n (defArgs (top j)) (defBody (top j)) (defScope (top j)) [] [] (He.ga K n) fd := y.says.t.d.def_ i e
theorem Hyp.keep (y : Hyp w K mg base h) (i : Nat) {n : Str} {j : Nat} (e : fn[i]? = some (dD n j) := by rfl) : PySem.W.keepIn K (.ref (He.ga K n)) = true := by
  obtain ⟨fd, FD⟩ := y.def_ i e
  exact FD.kp
theorem G_is_integer (y : Hyp w K mg base h) : FnG P w K mg base cl (tabPairs (tabs K)) 1 (He.ga K "is_integer") ["value"] F_is_integer := by
  obtain ⟨fd, FD⟩ := y.def_ 0
  exact fnG_fun (k := 0) FD s_is_integer p_is_integer k_is_integer (fun z => by cases z) (.cons (g_bt (y.free 51)) (.cons (g_bt (y.free 52)) (.cons (g_bt (y.free 53)) .nil)))
theorem G_are_tied (y : Hyp w K mg base h) : FnG P w K mg base cl (tabPairs (tabs K)) 1 (He.ga K "are_tied") ["call", "one", "other"] F_are_tied := by
  obtain ⟨fd, FD⟩ := y.def_ 15
  exact fnG_fun (k := 0) FD s_are_tied p_are_tied k_are_tied (fun z => by cases z) (.cons (g_bt (y.free 59)) (.cons (g_bt (y.free 60)) .nil))
theorem G_sums_by_lots (y : Hyp w K mg base h) : FnG P w K mg base cl (tabPairs (tabs K)) 1 (He.ga K "sums_by_lots") ["lists", "width"] F_sums_by_lots := by
  obtain ⟨fd, FD⟩ := y.def_ 24
  exact fnG_fun (k := 0) FD s_sums_by_lots p_sums_by_lots k_sums_by_lots (fun z => by cases z) (.cons (g_bt (y.free 52)) (.cons (g_bt (y.free 62)) .nil))
theorem G_totals_by_lots (y : Hyp w K mg base h) : FnG P w K mg base cl (tabPairs (tabs K)) 1 (He.ga K "totals_by_lots") ["numbers"] F_totals_by_lots := by
  obtain ⟨fd, FD⟩ := y.def_ 25
  exact fnG_fun (k := 0) FD s_totals_by_lots p_totals_by_lots k_totals_by_lots (fun z => by cases z) (.nil)
theorem G_turned_may (y : Hyp w K mg base h) : FnG P w K mg base cl (tabPairs (tabs K)) 1 (He.ga K "turned_may") ["asked"] F_turned_may := by
  obtain ⟨fd, FD⟩ := y.def_ 26
  exact fnG_fun (k := 0) FD s_turned_may p_turned_may k_turned_may (fun z => by cases z) (.cons (g_bt (y.free 62)) (.cons (g_bt (y.free 61)) (.cons (g_bt (y.free 57)) .nil)))
theorem G_tie_between (y : Hyp w K mg base h) : FnG P w K mg base cl (tabPairs (tabs K)) 1 (He.ga K "tie_between") ["one", "other"] F_tie_between := by
  obtain ⟨fd, FD⟩ := y.def_ 30
  exact fnG_fun (k := 0) FD s_tie_between p_tie_between k_tie_between (fun z => by cases z) (.cons (g_bt (y.free 59)) (.cons (g_bt (y.free 60)) .nil))
theorem G__law_pot (y : Hyp w K mg base h) : FnG P w K mg base cl (tabPairs (tabs K)) 1 (He.ga K "_law_pot") ["script", "k"] F__law_pot := by
  obtain ⟨fd, FD⟩ := y.def_ 33
  exact fnG_fun (k := 0) FD s__law_pot p__law_pot k__law_pot (fun z => by cases z) (.cons (g_bt (y.free 57)) (.cons (g_bt (y.free 65)) (.cons (g_bt (y.free 60)) (.cons (g_bt (y.free 52)) .nil))))
theorem G__law_draw (y : Hyp w K mg base h) : FnG P w K mg base cl (tabPairs (tabs K)) 1 (He.ga K "_law_draw") ["pot", "many"] F__law_draw := by
  obtain ⟨fd, FD⟩ := y.def_ 34
  exact fnG_fun (k := 0) FD s__law_draw p__law_draw k__law_draw (fun z => by cases z) (.cons (g_bt (y.free 66)) (.cons (g_bt (y.free 52)) .nil))
theorem G__law_is_near (y : Hyp w K mg base h) : FnG P w K mg base cl (tabPairs (tabs K)) 1 (He.ga K "_law_is_near") ["call", "one", "other"] F__law_is_near := by
  obtain ⟨fd, FD⟩ := y.def_ 37
  exact fnG_fun (k := 0) FD s__law_is_near p__law_is_near k__law_is_near (fun z => by cases z) (.nil)
theorem G__law_lots (y : Hyp w K mg base h) : FnG P w K mg base cl (tabPairs (tabs K)) 1 (He.ga K "_law_lots") ["some"] F__law_lots := by
  obtain ⟨fd, FD⟩ := y.def_ 40
  exact fnG_fun (k := 0) FD s__law_lots p__law_lots k__law_lots (fun _ => ⟨y.tab _ (List.mem_cons_self ..), List.mem_cons_self .., fun p hp _ => by rw [List.mem_singleton.mp hp]⟩) (.cons (g_bt (y.free 64)) (.cons (g_bt (y.free 57)) .nil))
theorem G__law_without (y : Hyp w K mg base h) : FnG P w K mg base cl (tabPairs (tabs K)) 1 (He.ga K "_law_without") ["call", "tie"] F__law_without := by
  obtain ⟨fd, FD⟩ := y.def_ 44
  exact fnG_fun (k := 0) FD s__law_without p__law_without k__law_without (fun z => by cases z) (.cons (g_bt (y.free 54)) .nil)
theorem G_is_count (y : Hyp w K mg base h) : FnG P w K mg base cl (tabPairs (tabs K)) 2 (He.ga K "is_count") ["value"] F_is_count := by
  obtain ⟨fd, FD⟩ := y.def_ 1
  exact fnG_fun (k := 1) FD s_is_count p_is_count k_is_count (fun z => by cases z) (.cons (g_fn (y.glo 0) (y.keep 0) (G_is_integer y) (by decide)) .nil)
theorem G_is_position (y : Hyp w K mg base h) : FnG P w K mg base cl (tabPairs (tabs K)) 2 (He.ga K "is_position") ["value", "many"] F_is_position := by
  obtain ⟨fd, FD⟩ := y.def_ 2
  exact fnG_fun (k := 1) FD s_is_position p_is_position k_is_position (fun z => by cases z) (.cons (g_fn (y.glo 0) (y.keep 0) (G_is_integer y) (by decide)) .nil)
theorem G_bars_of (y : Hyp w K mg base h) : FnG P w K mg base cl (tabPairs (tabs K)) 2 (He.ga K "bars_of") ["call", "paper", "person"] F_bars_of := by
  obtain ⟨fd, FD⟩ := y.def_ 16
  exact fnG_fun (k := 1) FD s_bars_of p_bars_of k_bars_of (fun z => by cases z) (.cons (g_fn (y.glo 15) (y.keep 15) (G_are_tied y) (by decide)) .nil)
theorem G_can_be_dealt (y : Hyp w K mg base h) : FnG P w K mg base cl (tabPairs (tabs K)) 2 (He.ga K "can_be_dealt") ["asked"] F_can_be_dealt := by
  obtain ⟨fd, FD⟩ := y.def_ 27
  exact fnG_fun (k := 1) FD s_can_be_dealt p_can_be_dealt k_can_be_dealt (fun z => by cases z) (.cons (g_bt (y.free 56)) (.cons (g_fn (y.glo 25) (y.keep 25) (G_totals_by_lots y) (by decide)) (.cons (g_fn (y.glo 24) (y.keep 24) (G_sums_by_lots y) (by decide)) (.cons (g_bt (y.free 57)) (.cons (g_bt (y.free 63)) (.cons (g_bt (y.free 59)) (.cons (g_fn (y.glo 26) (y.keep 26) (G_turned_may y) (by decide)) .nil)))))))
theorem G__law_pick (y : Hyp w K mg base h) : FnG P w K mg base cl (tabPairs (tabs K)) 2 (He.ga K "_law_pick") ["pot", "some"] F__law_pick := by
  obtain ⟨fd, FD⟩ := y.def_ 35
  exact fnG_fun (k := 1) FD s__law_pick p__law_pick k__law_pick (fun z => by cases z) (.cons (g_fn (y.glo 34) (y.keep 34) (G__law_draw y) (by decide)) (.cons (g_bt (y.free 57)) .nil))
theorem G__law_who (y : Hyp w K mg base h) : FnG P w K mg base cl (tabPairs (tabs K)) 2 (He.ga K "_law_who") ["call", "paper"] F__law_who := by
  obtain ⟨fd, FD⟩ := y.def_ 38
  exact fnG_fun (k := 1) FD s__law_who p__law_who k__law_who (fun z => by cases z) (.cons (g_bt (y.free 61)) (.cons (g_bt (y.free 57)) (.cons (g_fn (y.glo 37) (y.keep 37) (G__law_is_near y) (by decide)) .nil)))
theorem G__law_has (y : Hyp w K mg base h) : FnG P w K mg base cl (tabPairs (tabs K)) 2 (He.ga K "_law_has") ["limits", "wants", "who"] F__law_has := by
  obtain ⟨fd, FD⟩ := y.def_ 42
  exact fnG_fun (k := 1) FD s__law_has p__law_has k__law_has (fun z => by cases z) (.cons (g_bt (y.free 67)) (.cons (g_bt (y.free 61)) (.cons (g_bt (y.free 57)) (.cons (g_fn (y.glo 40) (y.keep 40) (G__law_lots y) (by decide)) (.cons (g_bt (y.free 63)) (.cons (g_bt (y.free 59)) .nil))))))
theorem G_is_rising_tuple (y : Hyp w K mg base h) : FnG P w K mg base cl (tabPairs (tabs K)) 3 (He.ga K "is_rising_tuple") ["value", "many"] F_is_rising_tuple := by
  obtain ⟨fd, FD⟩ := y.def_ 3
  exact fnG_fun (k := 2) FD s_is_rising_tuple p_is_rising_tuple k_is_rising_tuple (fun z => by cases z) (.cons (g_bt (y.free 51)) (.cons (g_bt (y.free 54)) (.cons (g_bt (y.free 55)) (.cons (g_fn (y.glo 2) (y.keep 2) (G_is_position y) (by decide)) (.cons (g_bt (y.free 56)) .nil)))))
theorem G_person_is_right (y : Hyp w K mg base h) : FnG P w K mg base cl (tabPairs (tabs K)) 3 (He.ga K "person_is_right") ["value"] F_person_is_right := by
  obtain ⟨fd, FD⟩ := y.def_ 4
  exact fnG_fun (k := 2) FD s_person_is_right p_person_is_right k_person_is_right (fun z => by cases z) (.cons (g_bt (y.free 51)) (.cons (g_bt (y.free 54)) (.cons (g_bt (y.free 57)) (.cons (g_bt (y.free 55)) (.cons (g_fn (y.glo 1) (y.keep 1) (G_is_count y) (by decide)) (.cons (g_int (y.int 69)) .nil))))))
theorem G_who_of (y : Hyp w K mg base h) : FnG P w K mg base cl (tabPairs (tabs K)) 3 (He.ga K "who_of") ["call", "paper"] F_who_of := by
  obtain ⟨fd, FD⟩ := y.def_ 17
  exact fnG_fun (k := 2) FD s_who_of p_who_of k_who_of (fun z => by cases z) (.cons (g_bt (y.free 61)) (.cons (g_bt (y.free 57)) (.cons (g_fn (y.glo 16) (y.keep 16) (G_bars_of y) (by decide)) .nil)))
theorem G__law_call_of (y : Hyp w K mg base h) : FnG P w K mg base cl (tabPairs (tabs K)) 3 (He.ga K "_law_call_of") ["pot", "people", "papers"] F__law_call_of := by
  obtain ⟨fd, FD⟩ := y.def_ 36
  exact fnG_fun (k := 2) FD s__law_call_of p__law_call_of k__law_call_of (fun z => by cases z) (.cons (g_fn (y.glo 35) (y.keep 35) (G__law_pick y) (by decide)) (.cons (g_bt (y.free 61)) (.cons (g_fn (y.glo 34) (y.keep 34) (G__law_draw y) (by decide)) (.cons (g_bt (y.free 59)) (.cons (g_bt (y.free 54)) .nil)))))
theorem G__law_pairs (y : Hyp w K mg base h) : FnG P w K mg base cl (tabPairs (tabs K)) 3 (He.ga K "_law_pairs") ["call"] F__law_pairs := by
  obtain ⟨fd, FD⟩ := y.def_ 39
  exact fnG_fun (k := 2) FD s__law_pairs p__law_pairs k__law_pairs (fun z => by cases z) (.cons (g_bt (y.free 61)) (.cons (g_bt (y.free 57)) (.cons (g_fn (y.glo 38) (y.keep 38) (G__law_who y) (by decide)) .nil)))
theorem G__law_plain (y : Hyp w K mg base h) : FnG P w K mg base cl (tabPairs (tabs K)) 3 (He.ga K "_law_plain") ["call"] F__law_plain := by
  obtain ⟨fd, FD⟩ := y.def_ 41
  exact fnG_fun (k := 2) FD s__law_plain p__law_plain k__law_plain (fun z => by cases z) (.cons (g_bt (y.free 67)) (.cons (g_fn (y.glo 38) (y.keep 38) (G__law_who y) (by decide)) (.cons (g_bt (y.free 61)) (.cons (g_bt (y.free 57)) .nil))))
theorem G_people_are_right (y : Hyp w K mg base h) : FnG P w K mg base cl (tabPairs (tabs K)) 4 (He.ga K "people_are_right") ["value"] F_people_are_right := by
  obtain ⟨fd, FD⟩ := y.def_ 5
  exact fnG_fun (k := 3) FD s_people_are_right p_people_are_right k_people_are_right (fun z => by cases z) (.cons (g_bt (y.free 51)) (.cons (g_bt (y.free 54)) (.cons (g_bt (y.free 57)) (.cons (g_int (y.int 70)) (.cons (g_bt (y.free 55)) (.cons (g_fn (y.glo 4) (y.keep 4) (G_person_is_right y) (by decide)) .nil))))))
theorem G_paper_is_right (y : Hyp w K mg base h) : FnG P w K mg base cl (tabPairs (tabs K)) 4 (He.ga K "paper_is_right") ["people", "value"] F_paper_is_right := by
  obtain ⟨fd, FD⟩ := y.def_ 6
  exact fnG_fun (k := 3) FD s_paper_is_right p_paper_is_right k_paper_is_right (fun z => by cases z) (.cons (g_bt (y.free 51)) (.cons (g_bt (y.free 54)) (.cons (g_bt (y.free 57)) (.cons (g_fn (y.glo 1) (y.keep 1) (G_is_count y) (by decide)) (.cons (g_int (y.int 71)) (.cons (g_fn (y.glo 3) (y.keep 3) (G_is_rising_tuple y) (by decide)) .nil))))))
theorem G_tie_is_right (y : Hyp w K mg base h) : FnG P w K mg base cl (tabPairs (tabs K)) 4 (He.ga K "tie_is_right") ["people", "value"] F_tie_is_right := by
  obtain ⟨fd, FD⟩ := y.def_ 8
  exact fnG_fun (k := 3) FD s_tie_is_right p_tie_is_right k_tie_is_right (fun z => by cases z) (.cons (g_fn (y.glo 3) (y.keep 3) (G_is_rising_tuple y) (by decide)) (.cons (g_bt (y.free 57)) .nil))
theorem G_pairs_of (y : Hyp w K mg base h) : FnG P w K mg base cl (tabPairs (tabs K)) 4 (He.ga K "pairs_of") ["call"] F_pairs_of := by
  obtain ⟨fd, FD⟩ := y.def_ 18
  exact fnG_fun (k := 3) FD s_pairs_of p_pairs_of k_pairs_of (fun z => by cases z) (.cons (g_bt (y.free 61)) (.cons (g_bt (y.free 57)) (.cons (g_fn (y.glo 17) (y.keep 17) (G_who_of y) (by decide)) .nil)))
theorem G_asked_of (y : Hyp w K mg base h) : FnG P w K mg base cl (tabPairs (tabs K)) 4 (He.ga K "asked_of") ["call"] F_asked_of := by
  obtain ⟨fd, FD⟩ := y.def_ 23
  exact fnG_fun (k := 3) FD s_asked_of p_asked_of k_asked_of (fun z => by cases z) (.cons (g_fn (y.glo 17) (y.keep 17) (G_who_of y) (by decide)) (.cons (g_bt (y.free 61)) (.cons (g_bt (y.free 57)) .nil)))
theorem G__law_tied_call (y : Hyp w K mg base h) : FnG P w K mg base cl (tabPairs (tabs K)) 4 (He.ga K "_law_tied_call") ["pot"] F__law_tied_call := by
  obtain ⟨fd, FD⟩ := y.def_ 43
  exact fnG_fun (k := 3) FD s__law_tied_call p__law_tied_call k__law_tied_call (fun z => by cases z) (.cons (g_fn (y.glo 34) (y.keep 34) (G__law_draw y) (by decide)) (.cons (g_fn (y.glo 36) (y.keep 36) (G__law_call_of y) (by decide)) (.cons (g_bt (y.free 61)) (.cons (g_bt (y.free 64)) (.cons (g_bt (y.free 54)) .nil)))))
theorem G__law_counting (y : Hyp w K mg base h) : FnG P w K mg base cl (tabPairs (tabs K)) 4 (He.ga K "_law_counting") ["call"] F__law_counting := by
  obtain ⟨fd, FD⟩ := y.def_ 45
  exact fnG_fun (k := 3) FD s__law_counting p__law_counting k__law_counting (fun z => by cases z) (.cons (g_fn (y.glo 39) (y.keep 39) (G__law_pairs y) (by decide)) (.cons (g_fn (y.glo 44) (y.keep 44) (G__law_without y) (by decide)) .nil))
theorem G_papers_are_right (y : Hyp w K mg base h) : FnG P w K mg base cl (tabPairs (tabs K)) 5 (He.ga K "papers_are_right") ["people", "value"] F_papers_are_right := by
  obtain ⟨fd, FD⟩ := y.def_ 7
  exact fnG_fun (k := 4) FD s_papers_are_right p_papers_are_right k_papers_are_right (fun z => by cases z) (.cons (g_bt (y.free 51)) (.cons (g_bt (y.free 54)) (.cons (g_bt (y.free 57)) (.cons (g_int (y.int 72)) (.cons (g_bt (y.free 55)) (.cons (g_fn (y.glo 6) (y.keep 6) (G_paper_is_right y) (by decide)) .nil))))))
theorem G_ties_are_right (y : Hyp w K mg base h) : FnG P w K mg base cl (tabPairs (tabs K)) 5 (He.ga K "ties_are_right") ["people", "value"] F_ties_are_right := by
  obtain ⟨fd, FD⟩ := y.def_ 9
  exact fnG_fun (k := 4) FD s_ties_are_right p_ties_are_right k_ties_are_right (fun z => by cases z) (.cons (g_bt (y.free 51)) (.cons (g_bt (y.free 54)) (.cons (g_bt (y.free 55)) (.cons (g_fn (y.glo 8) (y.keep 8) (G_tie_is_right y) (by decide)) (.cons (g_bt (y.free 56)) .nil)))))
theorem G_flaw_of (y : Hyp w K mg base h) : FnG P w K mg base cl (tabPairs (tabs K)) 6 (He.ga K "flaw_of") ["value"] F_flaw_of := by
  obtain ⟨fd, FD⟩ := y.def_ 10
  exact fnG_fun (k := 5) FD s_flaw_of p_flaw_of k_flaw_of (fun z => by cases z) (.cons (g_bt (y.free 51)) (.cons (g_bt (y.free 54)) (.cons (g_bt (y.free 57)) (.cons (g_bt (y.free 58)) (.cons (g_fn (y.glo 5) (y.keep 5) (G_people_are_right y) (by decide)) (.cons (g_fn (y.glo 7) (y.keep 7) (G_papers_are_right y) (by decide)) (.cons (g_fn (y.glo 9) (y.keep 9) (G_ties_are_right y) (by decide)) .nil)))))))
theorem G_check_call (y : Hyp w K mg base h) : FnG P w K mg base cl (tabPairs (tabs K)) 7 (He.ga K "check_call") ["call"] F_check_call := by
  obtain ⟨fd, FD⟩ := y.def_ 11
  exact fnG_fun (k := 6) FD s_check_call p_check_call k_check_call (fun z => by cases z) (.cons (g_fn (y.glo 10) (y.keep 10) (G_flaw_of y) (by decide)) .nil)
theorem G_is_call (y : Hyp w K mg base h) : FnG P w K mg base cl (tabPairs (tabs K)) 7 (He.ga K "is_call") ["value"] F_is_call := by
  obtain ⟨fd, FD⟩ := y.def_ 19
  exact fnG_fun (k := 6) FD s_is_call p_is_call k_is_call (fun z => by cases z) (.cons (g_fn (y.glo 10) (y.keep 10) (G_flaw_of y) (by decide)) .nil)
theorem G_check_paper (y : Hyp w K mg base h) : FnG P w K mg base cl (tabPairs (tabs K)) 8 (He.ga K "check_paper") ["call", "paper"] F_check_paper := by
  obtain ⟨fd, FD⟩ := y.def_ 12
  exact fnG_fun (k := 7) FD s_check_paper p_check_paper k_check_paper (fun z => by cases z) (.cons (g_fn (y.glo 11) (y.keep 11) (G_check_call y) (by decide)) (.cons (g_fn (y.glo 2) (y.keep 2) (G_is_position y) (by decide)) (.cons (g_bt (y.free 57)) .nil)))
theorem G_check_person (y : Hyp w K mg base h) : FnG P w K mg base cl (tabPairs (tabs K)) 8 (He.ga K "check_person") ["call", "person"] F_check_person := by
  obtain ⟨fd, FD⟩ := y.def_ 13
  exact fnG_fun (k := 7) FD s_check_person p_check_person k_check_person (fun z => by cases z) (.cons (g_fn (y.glo 11) (y.keep 11) (G_check_call y) (by decide)) (.cons (g_fn (y.glo 2) (y.keep 2) (G_is_position y) (by decide)) (.cons (g_bt (y.free 57)) .nil)))
theorem G_pairs (y : Hyp w K mg base h) : FnG P w K mg base cl (tabPairs (tabs K)) 8 (He.ga K "pairs") ["call"] F_pairs := by
  obtain ⟨fd, FD⟩ := y.def_ 21
  exact fnG_fun (k := 7) FD s_pairs p_pairs k_pairs (fun z => by cases z) (.cons (g_fn (y.glo 11) (y.keep 11) (G_check_call y) (by decide)) (.cons (g_fn (y.glo 18) (y.keep 18) (G_pairs_of y) (by decide)) .nil))
theorem G_ties_that_count (y : Hyp w K mg base h) : FnG P w K mg base cl (tabPairs (tabs K)) 8 (He.ga K "ties_that_count") ["call"] F_ties_that_count := by
  obtain ⟨fd, FD⟩ := y.def_ 22
  exact fnG_fun (k := 7) FD s_ties_that_count p_ties_that_count k_ties_that_count (fun z => by cases z) (.cons (g_fn (y.glo 11) (y.keep 11) (G_check_call y) (by decide)) (.cons (g_bt (y.free 57)) (.cons (g_fn (y.glo 18) (y.keep 18) (G_pairs_of y) (by decide)) (.cons (g_bt (y.free 54)) .nil))))
theorem G_has_deal (y : Hyp w K mg base h) : FnG P w K mg base cl (tabPairs (tabs K)) 8 (He.ga K "has_deal") ["call"] F_has_deal := by
  obtain ⟨fd, FD⟩ := y.def_ 28
  exact fnG_fun (k := 7) FD s_has_deal p_has_deal k_has_deal (fun z => by cases z) (.cons (g_fn (y.glo 11) (y.keep 11) (G_check_call y) (by decide)) (.cons (g_fn (y.glo 27) (y.keep 27) (G_can_be_dealt y) (by decide)) (.cons (g_fn (y.glo 23) (y.keep 23) (G_asked_of y) (by decide)) .nil)))
theorem G_check_both (y : Hyp w K mg base h) : FnG P w K mg base cl (tabPairs (tabs K)) 9 (He.ga K "check_both") ["call", "paper", "person"] F_check_both := by
  obtain ⟨fd, FD⟩ := y.def_ 14
  exact fnG_fun (k := 8) FD s_check_both p_check_both k_check_both (fun z => by cases z) (.cons (g_fn (y.glo 12) (y.keep 12) (G_check_paper y) (by decide)) (.cons (g_fn (y.glo 13) (y.keep 13) (G_check_person y) (by decide)) .nil))
theorem G_check_other (y : Hyp w K mg base h) : FnG P w K mg base cl (tabPairs (tabs K)) 9 (He.ga K "check_other") ["call", "person", "other"] F_check_other := by
  obtain ⟨fd, FD⟩ := y.def_ 29
  exact fnG_fun (k := 8) FD s_check_other p_check_other k_check_other (fun z => by cases z) (.cons (g_fn (y.glo 13) (y.keep 13) (G_check_person y) (by decide)) (.cons (g_fn (y.glo 2) (y.keep 2) (G_is_position y) (by decide)) (.cons (g_bt (y.free 57)) .nil)))
theorem G_bars (y : Hyp w K mg base h) : FnG P w K mg base cl (tabPairs (tabs K)) 10 (He.ga K "bars") ["call", "paper", "person"] F_bars := by
  obtain ⟨fd, FD⟩ := y.def_ 20
  exact fnG_fun (k := 9) FD s_bars p_bars k_bars (fun z => by cases z) (.cons (g_fn (y.glo 14) (y.keep 14) (G_check_both y) (by decide)) (.cons (g_fn (y.glo 16) (y.keep 16) (G_bars_of y) (by decide)) .nil))
theorem G_with_tie (y : Hyp w K mg base h) : FnG P w K mg base cl (tabPairs (tabs K)) 10 (He.ga K "with_tie") ["call", "person", "other"] F_with_tie := by
  obtain ⟨fd, FD⟩ := y.def_ 31
  exact fnG_fun (k := 9) FD s_with_tie p_with_tie k_with_tie (fun z => by cases z) (.cons (g_fn (y.glo 29) (y.keep 29) (G_check_other y) (by decide)) (.cons (g_fn (y.glo 30) (y.keep 30) (G_tie_between y) (by decide)) (.cons (g_bt (y.free 54)) (.cons (g_bt (y.free 64)) .nil))))
theorem G_without_tie (y : Hyp w K mg base h) : FnG P w K mg base cl (tabPairs (tabs K)) 10 (He.ga K "without_tie") ["call", "person", "other"] F_without_tie := by
  obtain ⟨fd, FD⟩ := y.def_ 32
  exact fnG_fun (k := 9) FD s_without_tie p_without_tie k_without_tie (fun z => by cases z) (.cons (g_fn (y.glo 29) (y.keep 29) (G_check_other y) (by decide)) (.cons (g_bt (y.free 54)) (.cons (g_fn (y.glo 30) (y.keep 30) (G_tie_between y) (by decide)) .nil)))
theorem G__law_ties_right (y : Hyp w K mg base h) : FnG P w K mg base cl (tabPairs (tabs K)) 11 (He.ga K "_law_ties_right") ["call"] F__law_ties_right := by
  obtain ⟨fd, FD⟩ := y.def_ 46
  exact fnG_fun (k := 10) FD s__law_ties_right p__law_ties_right k__law_ties_right (fun z => by cases z) (.cons (g_fn (y.glo 45) (y.keep 45) (G__law_counting y) (by decide)) (.cons (g_fn (y.glo 22) (y.keep 22) (G_ties_that_count y) (by decide)) (.cons (g_bt (y.free 68)) (.cons (g_bt (y.free 62)) (.cons (g_fn (y.glo 37) (y.keep 37) (G__law_is_near y) (by decide)) (.cons (g_fn (y.glo 20) (y.keep 20) (G_bars y) (by decide)) .nil))))))
theorem G__law_moved_right (y : Hyp w K mg base h) : FnG P w K mg base cl (tabPairs (tabs K)) 11 (He.ga K "_law_moved_right") ["pot", "call"] F__law_moved_right := by
  obtain ⟨fd, FD⟩ := y.def_ 47
  exact fnG_fun (k := 10) FD s__law_moved_right p__law_moved_right k__law_moved_right (fun z => by cases z) (.cons (g_fn (y.glo 34) (y.keep 34) (G__law_draw y) (by decide)) (.cons (g_bt (y.free 57)) (.cons (g_bt (y.free 59)) (.cons (g_bt (y.free 60)) (.cons (g_bt (y.free 54)) (.cons (g_bt (y.free 64)) (.cons (g_fn (y.glo 44) (y.keep 44) (G__law_without y) (by decide)) (.cons (g_fn (y.glo 31) (y.keep 31) (G_with_tie y) (by decide)) (.cons (g_fn (y.glo 32) (y.keep 32) (G_without_tie y) (by decide)) (.cons (g_bt (y.free 68)) (.cons (g_fn (y.glo 19) (y.keep 19) (G_is_call y) (by decide)) (.cons (g_fn (y.glo 39) (y.keep 39) (G__law_pairs y) (by decide)) (.cons (g_fn (y.glo 21) (y.keep 21) (G_pairs y) (by decide)) (.cons (g_fn (y.glo 42) (y.keep 42) (G__law_has y) (by decide)) (.cons (g_fn (y.glo 41) (y.keep 41) (G__law_plain y) (by decide)) (.cons (g_fn (y.glo 28) (y.keep 28) (G_has_deal y) (by decide)) .nil))))))))))))))))
theorem G__law_authors_right (y : Hyp w K mg base h) : FnG P w K mg base cl (tabPairs (tabs K)) 11 (He.ga K "_law_authors_right") ["pot", "call"] F__law_authors_right := by
  obtain ⟨fd, FD⟩ := y.def_ 48
  exact fnG_fun (k := 10) FD s__law_authors_right p__law_authors_right k__law_authors_right (fun z => by cases z) (.cons (g_fn (y.glo 34) (y.keep 34) (G__law_draw y) (by decide)) (.cons (g_bt (y.free 57)) (.cons (g_bt (y.free 54)) (.cons (g_bt (y.free 64)) (.cons (g_bt (y.free 67)) (.cons (g_fn (y.glo 21) (y.keep 21) (G_pairs y) (by decide)) (.cons (g_bt (y.free 68)) (.cons (g_fn (y.glo 39) (y.keep 39) (G__law_pairs y) (by decide)) (.cons (g_fn (y.glo 22) (y.keep 22) (G_ties_that_count y) (by decide)) (.cons (g_fn (y.glo 32) (y.keep 32) (G_without_tie y) (by decide)) (.cons (g_fn (y.glo 20) (y.keep 20) (G_bars y) (by decide)) .nil)))))))))))
theorem G__law_right (y : Hyp w K mg base h) : FnG P w K mg base cl (tabPairs (tabs K)) 12 (He.ga K "_law_right") ["pot"] F__law_right := by
  obtain ⟨fd, FD⟩ := y.def_ 49
  exact fnG_fun (k := 11) FD s__law_right p__law_right k__law_right (fun z => by cases z) (.cons (g_bt (y.free 61)) (.cons (g_fn (y.glo 43) (y.keep 43) (G__law_tied_call y) (by decide)) (.cons (g_bt (y.free 68)) (.cons (g_fn (y.glo 46) (y.keep 46) (G__law_ties_right y) (by decide)) (.cons (g_fn (y.glo 47) (y.keep 47) (G__law_moved_right y) (by decide)) (.cons (g_fn (y.glo 48) (y.keep 48) (G__law_authors_right y) (by decide)) .nil))))))
theorem G_law (y : Hyp w K mg base h) : FnG P w K mg base cl (tabPairs (tabs K)) 13 (He.ga K "law") ["script"] F_law := by
  obtain ⟨fd, FD⟩ := y.def_ 50
  exact fnG_fun (k := 12) FD s_law p_law k_law (fun z => by cases z) (.cons (g_bt (y.free 55)) (.cons (g_fn (y.glo 49) (y.keep 49) (G__law_right y) (by decide)) (.cons (g_fn (y.glo 33) (y.keep 33) (G__law_pot y) (by decide)) (.cons (g_bt (y.free 61)) (.cons (g_bt (y.free 60)) (.cons (g_bt (y.free 59)) (.cons (g_bt (y.free 57)) .nil)))))))
end
theorem run (w : World) : HandSHeadRun.RunEq LW.row (PySem.W.view LW.row.prog [67]) hk ob 8000 loose w := by
  intro os
  kernel_rfl
end LK
open PySem PySem.W PySem.Calls PyProof.Rows
theorem PySem.Challenge.cw_calledpapers_k20_whole_ties_that_count_holds : PySem.Challenge.rw_calledpapers_k20_whole_ties_that_count.Holds := by
  w_on; o_law
  refine HandSHeadRun.head_any (r := LK.LW.row) (q := view LK.LW.row.prog [67]) (H := LK.hk) (ob := LK.ob) (M := 8000) (loose := LK.loose) (d := HandSHeadRun.topDef LK.LW.row.prog 67) (kwd := []) LK.ob_eq
    (by kernel_rfl) (fun s => by kernel_rfl) LK.run (by kernel_rfl) (by kernel_rfl) (by kernel_rfl) (by rfl) (by first | assumption | decide +kernel) (by decide +kernel) ⟨rfl, rfl, rfl, rfl, rfl, by decide +kernel⟩ ?hw ?hc
  case hw => w_witness2
  case hc =>
    refine DL.walk_ofG (l := LK.LW) (n := 63) (k := 13) (x := "script") (F := LK.F_law) rfl (by decide) (by kernel_rfl) ⟨rfl, by decide, by decide⟩ (fun w mg fa h Y nsG hm => ?_) LK.law_true
    obtain ⟨K, inK, c⟩ := Y
    have nmL : (HandSHeadRun.topDef LK.LW.row.prog 67).name = ("law" : PySem.Str) := by kernel_rfl
    rw [nmL] at hm
    have e := hm.symm.trans (He.glo_ok inK nsG (c.t.d.fact 50 (f := .glo "law") rfl))
    cases e
    refine ⟨K, LK.tabs K, fun _ => none, inK, ⟨fun p hp => ?_, fun p hp => ?_, fun p hp => ?_⟩, fun base hb1 hb2 ht => LK.G_law ⟨inK, nsG, c, ht⟩⟩
    · obtain ⟨q, hq, rfl⟩ := List.mem_map.mp hp
      exact c.empty q hq
    · obtain ⟨q, hq, rfl⟩ := List.mem_map.mp hp
      exact c.out q hq
    · obtain ⟨q, hq, rfl⟩ := List.mem_map.mp hp
      exact PySem.W.codeHd_of_K inK (c.hd q hq)
