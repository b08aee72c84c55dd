import PyProof.Rows.All
import Wide.All
import OpenK.AllK
import Wide.FinOn
import HandS.ForExc
import HandS.IsInst
import HandS.Rev
import HandS.RevRange
import HandS.ForMost
import HandS.ExcOwn
import HandS.ExcBuiltin
import HandS.Defaults
import HandS.Head0
import HandS.Head1
import HandS.Head2
import HandS.HeadEnd
import HandS.HeadHook1
import HandS.HeadHook2
import PySem.Challenge.RW_beatwright_k04_size_of_a_term
import HandS.Text
import HandS.TupAny
set_option Elab.async false
set_option linter.all false
set_option maxRecDepth 100000
set_option maxHeartbeats 0
/-! The little language: values without a heap, an evaluator. -/
namespace BW
open PySem

/-- (so simp keeps a proof, and the kernel need not find one) -/
theorem nr {α : Type} {a b : α} (h : a = b) : a = b := h
/-- a key of a dict -/
inductive K2 where
  | k (x : Sum Int Str)
  | t (xs : List (Sum Int Str))
  deriving DecidableEq

/-- values; the mark o of a list, a dict: it is nobody else's -/
inductive PV where
  | non
  | bl (b : Bool)
  | int (i : Int)
  | str (x : Str)
  | tup (xs : List PV)
  | lst (o : Bool) (xs : List PV)
  | dct (o : Bool) (kvs : List (K2 × PV))
  | exn (c : Nat)
  | scr (xs : List PV)
  deriving Inhabited

mutual
/-- no longer one's own -/
def frz : PV → PV
  | .tup xs => .tup (frzs xs)
  | .lst _ xs => .lst false (frzs xs)
  | .dct _ kvs => .dct false (frzd kvs)
  | .non => .non
  | .bl b => .bl b
  | .int i => .int i
  | .str x => .str x
  | .exn c => .exn c
  | .scr xs => .scr xs
def frzs : List PV → List PV
  | [] => []
  | x :: xs => frz x :: frzs xs
def frzd : List (K2 × PV) → List (K2 × PV)
  | [] => []
  | (k, x) :: xs => (k, frz x) :: frzd xs
end

mutual
/-- holds nothing that can change and may be someone else's -/
def cls : PV → Bool
  | .tup xs => clss xs
  | .lst o xs => o && clss xs
  | .dct o kvs => o && clsd kvs
  | .non => true
  | .bl _ => true
  | .int _ => true
  | .str _ => true
  | .exn _ => true
  | .scr _ => true
def clss : List PV → Bool
  | [] => true
  | x :: xs => cls x && clss xs
def clsd : List (K2 × PV) → Bool
  | [] => true
  | (_, x) :: xs => cls x && clsd xs
end

mutual
/-- as plain data -/
def toD : PV → PyData
  | .non => .none
  | .bl b => .bool b
  | .int i => .int i
  | .str x => .str x
  | .tup xs => .tuple (toDs xs)
  | .lst _ xs => .list (toDs xs)
  | .dct _ _ => .none
  | .exn _ => .none
  | .scr _ => .none
def toDs : List PV → List PyData
  | [] => []
  | x :: xs => toD x :: toDs xs
end
mutual
/-- plain data, so deep at most -/
def okD : Nat → PV → Bool
  | n + 1, .tup xs => okDs n xs
  | n + 1, .lst _ xs => okDs n xs
  | 0, .tup _ => false
  | 0, .lst _ _ => false
  | _, .dct _ _ => false
  | _, .exn _ => false
  | _, .scr _ => false
  | _, .non => true
  | _, .bl _ => true
  | _, .int _ => true
  | _, .str _ => true
def okDs : Nat → List PV → Bool
  | _, [] => true
  | n, x :: xs => okD n x && okDs n xs
end
def peq (x y : PV) : Bool := PyData.eqv (toD x) (toD y)
def eqok (x y : PV) : Bool := okD 64 x && okD 64 y

inductive Res (α : Type) where
  | ok (a : α)
  | exc (c : Nat)
  | bad
  deriving Inhabited
def Res.bind {α β : Type} (x : Res α) (f : α → Res β) : Res β := match x with
  | .ok a => f a
  | .exc c => .exc c
  | .bad => .bad
@[simp] theorem Res.bind_ok {α β : Type} (a : α) (f : α → Res β) : (Res.ok a).bind f = f a := nr rfl
@[simp] theorem Res.bind_exc {α β : Type} (c : Nat) (f : α → Res β) : (Res.exc c).bind f = .exc c := nr rfl
@[simp] theorem Res.bind_bad {α β : Type} (f : α → Res β) : (Res.bad : Res α).bind f = .bad := nr rfl

/-- a module's constant -/
inductive Gk where
  | int (i : Int)
  | str (x : Str)
  | txs (xs : List Str)
  deriving DecidableEq
def Gk.pv : Gk → PV
  | .int i => .int i
  | .str x => .str x
  | .txs xs => .tup (xs.map PV.str)
abbrev PEnv := List (Option PV)

inductive Bop where
  | add | sub | mul | fdiv | mod | pow | shl | shr | band | bor | bxor
  deriving DecidableEq
inductive Cop where
  | eq | ne | lt | le | gt | ge | isN | isnt | isin | notin
  deriving DecidableEq
inductive Bi where
  | len | int | str | list | tuple | sum | min | max | all | isInt | isBool | isList | isTuple | isDict | isStr | sorted | dict
  deriving DecidableEq

mutual
/-- expressions -/
inductive Ex where
  | var (i : Nat)
  | non
  | bl (b : Bool)
  | int (i : Int)
  | str (x : Str)
  | bin (op : Bop) (a b : Ex)
  | neg (a : Ex)
  | not (a : Ex)
  | and (a b : Ex)
  | or (a b : Ex)
  | cmp (op : Cop) (a b : Ex)
  | chn (op op' : Cop) (a b c : Ex)
  | tup (es : Exs)
  | lst (es : Exs)
  | idx (a i : Ex)
  | slc (a : Ex) (lo hi : Exo)
  | call (f : Nat) (es : Exs)
  | bi (b : Bi) (es : Exs)
  | lc (t : List Nat) (own : List Nat) (it : Iw) (c : Exo) (e : Ex)
  | con (g : Gk)
inductive Exs where
  | nil
  | cons (e : Ex) (es : Exs)
inductive Exo where
  | none
  | some (e : Ex)
/-- what is walked -/
inductive Iw where
  | ex (e : Ex)
  | rng (es : Exs)
  | rev (e : Ex)
  | revr (es : Exs)
end

/-! ### operators -/
def mulOk (i j : Int) : Bool := decide (i.natAbs < 2 ^ 400000 ∧ j.natAbs < 2 ^ 400000)
def binI (op : Bop) (i j : Int) : Res PV := match op with
  | .add => .ok (.int (i + j))
  | .sub => .ok (.int (i - j))
  | .mul => if (decide (-(2 ^ 64) < i ∧ i < 2 ^ 64) || decide (-(2 ^ 64) < j ∧ j < 2 ^ 64)) = true then .ok (.int (i * j)) else .bad
  | .fdiv => if (decide (0 < j) && decide (j < 1073741824)) = true then .ok (.int (i / j)) else .bad
  | .mod => if decide (0 < j) = true then .ok (.int (i % j)) else .bad
  | .pow => if (decide (0 ≤ j ∧ j ≤ 1000000) && decide (i.natAbs < 2 ^ 64)) = true then .ok (.int (i ^ j.toNat)) else .bad
  | .shl => if (decide (0 ≤ j ∧ j ≤ 1000000) && decide (i.natAbs < 2 ^ 64)) = true then .ok (.int (i * 2 ^ j.toNat)) else .bad
  | .shr => if decide (0 ≤ j) = true then .ok (.int (i / 2 ^ j.toNat)) else .bad
  | .band => .ok (.int (Builtin.bitAnd i j))
  | .bor => .ok (.int (Builtin.bitOr i j))
  | .bxor => .ok (.int (Builtin.bitXor i j))
def most : Nat := 16777216
def binop (op : Bop) (x y : PV) : Res PV := match x, y with
  | .int i, .int j => binI op i j
  | .lst _ xs, .lst _ ys => if (decide (op = .add) && decide (xs.length + ys.length ≤ most)) = true then .ok (.lst true (frzs xs ++ frzs ys)) else .bad
  | .tup xs, .tup ys => if (decide (op = .add) && decide (xs.length + ys.length ≤ most)) = true then .ok (.tup (frzs xs ++ frzs ys)) else .bad
  | .str a, .str b => if (decide (op = .add) && decide (a.length + b.length ≤ most)) = true then .ok (.str (a ++ b)) else .bad
  | _, _ => .bad
/-- flat values -/
def flat : PV → Bool
  | .non => true
  | .bl _ => true
  | .int _ => true
  | .str _ => true
  | _ => false
def feq : PV → PV → Bool
  | .non, .non => true
  | .bl a, .bl b => a == b
  | .bl a, .int b => (if a then 1 else 0) == b
  | .int a, .bl b => a == (if b then 1 else 0)
  | .int a, .int b => a == b
  | .str a, .str b => a == b
  | _, _ => false
/-- x in xs, flat values -/
def fin (x : PV) (xs : List PV) : Bool := xs.any fun y => feq y x
def inop (neg : Bool) (x y : PV) : Res PV := match y with
  | .lst _ ys => if (flat x && ys.all flat) = true then .ok (.bl (if neg then !fin x ys else fin x ys)) else .bad
  | .tup ys => if (flat x && ys.all flat) = true then .ok (.bl (if neg then !fin x ys else fin x ys)) else .bad
  | _ => .bad
def cmpop (op : Cop) (x y : PV) : Res PV := match op with
  | .eq => if eqok x y = true then .ok (.bl (peq x y)) else .bad
  | .ne => if eqok x y = true then .ok (.bl (!peq x y)) else .bad
  | .lt => match x, y with
    | .int i, .int j => .ok (.bl (decide (i < j)))
    | _, _ => .bad
  | .le => match x, y with
    | .int i, .int j => .ok (.bl (decide (i ≤ j)))
    | _, _ => .bad
  | .gt => match x, y with
    | .int i, .int j => .ok (.bl (decide (j < i)))
    | _, _ => .bad
  | .ge => match x, y with
    | .int i, .int j => .ok (.bl (decide (j ≤ i)))
    | _, _ => .bad
  | .isN => match y with
    | .non => .ok (.bl (match x with | .non => true | _ => false))
    | _ => .bad
  | .isnt => match y with
    | .non => .ok (.bl (match x with | .non => false | _ => true))
    | .bl b => (match x with | .bl a => .ok (.bl (a != b)) | _ => .bad)
    | _ => .bad
  | .isin => inop false x y
  | .notin => inop true x y
def idxop (x y : PV) : Res PV := match x, y with
  | .lst _ xs, .int i => (match L2.atI xs i with | some v => .ok (frz v) | none => .bad)
  | .tup xs, .int i => (match L2.atI xs i with | some v => .ok (frz v) | none => .bad)
  | .scr xs, .int i => (match L2.atI xs i with | some v => .ok (frz v) | none => .bad)
  | .str z, .int i => (match L2.atI z.cps.toList i with | some c => if decide (z.length ≤ most) = true then .ok (.str ⟨#[c]⟩) else .bad | none => .bad)
  | _, _ => .bad
def cutP {α : Type} (xs : List α) (lo hi : Option Int) : List α := (xs.drop (HT.sIx xs.length 0 lo)).take (HT.sIx xs.length xs.length hi - HT.sIx xs.length 0 lo)
def intO : PV → Res (Option Int)
  | .int i => .ok (some i)
  | _ => .bad
def slcop (x : PV) (lo hi : Option Int) : Res PV := match x with
  | .lst _ xs => .ok (.lst true (frzs (cutP xs lo hi)))
  | .scr xs => .ok (.lst true (frzs (cutP xs lo hi)))
  | .tup xs => .ok (.tup (frzs (cutP xs lo hi)))
  | .str z => if decide (z.length ≤ most) = true then .ok (.str (L2.cutS z lo hi)) else .bad
  | _ => .bad
def asB : PV → Res Bool
  | .bl b => .ok b
  | _ => .bad
def allI : List PV → Option (List Int)
  | [] => some []
  | .int i :: r => (allI r).map (i :: ·)
  | _ :: _ => none
def lenV : PV → Res PV
  | .lst _ xs => .ok (.int xs.length)
  | .tup xs => .ok (.int xs.length)
  | .scr xs => .ok (.int xs.length)
  | _ => .bad
def intV : PV → Res PV
  | .int i => .ok (.int i)
  | .bl k => .ok (.int (if k then 1 else 0))
  | _ => .bad
def listV : PV → Res PV
  | .lst _ xs => .ok (.lst true (frzs xs))
  | .tup xs => .ok (.lst true (frzs xs))
  | _ => .bad
def tupV : PV → Res PV
  | .lst _ xs => .ok (.tup (frzs xs))
  | .tup xs => .ok (.tup (frzs xs))
  | _ => .bad
def min2 (x y : PV) : Res PV := match x with
  | .int i => (match y with
    | .int j => .ok (.int (if j < i then j else i))
    | _ => .bad)
  | _ => .bad
def max2 (x y : PV) : Res PV := match x with
  | .int i => (match y with
    | .int j => .ok (.int (if j > i then j else i))
    | _ => .bad)
  | _ => .bad
/-- isinstance: where the answer is told -/
def isV (b : Bi) (x : PV) : Option Bool := match x with
  | .non => (match b with
    | .isInt => some false
    | .isBool => some false
    | .isList => some false
    | .isTuple => some false
    | .isStr => some false
    | .isDict => some false
    | _ => none)
  | .int _ => (match b with
    | .isInt => some true
    | .isBool => some false
    | .isList => some false
    | .isTuple => some false
    | .isStr => some false
    | .isDict => some false
    | _ => none)
  | .bl _ => (match b with
    | .isInt => some true
    | .isBool => some true
    | .isList => some false
    | .isTuple => some false
    | .isStr => some false
    | .isDict => some false
    | _ => none)
  | .str _ => (match b with
    | .isInt => some false
    | .isBool => some false
    | .isList => some false
    | .isTuple => some false
    | .isStr => some true
    | .isDict => some false
    | _ => none)
  | .lst _ _ => (match b with
    | .isInt => some false
    | .isBool => some false
    | .isList => some true
    | .isTuple => some false
    | .isStr => some false
    | .isDict => some false
    | _ => none)
  | .tup _ => (match b with
    | .isInt => some false
    | .isBool => some false
    | .isList => some false
    | .isTuple => some true
    | .isStr => some false
    | .isDict => some false
    | _ => none)
  | _ => none
def isR (o : Option Bool) : Res PV := match o with
  | some k => .ok (.bl k)
  | none => .bad
def bi1 (b : Bi) (x : PV) : Res PV := match b with
  | .len => lenV x
  | .int => intV x
  | .list => listV x
  | .tuple => tupV x
  | .isInt => isR (isV .isInt x)
  | .isBool => isR (isV .isBool x)
  | .isList => isR (isV .isList x)
  | .isTuple => isR (isV .isTuple x)
  | .isDict => isR (isV .isDict x)
  | .isStr => isR (isV .isStr x)
  | _ => .bad
def bi2 (b : Bi) (x y : PV) : Res PV := match b with
  | .min => min2 x y
  | .max => max2 x y
  | _ => .bad
def biV (b : Bi) (vs : List PV) : Res PV := match vs with
  | [x] => bi1 b x
  | [x, y] => bi2 b x y
  | _ => .bad
def rngI (lo hi : Int) : List PV := (List.range (hi - lo).toNat).map fun (k : Nat) => PV.int (lo + (k : Int))
def smallI (i : Int) : Bool := decide (-(2 ^ 62) ≤ i ∧ i < 2 ^ 62)
def rngV (vs : List PV) : Res (List PV) := match vs with
  | [.int j] => if smallI j = true then .ok (rngI 0 j) else .bad
  | [.int i, .int j] => if (smallI i && smallI j) = true then .ok (rngI i j) else .bad
  | _ => .bad
def itemsV : PV → Res (List PV)
  | .lst _ xs => .ok (frzs xs)
  | .tup xs => .ok (frzs xs)
  | _ => .bad
/-- a target: one name, or several for a tuple -/
def bindT (t : List Nat) (v : PV) (env : PEnv) : Res PEnv := match t with
  | [i] => .ok (env.set i (some v))
  | _ => match v with
    | .tup xs => if xs.length = t.length then .ok ((t.zip xs).foldl (fun e p => e.set p.1 (some p.2)) env) else .bad
    | _ => .bad
def wipeE (own : List Nat) (env : PEnv) : PEnv := own.foldl (fun e i => e.set i none) env
def getE (env : PEnv) (i : Nat) : Res PV := match env[i]? with
  | some (some v) => .ok (frz v)
  | _ => .bad
/-- not carried yet: an exception out of a comprehension -/
def noX {α : Type} : Res α → Res α
  | .ok a => .ok a
  | _ => .bad
/-- a comprehension's turns -/
def lcL (t : List Nat) (c : PEnv → Res Bool) (e : PEnv → Res PV) (env : PEnv) : List PV → List PV → Res (List PV)
  | [], acc => .ok acc
  | x :: xs, acc => (bindT t x env).bind fun env1 => (c env1).bind fun b => if b = true then (e env1).bind fun y => if acc.length < most then lcL t c e env xs (acc ++ [y]) else .bad else lcL t c e env xs acc

abbrev Cl := Nat → List PV → Res PV
mutual
def evE (cl : Cl) (env : PEnv) : Ex → Res PV
  | .var i => getE env i
  | .non => .ok .non
  | .bl b => .ok (.bl b)
  | .int i => .ok (.int i)
  | .str x => .ok (.str x)
  | .bin op a b => (evE cl env a).bind fun x => (evE cl env b).bind fun y => binop op (frz x) (frz y)
  | .neg a => (evE cl env a).bind fun x => match x with
    | .int i => .ok (.int (-i))
    | _ => .bad
  | .not a => (evE cl env a).bind fun x => (asB x).bind fun b => .ok (.bl (!b))
  | .and a b => (evE cl env a).bind fun x => (asB x).bind fun k => if k = true then evE cl env b else .ok (.bl false)
  | .or a b => (evE cl env a).bind fun x => (asB x).bind fun k => if k = true then .ok (.bl true) else evE cl env b
  | .cmp op a b => (evE cl env a).bind fun x => (evE cl env b).bind fun y => cmpop op (frz x) (frz y)
  | .chn op op' a b c => (evE cl env a).bind fun x => (evE cl env b).bind fun y => (cmpop op (frz x) (frz y)).bind fun z => (asB z).bind fun k => if k = true then (evE cl env c).bind fun u => cmpop op' (frz y) (frz u) else .ok (.bl false)
  | .tup es => (evEs cl env es).bind fun vs => .ok (.tup vs)
  | .lst es => (evEs cl env es).bind fun vs => .ok (.lst true vs)
  | .idx a i => (evE cl env a).bind fun x => (evE cl env i).bind fun y => idxop (frz x) (frz y)
  | .slc a lo hi => (evE cl env a).bind fun x => (evO cl env lo).bind fun l => (evO cl env hi).bind fun h => slcop (frz x) l h
  | .call f es => (evEs cl env es).bind fun vs => cl f (frzs vs)
  | .bi b es => (evEs cl env es).bind fun vs => biV b (frzs vs)
  | .con g => .ok g.pv
  | .lc t own it c e => (evI cl env it).bind fun hx => (noX (lcL t (fun env => evC cl env c) (fun env => evE cl env e) (wipeE own env) hx.2 [])).bind fun ys => .ok (.lst true ys)
def evEs (cl : Cl) (env : PEnv) : Exs → Res (List PV)
  | .nil => .ok []
  | .cons e es => (evE cl env e).bind fun x => (evEs cl env es).bind fun xs => .ok (x :: xs)
def evO (cl : Cl) (env : PEnv) : Exo → Res (Option Int)
  | .none => .ok none
  | .some e => (evE cl env e).bind fun x => intO x
def evC (cl : Cl) (env : PEnv) : Exo → Res Bool
  | .none => .ok true
  | .some e => (evE cl env e).bind fun x => asB x
def evI (cl : Cl) (env : PEnv) : Iw → Res (PV × List PV)
  | .ex e => (evE cl env e).bind fun x => (itemsV (frz x)).bind fun xs => .ok (x, xs)
  | .rng es => (evEs cl env es).bind fun vs => (rngV (frzs vs)).bind fun xs => .ok (.non, xs)
  | .rev e => (evE cl env e).bind fun x => (itemsV (frz x)).bind fun xs => .ok (x, xs.reverse)
  | .revr es => (evEs cl env es).bind fun vs => (rngV (frzs vs)).bind fun xs => .ok (.non, xs.reverse)
end

/-! ### the names that an expression reads -/
mutual
def vE : Ex → List Nat
  | .var i => [i]
  | .bin _ a b => vE a ++ vE b
  | .neg a => vE a
  | .not a => vE a
  | .and a b => vE a ++ vE b
  | .or a b => vE a ++ vE b
  | .cmp _ a b => vE a ++ vE b
  | .chn _ _ a b c => vE a ++ (vE b ++ vE c)
  | .tup es => vEs es
  | .lst es => vEs es
  | .idx a i => vE a ++ vE i
  | .slc a lo hi => vE a ++ (vO lo ++ vO hi)
  | .call _ es => vEs es
  | .bi _ es => vEs es
  | .lc _ _ it c e => vI it ++ (vO c ++ vE e)
  | .non => []
  | .bl _ => []
  | .int _ => []
  | .str _ => []
  | .con _ => []
def vEs : Exs → List Nat
  | .nil => []
  | .cons e es => vE e ++ vEs es
def vO : Exo → List Nat
  | .none => []
  | .some e => vE e
def vI : Iw → List Nat
  | .ex e => vE e
  | .rng es => vEs es
  | .rev e => vE e
  | .revr es => vEs es
end
/-- some names' things are no longer one's own -/
def frzV (is : List Nat) (env : PEnv) : PEnv := is.foldl (fun e i => match e[i]? with
  | some (some v) => e.set i (some (frz v))
  | _ => e) env
def aft (v : PV) (is : List Nat) (env : PEnv) : PEnv := if cls v = true then env else frzV is env

/-! ### what is handed back -/
mutual
inductive Me where
  | mv (i : Nat)
  | tup (es : Mes)
  | ex (e : Ex)
inductive Mes where
  | nil
  | cons (e : Me) (es : Mes)
end
mutual
def evM (cl : Cl) (env : PEnv) : Me → Res (PV × PEnv)
  | .mv i => match env[i]? with
    | some (some v) => .ok (v, env.set i none)
    | _ => .bad
  | .tup es => (evMs cl env es).bind fun p => .ok (.tup p.1, p.2)
  | .ex e => (evE cl env e).bind fun v => .ok (v, aft v (vE e) env)
def evMs (cl : Cl) (env : PEnv) : Mes → Res (List PV × PEnv)
  | .nil => .ok ([], env)
  | .cons e es => (evM cl env e).bind fun p => (evMs cl p.2 es).bind fun q => .ok (p.1 :: q.1, q.2)
end

/-! ### statements -/
inductive Mu where
  | append | extend | pop | clear | reverse
  deriving DecidableEq
mutual
inductive Sm where
  | asg (t : List Nat) (e : Ex)
  | mut (x : Nat) (m : Mu) (es : Exs)
  | ifs (c : Ex) (a b : Sms)
  | whl (c : Ex) (b : Sms)
  | for_ (t : List Nat) (it : Iw) (b : Sms)
  | ret (e : Me)
  | ex (e : Ex)
  | brk
  | cont
  | pass
  | raise (c : Nat)
inductive Sms where
  | nil
  | cons (s : Sm) (ss : Sms)
end
inductive Fl where
  | next (env : PEnv)
  | brk (env : PEnv)
  | cont (env : PEnv)
  | ret (v : PV)
  deriving Inhabited
/-- what a statement ends in; an exception with what the names hold then -/
inductive RS where
  | fl (f : Fl)
  | exc (c : Nat) (env : PEnv)
  | bad
  deriving Inhabited
def RS.seq (x : RS) (f : PEnv → RS) : RS := match x with
  | .fl (.next env) => f env
  | .fl (.brk env) => .fl (.brk env)
  | .fl (.cont env) => .fl (.cont env)
  | .fl (.ret v) => .fl (.ret v)
  | .exc c env => .exc c env
  | .bad => .bad
def RS.of {α : Type} (x : Res α) (env : PEnv) (f : α → RS) : RS := match x with
  | .ok a => f a
  | .exc c => .exc c env
  | .bad => .bad
@[simp] theorem RS.of_ok {α : Type} (a : α) (env : PEnv) (f : α → RS) : RS.of (.ok a) env f = f a := nr rfl
@[simp] theorem RS.of_exc {α : Type} (c : Nat) (env : PEnv) (f : α → RS) : RS.of (.exc c) env f = .exc c env := nr rfl
@[simp] theorem RS.of_bad {α : Type} (env : PEnv) (f : α → RS) : RS.of .bad env f = .bad := nr rfl
@[simp] theorem RS.seq_next (env : PEnv) (f : PEnv → RS) : (RS.fl (.next env)).seq f = f env := nr rfl
@[simp] theorem RS.seq_brk (env : PEnv) (f : PEnv → RS) : (RS.fl (.brk env)).seq f = .fl (.brk env) := nr rfl
@[simp] theorem RS.seq_cont (env : PEnv) (f : PEnv → RS) : (RS.fl (.cont env)).seq f = .fl (.cont env) := nr rfl
@[simp] theorem RS.seq_ret (v : PV) (f : PEnv → RS) : (RS.fl (.ret v)).seq f = .fl (.ret v) := nr rfl
@[simp] theorem RS.seq_exc (c : Nat) (env : PEnv) (f : PEnv → RS) : (RS.exc c env).seq f = .exc c env := nr rfl
@[simp] theorem RS.seq_bad (f : PEnv → RS) : RS.bad.seq f = .bad := nr rfl
def muV (m : Mu) (xs : List PV) (vs : List PV) : Option (List PV) := match m, vs with
  | .append, [v] => if xs.length < most then some (xs ++ [v]) else none
  | .extend, [.lst _ ys] => if xs.length + ys.length ≤ most then some (xs ++ frzs ys) else none
  | .pop, [] => if xs.length = 0 then none else some xs.dropLast
  | .clear, [] => some []
  | .reverse, [] => some xs.reverse
  | _, _ => none
/-- what stays of a method's arguments -/
def kept (m : Mu) (vs : List PV) : List PV := match m, vs with
  | .extend, [.lst _ ys] => frzs ys
  | .append, _ => vs
  | _, _ => []
def hasL (env : PEnv) (x : Nat) : Bool := match env[x]? with
  | some (some (.lst _ _)) => true
  | _ => false
def muS (x : Nat) (m : Mu) (vs : List PV) (env : PEnv) : RS := match env[x]? with
  | some (some (.lst true xs)) => (match muV m xs vs with
    | some ys => .fl (.next (env.set x (some (.lst true ys))))
    | none => .bad)
  | _ => .bad
def whlL (c : PEnv → Res Bool) (b : PEnv → RS) : Nat → PEnv → RS
  | 0, _ => .bad
  | n + 1, env => RS.of (c env) env fun k => if k = true then (match b env with
    | .fl (.next env1) => whlL c b n env1
    | .fl (.cont env1) => whlL c b n env1
    | .fl (.brk env1) => .fl (.next env1)
    | .fl (.ret v) => .fl (.ret v)
    | .exc e env1 => .exc e env1
    | .bad => .bad) else .fl (.next env)
def forL (t : List Nat) (b : PEnv → RS) : List PV → PEnv → RS
  | [], env => .fl (.next env)
  | x :: xs, env => RS.of (bindT t x env) env fun env1 => match b env1 with
    | .fl (.next env2) => forL t b xs env2
    | .fl (.cont env2) => forL t b xs env2
    | .fl (.brk env2) => .fl (.next env2)
    | .fl (.ret v) => .fl (.ret v)
    | .exc e env2 => .exc e env2
    | .bad => .bad
mutual
def evS (cl : Cl) (w : Nat) (env : PEnv) : Sm → RS
  | .asg t e => RS.of (evE cl env e) env fun v => RS.of (bindT t v (aft v (vE e) env)) env fun env1 => .fl (.next env1)
  | .mut x m es => if hasL env x = true then RS.of (evEs cl env es) env fun vs => muS x m vs (aft (.tup (kept m vs)) (vEs es) env) else .bad
  | .ifs c a b => RS.of ((evE cl env c).bind asB) env fun k => if k = true then evSs cl w env a else evSs cl w env b
  | .whl c b => whlL (fun env => (evE cl env c).bind asB) (fun env => evSs cl w env b) w env
  | .for_ t it b => RS.of (evI cl env it) env fun hx => forL t (fun env => evSs cl w env b) hx.2 (aft hx.1 (vI it) env)
  | .ret e => RS.of (evM cl env e) env fun v => .fl (.ret v.1)
  | .ex e => RS.of (evE cl env e) env fun _ => .fl (.next env)
  | .brk => .fl (.brk env)
  | .cont => .fl (.cont env)
  | .pass => .fl (.next env)
  | .raise c => .exc c env
def evSs (cl : Cl) (w : Nat) (env : PEnv) : Sms → RS
  | .nil => .fl (.next env)
  | .cons s ss => (evS cl w env s).seq fun env1 => evSs cl w env1 ss
end
structure Fd where
  np : Nat
  ns : Nat
  body : Sms
def outR : RS → Res PV
  | .fl (.next _) => .ok .non
  | .fl (.ret v) => .ok v
  | .exc c _ => .exc c
  | _ => .bad
@[simp] theorem outR_next (env : PEnv) : outR (.fl (.next env)) = .ok .non := nr rfl
@[simp] theorem outR_ret (v : PV) : outR (.fl (.ret v)) = .ok v := nr rfl
@[simp] theorem outR_exc (c : Nat) (env : PEnv) : outR (.exc c env) = .exc c := nr rfl
def runB (cl : Cl) (w : Nat) (d : Fd) (vs : List PV) : Res PV := if vs.length = d.np then outR (evSs cl w (vs.map some ++ List.replicate (d.ns - d.np) none) d.body) else .bad
def callF (T : Nat → Option Fd) (w : Nat) : Nat → Cl
  | 0 => fun _ _ => .bad
  | n + 1 => fun f vs => match T f with
    | some d => runB (callF T w n) w d vs
    | none => .bad
end BW

/-! How values stand in the abstract heap. -/
namespace BW
open PySem PySem.Spec L2

/-- what can change -/
def isMu : HO → Bool
  | .lst _ => true
  | .dK _ => true
  | .dT _ => true
  | .ins _ _ _ => true
  | _ => false

/-- a list that no one changes -/
def SqS (K : PySem.W.Frag) (H : Hp) (a : Addr) (xs : List V) : Prop :=
  (∃ o, H a = some (.frz o (.lst xs))) ∨
    ∃ (o : Obj) (its : Array Value) (n : Nat), K.lookup a = some o ∧ o.cls = .type "list" ∧ o.dict = none ∧ o.data = .seq its n ∧ its.size ≤ sizeLine ∧ Vals xs its.toList
theorem SqS.seq {K : PySem.W.Frag} {H : Hp} {a : Addr} {xs : List V} (h : SqS K H a xs) : SqL K H a xs := h.elim (fun h => .inl (.inr h)) .inr
mutual
inductive Rp (K : PySem.W.Frag) (H : Hp) (ok : Addr → Prop) : PV → V → List Addr → Prop where
  | non : Rp K H ok .non .non []
  | bl (b : Bool) : Rp K H ok (.bl b) (.bl b) []
  | int (i : Int) : Rp K H ok (.int i) (.int i) []
  | str (x : Str) : PyData.strOk x = true → Rp K H ok (.str x) (.str x) []
  | tup {a : Addr} {xs : List PV} {vs : List V} {fp : List Addr} : SqT K H a vs → Rps K H ok xs vs fp → Rp K H ok (.tup xs) (.ref a) fp
  | lstF {a : Addr} {xs : List PV} {vs : List V} : Rd H a (.lst vs) → ok a → Rps K H ok xs vs [] → Rp K H ok (.lst false xs) (.ref a) []
  | lstO {a : Addr} {xs : List PV} {vs : List V} {fp : List Addr} : H a = some (.lst vs) → Rps K H ok xs vs fp → Rp K H ok (.lst true xs) (.ref a) (a :: fp)
  | scr {a : Addr} {is : List Int} : SqS K H a (is.map V.int) → Rp K H ok (.scr (is.map PV.int)) (.ref a) []
inductive Rps (K : PySem.W.Frag) (H : Hp) (ok : Addr → Prop) : List PV → List V → List Addr → Prop where
  | nil : Rps K H ok [] [] []
  | cons {x : PV} {v : V} {f : List Addr} {xs : List PV} {vs : List V} {fs : List Addr} : Rp K H ok x v f → Rps K H ok xs vs fs → Rps K H ok (x :: xs) (v :: vs) (f ++ fs)
end

section
variable {K : PySem.W.Frag} {H H' : Hp} {ok ok' : Addr → Prop}
theorem Rps.len {xs : List PV} {vs : List V} {fs : List Addr} (h : Rps K H ok xs vs fs) : xs.length = vs.length := by
  induction xs generalizing vs fs with
  | nil => cases h; rfl
  | cons x xs ih =>
    cases h with
    | cons _ r => simp [ih r]
mutual
theorem Rp.frz : ∀ {x : PV} {v : V} {fp : List Addr}, Rp K H ok x v fp → (∀ a, ok a → ok' a) → (∀ a ∈ fp, ok' a) → Rp K H ok' (BW.frz x) v []
  | .non, _, _, h, _, _ => by cases h; exact .non
  | .bl b, _, _, h, _, _ => by cases h; exact .bl b
  | .int i, _, _, h, _, _ => by cases h; exact .int i
  | .str x, _, _, h, _, _ => by
    cases h with
    | str _ z => exact .str x z
  | .tup xs, _, _, h, k, g => by
    cases h with
    | tup hs r => exact .tup hs (Rps.frz r k g)
  | .lst false xs, _, _, h, k, g => by
    cases h with
    | lstF hs o r => exact .lstF hs (k _ o) (Rps.frz r k (fun _ z => nomatch z))
  | .lst true xs, _, _, h, k, g => by
    cases h with
    | lstO hs r => exact .lstF (.inl hs) (g _ List.mem_cons_self) (Rps.frz r k fun a z => g a (List.mem_cons_of_mem _ z))
  | .dct _ _, _, _, h, _, _ => by cases h
  | .exn _, _, _, h, _, _ => by cases h
  | .scr xs, _, _, h, k, g => by
    cases h with
    | scr hs => exact .scr hs
theorem Rps.frz : ∀ {xs : List PV} {vs : List V} {fp : List Addr}, Rps K H ok xs vs fp → (∀ a, ok a → ok' a) → (∀ a ∈ fp, ok' a) → Rps K H ok' (frzs xs) vs []
  | [], _, _, h, _, _ => by cases h; exact .nil
  | x :: xs, _, _, h, k, g => by
    cases h with
    | cons r rs => exact .cons (f := []) (fs := []) (Rp.frz r k fun a z => g a (List.mem_append_left _ z)) (Rps.frz rs k fun a z => g a (List.mem_append_right _ z))
end
/-- what an object is known by, where it does not change -/
theorem sqT_keep {M : Addr → Prop} {a : Addr} {vs : List V} (k : ∀ a o, H a = some o → ¬ M a → H' a = some o) (m : ∀ a, M a → ∃ u, H a = some u ∧ isMu u = true) (h : SqT K H a vs) : SqT K H' a vs := by
  have nm : ∀ u, H a = some u → isMu u = false → ¬ M a := fun u e i z => by
    obtain ⟨u', e', i'⟩ := m a z
    rw [e] at e'; cases e'; rw [i] at i'; cases i'
  rcases h with (h | ⟨o, h⟩) | h
  · exact .inl (.inl (k _ _ h (nm _ h rfl)))
  · exact .inl (.inr ⟨o, k _ _ h (nm _ h rfl)⟩)
  · exact .inr h
theorem sqS_keep {M : Addr → Prop} {a : Addr} {vs : List V} (k : ∀ a o, H a = some o → ¬ M a → H' a = some o) (m : ∀ a, M a → ∃ u, H a = some u ∧ isMu u = true) (h : SqS K H a vs) : SqS K H' a vs := by
  rcases h with ⟨o, h⟩ | h
  · refine .inl ⟨o, k _ _ h fun z => ?_⟩
    obtain ⟨u', e', i'⟩ := m a z
    rw [h] at e'; cases e'; cases i'
  · exact .inr h
theorem rd_keep {M : Addr → Prop} {a : Addr} {u : HO} (k : ∀ a o, H a = some o → ¬ M a → H' a = some o) (n : ¬ M a) (h : Rd H a u) : Rd H' a u := by
  rcases h with h | ⟨o, h⟩
  · exact .inl (k _ _ h n)
  · exact .inr ⟨o, k _ _ h n⟩
mutual
/-- what is at M may change -/
theorem Rp.keep {M : Addr → Prop} (k : ∀ a o, H a = some o → ¬ M a → H' a = some o) (m : ∀ a, M a → ∃ u, H a = some u ∧ isMu u = true) :
    ∀ {x : PV} {v : V} {fp : List Addr}, Rp K H ok x v fp → (∀ a, ok a → ok' a) → (∀ a, ok a → ¬ M a) → (∀ a ∈ fp, ¬ M a) → Rp K H' ok' x v fp
  | .non, _, _, h, _, _, _ => by cases h; exact .non
  | .bl b, _, _, h, _, _, _ => by cases h; exact .bl b
  | .int i, _, _, h, _, _, _ => by cases h; exact .int i
  | .str x, _, _, h, _, _, _ => by
    cases h with
    | str _ z => exact .str x z
  | .tup xs, _, _, h, o, n, g => by
    cases h with
    | tup hs r => exact .tup (sqT_keep k m hs) (Rps.keep k m r o n g)
  | .lst false xs, _, _, h, o, n, g => by
    cases h with
    | lstF hs ho r => exact .lstF (rd_keep k (n _ ho) hs) (o _ ho) (Rps.keep k m r o n (fun _ z => nomatch z))
  | .lst true xs, _, _, h, o, n, g => by
    cases h with
    | lstO hs r => exact .lstO (k _ _ hs (g _ List.mem_cons_self)) (Rps.keep k m r o n fun a z => g a (List.mem_cons_of_mem _ z))
  | .dct _ _, _, _, h, _, _, _ => by cases h
  | .exn _, _, _, h, _, _, _ => by cases h
  | .scr xs, _, _, h, o, n, g => by
    cases h with
    | scr hs => exact .scr (sqS_keep k m hs)
theorem Rps.keep {M : Addr → Prop} (k : ∀ a o, H a = some o → ¬ M a → H' a = some o) (m : ∀ a, M a → ∃ u, H a = some u ∧ isMu u = true) :
    ∀ {xs : List PV} {vs : List V} {fp : List Addr}, Rps K H ok xs vs fp → (∀ a, ok a → ok' a) → (∀ a, ok a → ¬ M a) → (∀ a ∈ fp, ¬ M a) → Rps K H' ok' xs vs fp
  | [], _, _, h, _, _, _ => by cases h; exact .nil
  | x :: xs, _, _, h, o, n, g => by
    cases h with
    | cons r rs => exact .cons (Rp.keep k m r o n fun a z => g a (List.mem_append_left _ z)) (Rps.keep k m rs o n fun a z => g a (List.mem_append_right _ z))
end
theorem Rp.same {x : PV} {v : V} {fp : List Addr} (s : Same H H') (h : Rp K H ok x v fp) : Rp K H' ok x v fp :=
  h.keep (M := fun _ => False) (fun a o e _ => s a o e) (fun _ z => z.elim) (fun _ z => z) (fun _ _ z => z) (fun _ _ z => z)
theorem Rps.same {x : List PV} {v : List V} {fp : List Addr} (s : Same H H') (h : Rps K H ok x v fp) : Rps K H' ok x v fp :=
  h.keep (M := fun _ => False) (fun a o e _ => s a o e) (fun _ z => z.elim) (fun _ z => z) (fun _ _ z => z) (fun _ _ z => z)
theorem Rp.imp {x : PV} {v : V} {fp : List Addr} (s : ∀ a, ok a → ok' a) (h : Rp K H ok x v fp) : Rp K H ok' x v fp :=
  h.keep (M := fun _ => False) (fun a o e _ => e) (fun _ z => z.elim) s (fun _ _ z => z) (fun _ _ z => z)
theorem Rps.imp {x : List PV} {v : List V} {fp : List Addr} (s : ∀ a, ok a → ok' a) (h : Rps K H ok x v fp) : Rps K H ok' x v fp :=
  h.keep (M := fun _ => False) (fun a o e _ => e) (fun _ z => z.elim) s (fun _ _ z => z) (fun _ _ z => z)
mutual
/-- nothing in it may be someone else's: the condition is of no account -/
theorem Rp.free : ∀ {x : PV} {v : V} {fp : List Addr}, Rp K H ok x v fp → cls x = true → Rp K H ok' x v fp
  | .non, _, _, h, _ => by cases h; exact .non
  | .bl b, _, _, h, _ => by cases h; exact .bl b
  | .int i, _, _, h, _ => by cases h; exact .int i
  | .str x, _, _, h, _ => by
    cases h with
    | str _ z => exact .str x z
  | .tup xs, _, _, h, c => by
    cases h with
    | tup hs r => exact .tup hs (Rps.free r c)
  | .lst false xs, _, _, h, c => by
    have c' : (false && clss xs) = true := c
    cases c'
  | .lst true xs, _, _, h, c => by
    have c' : (true && clss xs) = true := c
    cases h with
    | lstO hs r => exact .lstO hs (Rps.free r c')
  | .dct _ _, _, _, h, _ => by cases h
  | .exn _, _, _, h, _ => by cases h
  | .scr xs, _, _, h, c => by
    cases h with
    | scr hs => exact .scr hs
theorem Rps.free : ∀ {xs : List PV} {vs : List V} {fp : List Addr}, Rps K H ok xs vs fp → clss xs = true → Rps K H ok' xs vs fp
  | [], _, _, h, _ => by cases h; exact .nil
  | x :: xs, _, _, h, c => by
    have c' : (cls x && clss xs) = true := c
    rw [Bool.and_eq_true] at c'
    cases h with
    | cons r rs => exact .cons (Rp.free r c'.1) (Rps.free rs c'.2)
end
mutual
/-- what may be someone else's stands somewhere -/
theorem Rp.inD : ∀ {x : PV} {v : V} {fp : List Addr}, Rp K H ok x v fp → Rp K H (fun a => ok a ∧ ∃ u, H a = some u) x v fp
  | .non, _, _, h => by cases h; exact .non
  | .bl b, _, _, h => by cases h; exact .bl b
  | .int i, _, _, h => by cases h; exact .int i
  | .str x, _, _, h => by
    cases h with
    | str _ z => exact .str x z
  | .tup xs, _, _, h => by
    cases h with
    | tup hs r => exact .tup hs (Rps.inD r)
  | .lst false xs, _, _, h => by
    cases h with
    | lstF hs ho r => exact .lstF hs ⟨ho, by rcases hs with h | ⟨o, h⟩ <;> exact ⟨_, h⟩⟩ (Rps.inD r)
  | .lst true xs, _, _, h => by
    cases h with
    | lstO hs r => exact .lstO hs (Rps.inD r)
  | .dct _ _, _, _, h => by cases h
  | .exn _, _, _, h => by cases h
  | .scr xs, _, _, h => by
    cases h with
    | scr hs => exact .scr hs
theorem Rps.inD : ∀ {xs : List PV} {vs : List V} {fp : List Addr}, Rps K H ok xs vs fp → Rps K H (fun a => ok a ∧ ∃ u, H a = some u) xs vs fp
  | [], _, _, h => by cases h; exact .nil
  | x :: xs, _, _, h => by
    cases h with
    | cons r rs => exact .cons (Rp.inD r) (Rps.inD rs)
end
mutual
theorem Rp.dom : ∀ {x : PV} {v : V} {fp : List Addr}, Rp K H ok x v fp → ∀ a ∈ fp, ∃ u, H a = some u ∧ isMu u = true
  | .non, _, _, h, _, z => by cases h; cases z
  | .bl b, _, _, h, _, z => by cases h; cases z
  | .int i, _, _, h, _, z => by cases h; cases z
  | .str x, _, _, h, _, z => by cases h; cases z
  | .tup xs, _, _, h, a, z => by
    cases h with
    | tup hs r => exact Rps.dom r a z
  | .lst false xs, _, _, h, _, z => by
    cases h with
    | lstF hs ho r => cases z
  | .lst true xs, _, _, h, a, z => by
    cases h with
    | lstO hs r =>
      rcases List.mem_cons.mp z with e | z
      · rw [e]; exact ⟨_, hs, rfl⟩
      · exact Rps.dom r a z
  | .dct _ _, _, _, h, _, _ => by cases h
  | .exn _, _, _, h, _, _ => by cases h
  | .scr _, _, _, h, _, z => by cases h; cases z
theorem Rps.dom : ∀ {xs : List PV} {vs : List V} {fp : List Addr}, Rps K H ok xs vs fp → ∀ a ∈ fp, ∃ u, H a = some u ∧ isMu u = true
  | [], _, _, h, _, z => by cases h; cases z
  | x :: xs, _, _, h, a, z => by
    cases h with
    | cons r rs =>
      rcases List.mem_append.mp z with z | z
      · exact Rp.dom r a z
      · exact Rps.dom rs a z
end
theorem Rps.inv {x : PV} {xs : List PV} {us : List V} {fp : List Addr} (h : Rps K H ok (x :: xs) us fp) : ∃ v vs f fs, us = v :: vs ∧ fp = f ++ fs ∧ Rp K H ok x v f ∧ Rps K H ok xs vs fs := by
  cases h with
  | cons r rs => exact ⟨_, _, _, _, rfl, rfl, r, rs⟩
theorem Rps.inv0 {x : PV} {xs : List PV} {us : List V} (h : Rps K H ok (x :: xs) us []) : ∃ v vs, us = v :: vs ∧ Rp K H ok x v [] ∧ Rps K H ok xs vs [] := by
  obtain ⟨v, vs, f, fs, e, ef, r, rs⟩ := h.inv
  have hf := List.append_eq_nil_iff.mp ef.symm
  rw [hf.1] at r
  rw [hf.2] at rs
  exact ⟨v, vs, e, r, rs⟩
theorem Rps.get {xs : List PV} {vs : List V} {i : Nat} {x : PV} (h : Rps K H ok xs vs []) (e : xs[i]? = some x) : ∃ v, vs[i]? = some v ∧ Rp K H ok x v [] := by
  induction xs generalizing vs i with
  | nil => simp at e
  | cons y ys ih =>
    obtain ⟨v, vs', e2, r, rs⟩ := h.inv0
    subst e2
    cases i with
    | zero =>
      simp at e
      subst e
      exact ⟨v, rfl, r⟩
    | succ i =>
      obtain ⟨u, h1, h2⟩ := ih rs (by simpa using e)
      exact ⟨u, by simpa using h1, h2⟩
theorem Rps.app {xs ys : List PV} {vs us : List V} {f g : List Addr} (h : Rps K H ok xs vs f) (k : Rps K H ok ys us g) : Rps K H ok (xs ++ ys) (vs ++ us) (f ++ g) := by
  induction xs generalizing vs f with
  | nil => cases h; exact k
  | cons x xs ih =>
    cases h with
    | cons r rs =>
      rw [List.append_assoc]
      exact .cons r (ih rs)
theorem Rps.cons0 {x : PV} {v : V} {xs : List PV} {vs : List V} (h : Rp K H ok x v []) (k : Rps K H ok xs vs []) : Rps K H ok (x :: xs) (v :: vs) [] := .cons (f := []) (fs := []) h k
theorem Rps.take {xs : List PV} {vs : List V} (h : Rps K H ok xs vs []) (n : Nat) : Rps K H ok (xs.take n) (vs.take n) [] := by
  induction xs generalizing vs n with
  | nil => cases h; simp; exact .nil
  | cons x xs ih =>
    obtain ⟨v, vs', e, r, rs⟩ := h.inv0
    subst e
    cases n with
    | zero => exact .nil
    | succ n => exact .cons0 r (ih rs n)
theorem Rps.drop {xs : List PV} {vs : List V} (h : Rps K H ok xs vs []) (n : Nat) : Rps K H ok (xs.drop n) (vs.drop n) [] := by
  induction xs generalizing vs n with
  | nil => cases h; simp; exact .nil
  | cons x xs ih =>
    obtain ⟨v, vs', e, r, rs⟩ := h.inv0
    subst e
    cases n with
    | zero => exact .cons0 r rs
    | succ n => exact ih rs n
theorem Rps.rev {xs : List PV} {vs : List V} (h : Rps K H ok xs vs []) : Rps K H ok xs.reverse vs.reverse [] := by
  induction xs generalizing vs with
  | nil => cases h; exact .nil
  | cons x xs ih =>
    obtain ⟨v, vs', e, r, rs⟩ := h.inv0
    subst e
    simp only [List.reverse_cons]
    exact (ih rs).app (g := []) (.cons0 r .nil)
end
mutual
theorem frz_frz : ∀ x : PV, frz (frz x) = frz x
  | .tup xs => by simp only [frz, frzs_frzs xs]
  | .lst o xs => by simp only [frz, frzs_frzs xs]
  | .dct o kvs => by simp only [frz, frzd_frzd kvs]
  | .non => rfl
  | .bl b => rfl
  | .int i => rfl
  | .str x => rfl
  | .exn c => rfl
  | .scr xs => rfl
theorem frzs_frzs : ∀ xs : List PV, frzs (frzs xs) = frzs xs
  | [] => rfl
  | x :: xs => by simp only [frzs, frz_frz x, frzs_frzs xs]
theorem frzd_frzd : ∀ xs : List (K2 × PV), frzd (frzd xs) = frzd xs
  | [] => rfl
  | (k, x) :: xs => by simp only [frzd, frz_frz x, frzd_frzd xs]
end
end BW

/-! The operators. -/
namespace BW
open PySem PySem.Spec L2

abbrev Fre (ok : Addr → Prop) (H : Hp) : Prop := ∀ a, H a = none → ok a
theorem Fre.same {ok : Addr → Prop} {H H' : Hp} (f : Fre ok H) (s : Same H H') : Fre ok H' := fun a e => f a (s.free e)
abbrev okn (ok : Addr → Prop) (fp : List Addr) : Addr → Prop := fun a => ok a ∧ a ∉ fp
/-- x is told -/
def Got (K : PySem.W.Frag) (H : Hp) (ok : Addr → Prop) (Q : VK) (x : PV) : Prop := ∀ H' v fp, Same H H' → Rp K H' (okn ok fp) x v fp → (∀ a ∈ fp, H a = none) → fp.Nodup → Q v H'
theorem same_upd {H : Hp} {p : Addr} {o : HO} (h : H p = none) : Same H (upd H p o) := fun b u q => by rw [upd_ne (ne_of_none q h)]; exact q
section
variable {K : PySem.W.Frag} {H : Hp} {ok : Addr → Prop} {Q : VK}
theorem Got.bl {b : Bool} (q : Got K H ok Q (.bl b)) : Q (.bl b) H := q _ _ [] (Same.refl _) (.bl b) (fun _ z => nomatch z) .nil
theorem Got.int {i : Int} (q : Got K H ok Q (.int i)) : Q (.int i) H := q _ _ [] (Same.refl _) (.int i) (fun _ z => nomatch z) .nil
theorem Got.str {i : Str} (q : Got K H ok Q (.str i)) (z : PyData.strOk i = true) : Q (.str i) H := q _ _ [] (Same.refl _) (.str i z) (fun _ z => nomatch z) .nil
theorem Got.non (q : Got K H ok Q .non) : Q .non H := q _ _ [] (Same.refl _) .non (fun _ z => nomatch z) .nil
/-- a new list -/
theorem Got.lst {xs : List PV} {vs : List V} (q : Got K H ok Q (.lst true xs)) (r : Rps K H ok xs vs []) {p : Addr} (hp : H p = none) : Q (.ref p) (upd H p (.lst vs)) :=
  q _ _ [p] (same_upd hp) (.lstO upd_same ((r.inD.imp fun a z => ⟨z.1, fun e => by
    obtain ⟨u, hu⟩ := z.2
    rw [List.mem_singleton.mp e, hp] at hu
    cases hu⟩).same (same_upd hp))) (fun a z => by rw [List.mem_singleton.mp z]; exact hp) (by simp)
theorem Got.tup {xs : List PV} {vs : List V} (q : Got K H ok Q (.tup xs)) (r : Rps K H ok xs vs []) {p : Addr} (hp : H p = none) : Q (.ref p) (upd H p (.tup vs)) :=
  q _ _ [] (same_upd hp) (.tup (.of upd_same) ((r.same (same_upd hp)).imp fun a z => ⟨z, (fun e => nomatch e)⟩)) (fun a z => nomatch z) .nil
/-- what stands already -/
theorem Got.old {x : PV} {v : V} (q : Got K H ok Q x) (r : Rp K H ok x v []) : Q v H := q _ _ [] (Same.refl _) (r.imp fun a z => ⟨z, (fun e => nomatch e)⟩) (fun a z => nomatch z) .nil
end
theorem strOk_app {a b : Str} (h : PyData.strOk a = true) (k : PyData.strOk b = true) : PyData.strOk (a ++ b) = true := by
  unfold PyData.strOk at *
  rw [Array.all_eq_true'] at *
  intro x hx
  have e : (a ++ b).cps = a.cps ++ b.cps := rfl
  rw [e] at hx
  rcases Array.mem_append.mp hx with z | z
  · exact h x z
  · exact k x z
def rOp (K : PySem.W.Frag) (g : PV → PV → Res PV) : R2 := fun v u H Q => ∃ ok x y z, Fre ok H ∧ Rp K H ok x v [] ∧ Rp K H ok y u [] ∧ g x y = .ok z ∧ Got K H ok Q z
def pyB : Bop → Operator
  | .add => .Add
  | .sub => .Sub
  | .mul => .Mult
  | .fdiv => .FloorDiv
  | .mod => .Mod
  | .pow => .Pow
  | .shl => .LShift
  | .shr => .RShift
  | .band => .BitAnd
  | .bor => .BitOr
  | .bxor => .BitXor
def pyC : Cop → CmpOp
  | .eq => .Eq
  | .ne => .NotEq
  | .lt => .Lt
  | .le => .LtE
  | .gt => .Gt
  | .ge => .GtE
  | .isN => .Is
  | .isnt => .IsNot
  | .isin => .In
  | .notin => .NotIn
theorem most_eq : most = sizeLine := by rw [sizeLine_eq]; rfl
theorem iteOk {α : Type} {c : Bool} {a z : α} (h : (if c = true then Res.ok a else .bad) = .ok z) : c = true ∧ a = z := by
  cases c with
  | false => rw [if_neg (by decide)] at h; cases h
  | true => rw [if_pos rfl] at h; cases h; exact ⟨rfl, rfl⟩
section
variable {X : Cx}
theorem bin_int (op : Bop) {pins : List (Addr × Obj)} {s : Shared} {σ : St} {H : Hp} {i j : Int} {vv uu : Value} {Q : VK} {z : PV} {ok : Addr → Prop} (I : Inv X pins σ H s) (rv : RelV (.int i) vv) (ru : RelV (.int j) uu)
    (e : binI op i j = .ok z) (q : Got X.K H ok Q z) : wpAny (model X.prog X.w) X.A (binaryOp (pyB op) vv uu) (EP X pins σ Q) X.xe s := by
  cases op with
  | add => cases e; exact op_add pins s σ H _ _ _ _ Q I rv ru ⟨i, j, rfl, rfl, q.int⟩
  | sub => cases e; exact op_sub pins s σ H _ _ _ _ Q I rv ru ⟨i, j, rfl, rfl, q.int⟩
  | mul =>
    obtain ⟨c, rfl⟩ := iteOk e
    refine op_mul pins s σ H _ _ _ _ Q I rv ru ⟨i, j, rfl, rfl, ?_, q.int⟩
    rw [Bool.or_eq_true, decide_eq_true_eq, decide_eq_true_eq] at c
    exact c
  | fdiv =>
    obtain ⟨c, rfl⟩ := iteOk e
    refine op_fdiv pins s σ H _ _ _ _ Q I rv ru ⟨i, j, rfl, rfl, ?_, q.int⟩
    rw [Bool.and_eq_true, decide_eq_true_eq, decide_eq_true_eq] at c
    exact c
  | mod =>
    obtain ⟨c, rfl⟩ := iteOk e
    exact op_mod pins s σ H _ _ _ _ Q I rv ru ⟨i, j, rfl, rfl, of_decide_eq_true c, q.int⟩
  | pow =>
    obtain ⟨c, rfl⟩ := iteOk e
    refine op_pow pins s σ H _ _ _ _ Q I rv ru ⟨i, j, rfl, rfl, ?_, q.int⟩
    rw [Bool.and_eq_true, decide_eq_true_eq, decide_eq_true_eq] at c
    exact ⟨c.1.1, c.1.2, c.2⟩
  | shl =>
    obtain ⟨c, rfl⟩ := iteOk e
    refine op_shl pins s σ H _ _ _ _ Q I rv ru ⟨i, j, rfl, rfl, ?_, q.int⟩
    rw [Bool.and_eq_true, decide_eq_true_eq, decide_eq_true_eq] at c
    exact ⟨c.1.1, c.1.2, c.2⟩
  | shr =>
    obtain ⟨c, rfl⟩ := iteOk e
    exact op_shr pins s σ H _ _ _ _ Q I rv ru ⟨i, j, rfl, rfl, of_decide_eq_true c, q.int⟩
  | band => cases e; exact op_and pins s σ H _ _ _ _ Q I rv ru ⟨i, j, rfl, rfl, q.int⟩
  | bor => cases e; exact op_or pins s σ H _ _ _ _ Q I rv ru ⟨i, j, rfl, rfl, q.int⟩
  | bxor => cases e; exact op_xor pins s σ H _ _ _ _ Q I rv ru ⟨i, j, rfl, rfl, q.int⟩
/-- a list's object -/
theorem rdL {pins : List (Addr × Obj)} {s : Shared} {σ : St} {H : Hp} {l : Addr} {xs : List V} (I : Inv X pins σ H s) (h : Rd H l (.lst xs)) :
    xs.length ≤ sizeLine ∧ ∃ (its : List Value) (n : Nat), Vals xs its ∧ xs.length = its.length ∧ s.heap.get? l = some { cls := .type "list", data := .seq its.toArray n } := by
  obtain ⟨z, its, n, r, e⟩ := h.ok I.hok
  exact ⟨z, its, n, r, r.length, e⟩
theorem catL {pins : List (Addr × Obj)} {s : Shared} {σ : St} {H : Hp} {l b : Addr} {xs zs : List V} {Q : VK} (I : Inv X pins σ H s) (h1 : Rd H l (.lst xs)) (h2 : Rd H b (.lst zs)) (hz : xs.length + zs.length ≤ sizeLine)
    (q : ∀ p, H p = none → Q (.ref p) (upd H p (.lst (xs ++ zs)))) : wpAny (model X.prog X.w) X.A (binaryOp .Add (.ref l) (.ref b)) (EP X pins σ Q) X.xe s := by
  obtain ⟨_, its, n, r, hl, e⟩ := rdL I h1
  obtain ⟨_, its2, n2, r2, hl2, e2⟩ := rdL I h2
  refine PySem.P.add_list e e2 ?_ (by rw [List.size_toArray, List.size_toArray]; omega)
  rw [show its.toArray ++ its2.toArray = (its ++ its2).toArray by simp]
  exact ⟨.ref _, _, I.lnew (t' := s.toks) (r.append r2) (by rw [List.length_append]; omega), rfl, q _ I.fresh⟩
theorem op_bin (op : Bop) : OpR X (binaryOp (pyB op)) (rOp X.K (binop op)) := by
  intro pins s σ H v u vv uu Q I rv ru h
  obtain ⟨ok, x, y, z, fr, hx, hy, e, q⟩ := h
  cases hx with
  | int i =>
    cases hy with
    | int j => exact bin_int op I rv ru e q
    | _ => cases e
  | str a za =>
    cases hy with
    | str b zb =>
      obtain ⟨c, rfl⟩ := iteOk e
      rw [Bool.and_eq_true, decide_eq_true_eq, decide_eq_true_eq, most_eq] at c
      obtain ⟨rfl, c⟩ := c
      exact op_add_str pins s σ H _ _ _ _ Q I rv ru ⟨a, b, rfl, rfl, c, q.str (strOk_app za zb)⟩
    | _ => cases e
  | tup h1 r1 =>
    cases hy with
    | tup h2 r2 =>
      obtain ⟨c, rfl⟩ := iteOk e
      rw [Bool.and_eq_true, decide_eq_true_eq, decide_eq_true_eq, most_eq] at c
      obtain ⟨rfl, c⟩ := c
      have k1 := r1.frz (ok' := ok) (fun _ z => z) (fun _ z => nomatch z)
      have k2 := r2.frz (ok' := ok) (fun _ z => z) (fun _ z => nomatch z)
      rw [r1.len, r2.len] at c
      refine op_catA pins s σ H _ _ _ _ Q I rv ru ⟨_, _, _, _, rfl, rfl, h1, h2, c, fun e0 => ?_, fun _ e0 => ?_, fun _ _ p hp => q.tup (k1.app (g := []) k2) hp⟩
      · subst e0
        cases r1
        exact q.old (.tup h2 k2)
      · subst e0
        cases r2
        have k3 := k1.app (g := []) k2
        exact q.old (.tup h1 (by rw [List.append_nil] at k3; exact k3))
    | _ => cases e
  | lstF h1 o1 r1 =>
    cases hy with
    | lstF h2 o2 r2 =>
      obtain ⟨c, rfl⟩ := iteOk e
      rw [Bool.and_eq_true, decide_eq_true_eq, decide_eq_true_eq, most_eq] at c
      obtain ⟨rfl, c⟩ := c
      cases rv
      cases ru
      rw [r1.len, r2.len] at c
      exact catL I h1 h2 c fun p hp => q.lst ((r1.frz (fun _ z => z) (fun _ z => nomatch z)).app (g := []) (r2.frz (fun _ z => z) (fun _ z => nomatch z))) hp
    | _ => cases e
  | _ => cases e
mutual
theorem rp_dp {H : Hp} {K : PySem.W.Frag} {ok : Addr → Prop} : ∀ {n : Nat} {x : PV} {v : V}, Rp K H ok x v [] → okD n x = true → Dp K H v (toD x)
  | _, .non, _, h, _ => by cases h; exact .non
  | _, .bl b, _, h, _ => by cases h; exact .bl b
  | _, .int i, _, h, _ => by cases h; exact .int i
  | _, .str x, _, h, _ => by
    cases h with
    | str _ z => exact .str x
  | n + 1, .tup xs, _, h, o => by
    cases h with
    | tup hs r => exact .tup hs (rps_dp (n := n) r o)
  | n + 1, .lst false xs, _, h, o => by
    cases h with
    | lstF hs ho r => exact .lst (.inl hs) (rps_dp (n := n) r o)
  | n + 1, .lst true xs, _, h, o => by cases h
  | 0, .tup xs, _, h, o => by cases o
  | 0, .lst _ xs, _, h, o => by cases o
  | _, .dct _ _, _, h, _ => by cases h
  | _, .exn _, _, h, _ => by cases h
  | 0, .scr _, _, h, o => by cases o
  | _ + 1, .scr _, _, h, o => by cases o
theorem rps_dp {H : Hp} {K : PySem.W.Frag} {ok : Addr → Prop} : ∀ {n : Nat} {xs : List PV} {vs : List V}, Rps K H ok xs vs [] → okDs n xs = true → DpAll K H vs (toDs xs)
  | _, [], _, h, _ => by cases h; exact .nil
  | n, x :: xs, _, h, o => by
    obtain ⟨v, vs', e, r, rs⟩ := h.inv0
    subst e
    have o' : (okD n x && okDs n xs) = true := o
    rw [Bool.and_eq_true] at o'
    exact .cons (rp_dp r o'.1) (rps_dp rs o'.2)
end
mutual
theorem rp_lay {H : Hp} {K : PySem.W.Frag} {ok : Addr → Prop} : ∀ {n : Nat} {x : PV} {v : V}, Rp K H ok x v [] → okD n x = true → (toD x).canLay0 = true ∧ (toD x).depth ≤ n
  | n, .non, _, h, _ => ⟨rfl, Nat.zero_le _⟩
  | n, .bl b, _, h, _ => ⟨rfl, Nat.zero_le _⟩
  | n, .int i, _, h, _ => ⟨rfl, Nat.zero_le _⟩
  | n, .str x, _, h, _ => by
    cases h with
    | str _ z => exact ⟨z, Nat.zero_le _⟩
  | n + 1, .tup xs, _, h, o => by
    cases h with
    | tup hs r =>
      have q := rps_lay (n := n) r o
      exact ⟨q.1, Nat.succ_le_succ q.2⟩
  | n + 1, .lst false xs, _, h, o => by
    cases h with
    | lstF hs ho r =>
      have q := rps_lay (n := n) r o
      exact ⟨q.1, Nat.succ_le_succ q.2⟩
  | n + 1, .lst true xs, _, h, o => by cases h
  | 0, .tup xs, _, h, o => by cases o
  | 0, .lst _ xs, _, h, o => by cases o
  | _, .dct _ _, _, h, _ => by cases h
  | _, .exn _, _, h, _ => by cases h
  | 0, .scr _, _, h, o => by cases o
  | _ + 1, .scr _, _, h, o => by cases o
theorem rps_lay {H : Hp} {K : PySem.W.Frag} {ok : Addr → Prop} : ∀ {n : Nat} {xs : List PV} {vs : List V}, Rps K H ok xs vs [] → okDs n xs = true → PyData.canLayAll0 (toDs xs) = true ∧ PyData.depthAll (toDs xs) ≤ n
  | _, [], _, h, _ => ⟨rfl, Nat.zero_le _⟩
  | n, x :: xs, _, h, o => by
    obtain ⟨v, vs', e, r, rs⟩ := h.inv0
    subst e
    have o' : (okD n x && okDs n xs) = true := o
    rw [Bool.and_eq_true] at o'
    have q1 := rp_lay r o'.1
    have q2 := rps_lay rs o'.2
    refine ⟨?_, Nat.max_le.mpr ⟨q1.2, q2.2⟩⟩
    show ((toD x).canLay0 && PyData.canLayAll0 (toDs xs)) = true
    rw [q1.1, q2.1]
    rfl
end
theorem rp_shaped {H : Hp} {K : PySem.W.Frag} {ok : Addr → Prop} {x : PV} {v : V} (h : Rp K H ok x v []) (o : okD 64 x = true) : SeqAt.shaped (toD x) = true := by
  have q := rp_lay h o
  unfold SeqAt.shaped
  rw [q.1, decide_eq_true q.2]
  rfl
theorem flat_V {K : PySem.W.Frag} {H : Hp} {ok : Addr → Prop} {x : PV} {v : V} (h : Rp K H ok x v []) (f : flat x = true) : flatV v = true := by
  cases h <;> first | rfl | (cases f; done)
theorem feq_V {K : PySem.W.Frag} {H : Hp} {ok : Addr → Prop} {x y : PV} {v u : V} (h : Rp K H ok x v []) (k : Rp K H ok y u []) (f : flat x = true) (g : flat y = true) : eqV v u = feq x y := by
  cases h <;> first | (cases f; done) | (cases k <;> first | (cases g; done) | rfl)
theorem flats_V {K : PySem.W.Frag} {H : Hp} {ok : Addr → Prop} {xs : List PV} {vs : List V} (h : Rps K H ok xs vs []) (f : xs.all flat = true) : vs.all flatV = true := by
  induction xs generalizing vs with
  | nil => cases h; rfl
  | cons x xs ih =>
    obtain ⟨v, vs', e, r, rs⟩ := h.inv0
    subst e
    rw [List.all_cons, Bool.and_eq_true] at f ⊢
    exact ⟨flat_V r f.1, ih rs f.2⟩
theorem fin_V {K : PySem.W.Frag} {H : Hp} {ok : Addr → Prop} {x : PV} {v : V} {xs : List PV} {vs : List V} (hx : Rp K H ok x v []) (g : flat x = true) (h : Rps K H ok xs vs []) (f : xs.all flat = true) : inV v vs = fin x xs := by
  induction xs generalizing vs with
  | nil => cases h; rfl
  | cons y ys ih =>
    obtain ⟨u, us, e, r, rs⟩ := h.inv0
    subst e
    rw [List.all_cons, Bool.and_eq_true] at f
    have q := ih rs f.2
    unfold inV fin at *
    rw [List.any_cons, List.any_cons, q, feq_V r hx f.1 g]
theorem op_in (neg : Bool) : OpR X (compareOp (if neg then .NotIn else .In)) (rOp X.K (inop neg)) := by
  intro pins s σ H v u vv uu Q I rv ru h
  obtain ⟨ok, x, y, z, fr, hx, hy, e, q⟩ := h
  have fin2 : ∀ (a : Addr) (ys : List PV) (us : List V), (SqL X.K H a us ∨ SqT X.K H a us) → Rps X.K H ok ys us [] → u = .ref a → (if (flat x && ys.all flat) = true then Res.ok (PV.bl (if neg then !fin x ys else fin x ys)) else .bad) = .ok z →
      wpAny (model X.prog X.w) X.A (compareOp (if neg then .NotIn else .In) vv uu) (EP X pins σ Q) X.xe s := by
    intro a ys us hs hr eu e
    obtain ⟨c, rfl⟩ := iteOk e
    rw [Bool.and_eq_true] at c
    have w := fin_V hx c.1 hr c.2
    cases neg with
    | false => exact op_in_seq pins s σ H _ _ _ _ Q I rv ru ⟨a, us, eu, hs, flat_V hx c.1, flats_V hr c.2, by rw [w]; exact q.bl⟩
    | true => exact op_notIn_seq pins s σ H _ _ _ _ Q I rv ru ⟨a, us, eu, hs, flat_V hx c.1, flats_V hr c.2, by rw [w]; exact q.bl⟩
  cases hy with
  | tup hs r => exact fin2 _ _ _ (.inr hs) r rfl e
  | lstF hs o r => exact fin2 _ _ _ (.inl (.inl hs)) r rfl e
  | _ => cases e
theorem op_isntB {pins : List (Addr × Obj)} {s : Shared} {σ : St} {H : Hp} {a b : Bool} {Q : VK} (I : Inv X pins σ H s) (q : Q (.bl (a != b)) H) :
    wpAny (model X.prog X.w) X.A (compareOp .IsNot (.bool a) (.bool b)) (EP X pins σ Q) X.xe s := by
  have fin : EP X pins σ Q (.bool (a != b)) s := ⟨.bl _, H, I, rfl, q⟩
  cases a <;> cases b <;> exact wpAny_pure fin
theorem op_cmp (hu : X.A.units + 64 < cLine) (op : Cop) : OpR X (compareOp (pyC op)) (rOp X.K (cmpop op)) := by
  intro pins s σ H v u vv uu Q I rv ru h
  cases op with
  | isin => exact op_in false pins s σ H v u vv uu Q I rv ru h
  | notin => exact op_in true pins s σ H v u vv uu Q I rv ru h
  | eq =>
    obtain ⟨ok, x, y, z, fr, hx, hy, e, q⟩ := h
    obtain ⟨c, rfl⟩ := iteOk e
    unfold eqok at c
    rw [Bool.and_eq_true] at c
    exact op_eqD hu pins s σ H _ _ _ _ Q I rv ru ⟨toD x, toD y, rp_dp hx c.1, rp_dp hy c.2, rp_shaped hx c.1, rp_shaped hy c.2, q.bl⟩
  | ne =>
    obtain ⟨ok, x, y, z, fr, hx, hy, e, q⟩ := h
    obtain ⟨c, rfl⟩ := iteOk e
    unfold eqok at c
    rw [Bool.and_eq_true] at c
    exact op_neD hu pins s σ H _ _ _ _ Q I rv ru ⟨toD x, toD y, rp_dp hx c.1, rp_dp hy c.2, rp_shaped hx c.1, rp_shaped hy c.2, q.bl⟩
  | lt =>
    obtain ⟨ok, x, y, z, fr, hx, hy, e, q⟩ := h
    cases hx <;> first | cases e | (cases hy <;> first | cases e | skip)
    exact op_lt pins s σ H _ _ _ _ Q I rv ru ⟨_, _, rfl, rfl, q.bl⟩
  | le =>
    obtain ⟨ok, x, y, z, fr, hx, hy, e, q⟩ := h
    cases hx <;> first | cases e | (cases hy <;> first | cases e | skip)
    exact op_le pins s σ H _ _ _ _ Q I rv ru ⟨_, _, rfl, rfl, q.bl⟩
  | gt =>
    obtain ⟨ok, x, y, z, fr, hx, hy, e, q⟩ := h
    cases hx <;> first | cases e | (cases hy <;> first | cases e | skip)
    exact op_gt pins s σ H _ _ _ _ Q I rv ru ⟨_, _, rfl, rfl, q.bl⟩
  | ge =>
    obtain ⟨ok, x, y, z, fr, hx, hy, e, q⟩ := h
    cases hx <;> first | cases e | (cases hy <;> first | cases e | skip)
    exact op_ge pins s σ H _ _ _ _ Q I rv ru ⟨_, _, rfl, rfl, q.bl⟩
  | isN =>
    obtain ⟨ok, x, y, z, fr, hx, hy, e, q⟩ := h
    cases hy <;> first | cases e | skip
    refine op_isN pins s σ H _ _ _ _ Q I rv ru ⟨rfl, ?_⟩
    cases hx <;> exact q.bl
  | isnt =>
    obtain ⟨ok, x, y, z, fr, hx, hy, e, q⟩ := h
    cases hy <;> first | cases e | skip
    · refine op_notN pins s σ H _ _ _ _ Q I rv ru ⟨rfl, ?_⟩
      cases hx <;> exact q.bl
    · cases hx <;> first | cases e | skip
      cases rv
      cases ru
      exact op_isntB I q.bl
end
end BW

/-! Expressions. -/
namespace BW
open PySem PySem.Spec L2

/-! ### builtins, subscripts, slices by values -/
def rUn (K : PySem.W.Frag) (g : List PV → Res PV) : List V → Hp → VK → Prop := fun vs H Q => ∃ ok xs z, Fre ok H ∧ Rps K H ok xs vs [] ∧ g xs = .ok z ∧ Got K H ok Q z
theorem atI_map {xs : List PV} {vs : List V} {K : PySem.W.Frag} {H : Hp} {ok : Addr → Prop} (h : Rps K H ok xs vs []) {i : Int} {x : PV} (e : atI xs i = some x) : ∃ v, atI vs i = some v ∧ Rp K H ok x v [] := by
  unfold atI at e ⊢
  rw [← h.len]
  cases q : ixN xs.length i with
  | none => rw [q] at e; cases e
  | some j =>
    rw [q] at e
    exact h.get e
section
variable {X : Cx}
theorem rps_int {K : PySem.W.Frag} {H : Hp} {ok : Addr → Prop} : ∀ is : List Int, Rps K H ok (is.map PV.int) (is.map V.int) []
  | [] => .nil
  | i :: is => .cons0 (.int i) (rps_int is)
theorem strOk_one {x : Str} {c : Nat} (z : PyData.strOk x = true) (h : c ∈ x.cps.toList) : PyData.strOk ⟨#[c]⟩ = true := by
  unfold PyData.strOk at *
  rw [Array.all_eq_true'] at *
  intro d hd
  rw [List.mem_singleton.mp (Array.mem_def.mp hd)]
  exact z c (Array.mem_def.mpr h)
theorem strOk_cut {x : Str} (z : PyData.strOk x = true) (lo hi : Option Int) : PyData.strOk (cutS x lo hi) = true := by
  unfold PyData.strOk at *
  rw [Array.all_eq_true'] at *
  intro d hd
  have hd : d ∈ (x.cps.toList.drop (HT.sIx x.length 0 lo)).take (HT.sIx x.length x.length hi - HT.sIx x.length 0 lo) := by
    have := Array.mem_def.mp hd
    simpa [cutS] using this
  exact z d (Array.mem_def.mpr (List.mem_of_mem_drop (List.mem_of_mem_take hd)))
theorem ix_op : IxR X (rOp X.K idxop) := by
  intro value slice pins s σ H x y v u Q I rx ry h hs'
  obtain ⟨ok, px, py, z, fr, hx, hy, e, q⟩ := h
  cases hx with
  | tup ht r =>
    cases hy with
    | int i =>
      rename_i a xs vs
      have e : (match atI xs i with | some v => Res.ok (frz v) | none => .bad) = .ok z := e
      cases q2 : atI xs i with
      | none => rw [q2] at e; cases e
      | some w =>
        rw [q2] at e
        cases e
        obtain ⟨w', h1, h2⟩ := atI_map r q2
        exact ix_tup value slice pins s σ H _ _ v u Q I rx ry ⟨a, vs, i, w', rfl, rfl, ht, h1, q.old (h2.frz (fun _ z => z) fun _ z => nomatch z)⟩ hs'
    | _ => cases e
  | lstF ht o r =>
    cases hy with
    | int i =>
      rename_i a xs vs
      have e : (match atI xs i with | some v => Res.ok (frz v) | none => .bad) = .ok z := e
      cases q2 : atI xs i with
      | none => rw [q2] at e; cases e
      | some w =>
        rw [q2] at e
        cases e
        obtain ⟨w', h1, h2⟩ := atI_map r q2
        exact ix_list value slice pins s σ H _ _ v u Q I rx ry ⟨a, vs, i, w', rfl, rfl, .inl ht, h1, q.old (h2.frz (fun _ z => z) fun _ z => nomatch z)⟩ hs'
    | _ => cases e
  | scr hs =>
    cases hy with
    | int i =>
      rename_i a is
      have e : (match atI (is.map PV.int) i with | some v => Res.ok (frz v) | none => .bad) = .ok z := e
      cases q2 : atI (is.map PV.int) i with
      | none => rw [q2] at e; cases e
      | some w =>
        rw [q2] at e
        cases e
        obtain ⟨w', h1, h2⟩ := atI_map (rps_int (K := X.K) (H := H) (ok := ok) is) q2
        exact ix_list value slice pins s σ H _ _ v u Q I rx ry ⟨a, _, i, w', rfl, rfl, hs.seq, h1, q.old (h2.frz (fun _ z => z) fun _ z => nomatch z)⟩ hs'
    | _ => cases e
  | str x zx =>
    cases hy with
    | int i =>
      have e : (match atI x.cps.toList i with | some c => if decide (x.length ≤ most) = true then Res.ok (PV.str ⟨#[c]⟩) else .bad | none => .bad) = .ok z := e
      cases q2 : atI x.cps.toList i with
      | none => rw [q2] at e; cases e
      | some w =>
        rw [q2] at e
        obtain ⟨c, rfl⟩ := iteOk e
        rw [decide_eq_true_eq, most_eq] at c
        refine ix_str value slice pins s σ H _ _ v u Q I rx ry ⟨x, i, w, rfl, rfl, c, q2, q.str ?_⟩ hs'
        obtain ⟨j, _, hj, _⟩ := atI_get q2
        exact strOk_one zx (List.mem_of_getElem? hj)
    | _ => cases e
  | _ => cases e
def rSl (K : PySem.W.Frag) : V → Option Int → Option Int → Hp → VK → Prop := fun v lo hi H Q => ∃ ok x z, Fre ok H ∧ Rp K H ok x v [] ∧ slcop x lo hi = .ok z ∧ Got K H ok Q z
theorem sl_op : SlR X (rSl X.K) := by
  intro pins s σ H x v vl vu lo hi sl Q I rx hs pl pu h
  obtain ⟨ok, px, z, fr, hx, e, q⟩ := h
  cases hx with
  | lstF ht o r =>
    cases e
    refine sl_list pins s σ H _ v vl vu lo hi sl Q I rx hs pl pu ⟨_, _, rfl, .inl ht, fun p hp => ?_⟩
    refine q.lst (Rps.frz (ok := ok) (fp := []) ?_ (fun _ z => z) fun _ z => nomatch z) hp
    unfold cutP
    rw [r.len]
    exact (r.drop _).take _
  | scr hs' =>
    rename_i a is
    have r : Rps X.K H ok (is.map PV.int) (is.map V.int) [] := rps_int is
    cases e
    refine sl_list pins s σ H _ v vl vu lo hi sl Q I rx hs pl pu ⟨_, _, rfl, hs'.seq, fun p hp => ?_⟩
    refine q.lst (Rps.frz (ok := ok) (fp := []) ?_ (fun _ z => z) fun _ z => nomatch z) hp
    unfold cutP
    rw [r.len]
    exact (r.drop _).take _
  | tup ht r =>
    rename_i a xs vs
    have r2 : Rps X.K H ok (frzs (cutP xs lo hi)) (cutV vs lo hi) [] := by
      refine Rps.frz (ok := ok) (fp := []) ?_ (fun _ z => z) fun _ z => nomatch z
      unfold cutP cutV
      rw [r.len]
      exact (r.drop _).take _
    cases e
    refine sl_tupA pins s σ H _ v vl vu lo hi sl Q I rx hs pl pu ⟨_, _, rfl, ht, fun hw => ?_, fun _ p hp => q.tup r2 hp⟩
    refine q.old (.tup ht ?_)
    have e2 : cutV vs lo hi = vs := by
      unfold cutV
      rw [hw.1, hw.2, List.drop_zero, Nat.sub_zero, List.take_length]
    rw [e2] at r2
    exact r2
  | str x zx =>
    obtain ⟨c, rfl⟩ := iteOk (show (if decide (x.length ≤ most) = true then Res.ok (PV.str (cutS x lo hi)) else .bad) = .ok z from e)
    rw [decide_eq_true_eq, most_eq] at c
    exact sl_str pins s σ H _ v vl vu lo hi sl Q I rx hs pl pu ⟨x, rfl, c, q.str (strOk_cut zx lo hi)⟩
  | _ => cases e

def biId : Bi → Value
  | .len => .builtin "len"
  | .int => .type "int"
  | .list => .type "list"
  | .tuple => .type "tuple"
  | .min => .builtin "min"
  | .max => .builtin "max"
  | _ => .none
def isIs : Bi → Bool
  | .isInt => true
  | .isBool => true
  | .isList => true
  | .isTuple => true
  | .isDict => true
  | .isStr => true
  | _ => false
theorem one0 {K : PySem.W.Frag} {H : Hp} {ok : Addr → Prop} {x : PV} {vs : List V} (h : Rps K H ok [x] vs []) : ∃ v, vs = [v] ∧ Rp K H ok x v [] := by
  obtain ⟨v, vs', e, r, rs⟩ := h.inv0
  cases rs
  exact ⟨v, e, r⟩
theorem two0 {K : PySem.W.Frag} {H : Hp} {ok : Addr → Prop} {x y : PV} {vs : List V} (h : Rps K H ok [x, y] vs []) : ∃ v u, vs = [v, u] ∧ Rp K H ok x v [] ∧ Rp K H ok y u [] := by
  obtain ⟨v, vs', e, r, rs⟩ := h.inv0
  obtain ⟨u, e2, r2⟩ := one0 rs
  exact ⟨v, u, by rw [e, e2], r, r2⟩
theorem bi_op (hc : X.calm = true) (b : Bi) (hb : isIs b = false) : CallR X (biId b) (rUn X.K (biV b)) := by
  intro pins s σ H vs us Q I rv h
  obtain ⟨ok, xs, z, fr, hx, e, q⟩ := h
  match xs, hx, e with
  | [], hx, e => cases e
  | _ :: _ :: _ :: _, hx, e => cases e
  | [x], hx, e =>
    obtain ⟨v, ev, r⟩ := one0 hx
    subst ev
    have e : bi1 b x = .ok z := e
    cases b with
    | len =>
      cases r with
      | lstF ht o r => cases e; exact call_len_seq pins s σ H _ us Q I rv ⟨_, _, rfl, .inl (.inl ht), by rw [← r.len]; exact q.int⟩
      | tup ht r => cases e; exact call_len_seq pins s σ H _ us Q I rv ⟨_, _, rfl, .inr ht, by rw [← r.len]; exact q.int⟩
      | scr hs => cases e; exact call_len_seq pins s σ H _ us Q I rv ⟨_, _, rfl, .inl hs.seq, by rw [List.length_map]; rw [List.length_map] at q; exact q.int⟩
      | _ => cases e
    | int =>
      cases r with
      | int i => cases e; exact call_int1 pins s σ H _ us Q I rv (.inl ⟨i, rfl, q.int⟩)
      | bl k => cases e; exact call_int1 pins s σ H _ us Q I rv (.inr ⟨k, rfl, q.int⟩)
      | _ => cases e
    | list =>
      cases r with
      | lstF ht o r => cases e; exact call_list_of pins s σ H _ us Q I rv ⟨_, _, rfl, .inl (.inl ht), fun l hl => q.lst (r.frz (fun _ z => z) fun _ z => nomatch z) hl⟩
      | tup ht r => cases e; exact call_list_of pins s σ H _ us Q I rv ⟨_, _, rfl, .inr ht, fun l hl => q.lst (r.frz (fun _ z => z) fun _ z => nomatch z) hl⟩
      | _ => cases e
    | tuple =>
      cases r with
      | lstF ht o r => cases e; exact call_tuple_of pins s σ H _ us Q I rv ⟨_, _, rfl, .inl ⟨.inl ht, fun l hl => q.tup (r.frz (fun _ z => z) fun _ z => nomatch z) hl⟩⟩
      | tup ht r => cases e; exact call_tuple_of pins s σ H _ us Q I rv ⟨_, _, rfl, .inr ⟨ht, q.old (.tup ht (r.frz (fun _ z => z) fun _ z => nomatch z))⟩⟩
      | _ => cases e
    | isInt => cases hb
    | isBool => cases hb
    | isList => cases hb
    | isTuple => cases hb
    | isDict => cases hb
    | isStr => cases hb
    | _ => cases e
  | [x, y], hx, e =>
    obtain ⟨v, u, ev, r, r2⟩ := two0 hx
    subst ev
    have e : bi2 b x y = .ok z := e
    cases b with
    | min =>
      cases r with
      | int i =>
        cases r2 with
        | int j => cases e; exact call_min2 hc pins s σ H _ us Q I rv ⟨i, j, rfl, q.int⟩
        | _ => cases e
      | _ => cases e
    | max =>
      cases r with
      | int i =>
        cases r2 with
        | int j => cases e; exact call_max2 hc pins s σ H _ us Q I rv ⟨i, j, rfl, q.int⟩
        | _ => cases e
      | _ => cases e
    | isInt => cases hb
    | isBool => cases hb
    | isList => cases hb
    | isTuple => cases hb
    | isDict => cases hb
    | isStr => cases hb
    | _ => cases e
end
end BW

/-! The text's own trees against the little language's. -/
namespace BW
open PySem PySem.Spec L2

structure Tc where
  N : List Str
  sc : Scope
  fn : List (Str × Nat)
  gl : List (Str × Gk) := []
def visB (sc : Scope) (x : Str) : Bool := match sc.names.lookup x with
  | some .local => true
  | some .cell => true
  | some .free => true
  | _ => false
def glB (sc : Scope) (x : Str) : Bool := match sc.names.lookup x with
  | some .globalImplicit => true
  | _ => false
def locB (sc : Scope) (x : Str) : Bool := match sc.names.lookup x with
  | some .local => true
  | some .cell => true
  | _ => false
def odd (x : Str) : Bool := (x == ("__debug__" : Str)) || (x == ("__classdict__" : Str))
/-- none of the forms that stand out in a list of arguments, as an index, in a comparison -/
def plainX : Expr → Bool
  | .Starred _ _ => false
  | .Set _ _ _ => false
  | .Slice _ _ _ _ => false
  | _ => true
def nameB (tc : Tc) (i : Nat) (x : Str) : Bool := decide (tc.N[i]? = some x) && (visB tc.sc x && !odd x)
def ckTs (tc : Tc) : List Nat → List Expr → Bool
  | [], [] => true
  | i :: is, .Name x _ :: es => decide (tc.N[i]? = some x) && locB tc.sc x && ckTs tc is es
  | _, _ => false
def ckT (tc : Tc) (t : List Nat) (e : Expr) : Bool := match e with
  | .Name x _ => (match t with
    | [i] => decide (tc.N[i]? = some x) && locB tc.sc x
    | _ => false)
  | .Tuple es _ _ => decide (2 ≤ t.length) && ckTs tc t es
  | _ => false
def ownN (N : List Str) (own : List Nat) : List (Str × Nat) := own.filterMap fun i => (N[i]?).map fun x => (x, i)
def biNm : Bi → Str
  | .len => "len"
  | .int => "int"
  | .list => "list"
  | .tuple => "tuple"
  | .min => "min"
  | .max => "max"
  | _ => "?"
def biTy : Bi → String
  | .isInt => "int"
  | .isBool => "bool"
  | .isList => "list"
  | .isTuple => "tuple"
  | .isDict => "dict"
  | .isStr => "str"
  | _ => "?"
def biHas : Bi → Bool
  | .len => true
  | .int => true
  | .list => true
  | .tuple => true
  | .min => true
  | .max => true
  | _ => false
def lenX : Exs → Nat
  | .nil => 0
  | .cons _ es => lenX es + 1
def isiN (tc : Tc) (b : Bi) : List Expr → Bool
  | [_, .Name y _] => glB tc.sc y && decide (y = (biTy b : Str))
  | _ => false
mutual
def ckE (tc : Tc) : Ex → Expr → Bool
  | .var i, py => (match py with
    | .Name x _ => nameB tc i x
    | _ => false)
  | .non, py => (match py with
    | .Constant .none _ _ => true
    | _ => false)
  | .bl b, py => (match py with
    | .Constant (.bool c) _ _ => b == c
    | _ => false)
  | .int i, py => (match py with
    | .Constant (.int j) _ _ => decide (i = j)
    | _ => false)
  | .str x, py => (match py with
    | .Constant (.str y) _ _ => decide (x = y) && PyData.strOk x
    | _ => false)
  | .bin op a b, py => (match py with
    | .BinOp l o r _ => decide (o = pyB op) && (ckE tc a l && ckE tc b r)
    | _ => false)
  | .neg a, py => (match py with
    | .UnaryOp .USub o _ => ckE tc a o
    | _ => false)
  | .not a, py => (match py with
    | .UnaryOp .Not o _ => ckE tc a o
    | _ => false)
  | .and a b, py => (match py with
    | .BoolOp .And [x, y] _ => ckE tc a x && ckE tc b y
    | .BoolOp .And (x :: y :: z :: r) pos => ckE tc a x && ckE tc b (.BoolOp .And (y :: z :: r) pos)
    | _ => false)
  | .or a b, py => (match py with
    | .BoolOp .Or [x, y] _ => ckE tc a x && ckE tc b y
    | .BoolOp .Or (x :: y :: z :: r) pos => ckE tc a x && ckE tc b (.BoolOp .Or (y :: z :: r) pos)
    | _ => false)
  | .cmp op a b, py => (match py with
    | .Compare l [o] [r] _ => decide (o = pyC op) && (ckE tc a l && ckE tc b r)
    | _ => false)
  | .chn op op' a b c, py => (match py with
    | .Compare l [o, o'] [m, r] _ => decide (o = pyC op) && decide (o' = pyC op') && (ckE tc a l && (ckE tc b m && ckE tc c r))
    | _ => false)
  | .tup es, py => (match py with
    | .Tuple xs _ _ => decide (lenX es ≤ 1000) && ckEs tc es xs
    | _ => false)
  | .lst es, py => (match py with
    | .List xs _ => decide (lenX es ≤ 1000) && ckEs tc es xs
    | _ => false)
  | .idx a i, py => (match py with
    | .Subscript v s _ => plainX s && (ckE tc a v && ckE tc i s)
    | _ => false)
  | .slc a lo hi, py => (match py with
    | .Subscript v (.Slice l h none _) _ => ckE tc a v && (ckO tc lo l && ckO tc hi h)
    | _ => false)
  | .call f es, py => (match py with
    | .Call (.Name x _) (e :: xs) [] _ => glB tc.sc x && !odd x && decide (tc.fn.lookup x = some f) && ckEs tc es (e :: xs)
    | _ => false)
  | .bi b es, py => (match py with
    | .Call (.Name x _) xs [] _ => glB tc.sc x && ((biHas b && decide (x = biNm b) && ckEs tc es xs && decide (xs.length ≠ 0)) ||
        (isIs b && decide (x = ("isinstance" : Str)) && isiN tc b xs && decide (lenX es = 1) && ckEs tc es (xs.take 1)))
    | _ => false)
  | .con g, py => (match py with
    | .Name x _ => glB tc.sc x && !odd x && decide (tc.gl.lookup x = some g)
    | _ => false)
  | .lc t own it c e, py => (match py with
    | .ListComp elt [⟨tg, iter, ifs, z⟩] scope _ => decide (z = 0) && decide (t = own) && (blkC tc.N tc.sc scope (ownN tc.N own) && decide ((ownN tc.N own).map (·.2) = own) && (ckI tc it iter &&
        (ckT ⟨tc.N, scope, tc.fn, tc.gl⟩ t tg && decide (plainX iter = true) && (ckC ⟨tc.N, relS scope tc.sc, tc.fn, tc.gl⟩ c ifs && ckE ⟨tc.N, relS scope tc.sc, tc.fn, tc.gl⟩ e elt))))
    | _ => false)
def ckEs (tc : Tc) : Exs → List Expr → Bool
  | .nil, py => (match py with
    | [] => true
    | _ => false)
  | .cons e es, py => (match py with
    | x :: xs => plainX x && (ckE tc e x && ckEs tc es xs)
    | _ => false)
def ckO (tc : Tc) : Exo → Option Expr → Bool
  | .none, py => (match py with
    | none => true
    | _ => false)
  | .some e, py => (match py with
    | some x => ckE tc e x
    | _ => false)
def ckC (tc : Tc) : Exo → List Expr → Bool
  | .none, py => (match py with
    | [] => true
    | _ => false)
  | .some e, py => (match py with
    | [x] => ckE tc e x
    | _ => false)
def ckI (tc : Tc) : Iw → Expr → Bool
  | .ex e, py => plainX py && ckE tc e py
  | .rng es, py => (match py with
    | .Call (.Name x _) xs [] _ => glB tc.sc x && decide (x = ("range" : Str)) && decide (1 ≤ lenX es ∧ lenX es ≤ 2) && ckEs tc es xs
    | _ => false)
  | .rev e, py => (match py with
    | .Call (.Name x _) [v] [] _ => glB tc.sc x && decide (x = ("reversed" : Str)) && plainX v && ckE tc e v
    | _ => false)
  | .revr _, _ => false
end
end BW

/-! What the text's expressions are worth is what the little language says. -/
namespace BW
open PySem PySem.Spec L2

/-! ### what is wanted behind -/
def Post (K : PySem.W.Frag) (ca : Nat → Addr) (E : XK) (ok : Addr → Prop) (H : Hp) (Q : VK) : Res PV → Prop
  | .ok x => Got K H ok Q x
  | .exc c => ∀ d H', Same H H' → E (.ref (ca c)) d H'
  | .bad => False
def PostA (K : PySem.W.Frag) (ca : Nat → Addr) (E : XK) (ok : Addr → Prop) (H : Hp) (Q : List V → Hp → Prop) : Res (List PV) → Prop
  | .ok xs => ∀ H' vs fp, Same H H' → Rps K H' (okn ok fp) xs vs fp → (∀ a ∈ fp, H a = none) → fp.Nodup → Q vs H'
  | .exc c => ∀ d H', Same H H' → E (.ref (ca c)) d H'
  | .bad => False
/-- of plain answers -/
def PostP {α : Type} (ca : Nat → Addr) (E : XK) (H : Hp) (Q : α → Hp → Prop) : Res α → Prop
  | .ok b => ∀ H', Same H H' → Q b H'
  | .exc c => ∀ d H', Same H H' → E (.ref (ca c)) d H'
  | .bad => False
def EIn (K : PySem.W.Frag) (H : Hp) (ok : Addr → Prop) (env : PEnv) (σ : L2.St) (is : List Nat) : Prop := env.length = σ.length ∧ ∀ i ∈ is, ∀ x, getE env i = .ok x → ∃ v, σ[i]? = some (some v) ∧ Rp K H ok x v []
section
variable {K : PySem.W.Frag} {ca : Nat → Addr} {E : XK} {ok : Addr → Prop} {H H1 : Hp} {Q : VK} {env : PEnv} {σ : L2.St}
theorem Got.mono {x : PV} (s : Same H H1) (g : Got K H ok Q x) : Got K H1 ok Q x := fun H' v fp s' r f n => g H' v fp (s.trans s') r (fun a z => s.free (f a z)) n
theorem Post.mono {r : Res PV} (s : Same H H1) (h : Post K ca E ok H Q r) : Post K ca E ok H1 Q r := by
  cases r with
  | ok x => exact Got.mono s h
  | exc c => exact fun d H' s' => h d H' (s.trans s')
  | bad => exact h
theorem PostA.mono {Q : List V → Hp → Prop} {r : Res (List PV)} (s : Same H H1) (h : PostA K ca E ok H Q r) : PostA K ca E ok H1 Q r := by
  cases r with
  | ok x => exact fun H' v fp s' r f n => h H' v fp (s.trans s') r (fun a z => s.free (f a z)) n
  | exc c => exact fun d H' s' => h d H' (s.trans s')
  | bad => exact h
theorem PostP.mono {α : Type} {Q : α → Hp → Prop} {r : Res α} (s : Same H H1) (h : PostP ca E H Q r) : PostP ca E H1 Q r := by
  cases r with
  | ok x => exact fun H' s' => h H' (s.trans s')
  | exc c => exact fun d H' s' => h d H' (s.trans s')
  | bad => exact h
theorem EIn.same {is : List Nat} (s : Same H H1) (h : EIn K H ok env σ is) : EIn K H1 ok env σ is := ⟨h.1, fun i hi x e => by
  obtain ⟨v, h1, h2⟩ := h.2 i hi x e
  exact ⟨v, h1, h2.same s⟩⟩
theorem EIn.left {is js : List Nat} (h : EIn K H ok env σ (is ++ js)) : EIn K H ok env σ is := ⟨h.1, fun i hi => h.2 i (List.mem_append_left _ hi)⟩
theorem EIn.right {is js : List Nat} (h : EIn K H ok env σ (is ++ js)) : EIn K H ok env σ js := ⟨h.1, fun i hi => h.2 i (List.mem_append_right _ hi)⟩
/-- a value, then the rest: P the kind of the whole's wish -/
theorem bind_v {α : Type} {P : Hp → Res α → Prop} {r : Res PV} {f : PV → Res α} {Q1 : VK} (hx : ∀ c, P H (.exc c) → ∀ d H', Same H H' → E (.ref (ca c)) d H') (hb : P H .bad → False) (hm : ∀ H1 z, Same H H1 → P H z → P H1 z) (h : P H (r.bind f))
    (k : ∀ x H' v fp, r = .ok x → Same H H' → Rp K H' (okn ok fp) x v fp → (∀ a ∈ fp, H a = none) → fp.Nodup → P H' (f x) → Q1 v H') : Post K ca E ok H Q1 r := by
  cases r with
  | ok x => exact fun H' v fp s r f n => k x H' v fp rfl s r f n (hm H' _ s h)
  | exc c => exact hx c h
  | bad => exact hb h
theorem bind_a {α : Type} {P : Hp → Res α → Prop} {r : Res (List PV)} {f : List PV → Res α} {Q1 : List V → Hp → Prop} (hx : ∀ c, P H (.exc c) → ∀ d H', Same H H' → E (.ref (ca c)) d H') (hb : P H .bad → False) (hm : ∀ H1 z, Same H H1 → P H z → P H1 z) (h : P H (r.bind f))
    (k : ∀ x H' v fp, r = .ok x → Same H H' → Rps K H' (okn ok fp) x v fp → (∀ a ∈ fp, H a = none) → fp.Nodup → P H' (f x) → Q1 v H') : PostA K ca E ok H Q1 r := by
  cases r with
  | ok x => exact fun H' v fp s r f n => k x H' v fp rfl s r f n (hm H' _ s h)
  | exc c => exact hx c h
  | bad => exact hb h
theorem bind_p {α β : Type} {P : Hp → Res α → Prop} {r : Res β} {f : β → Res α} {Q1 : β → Hp → Prop} (hx : ∀ c, P H (.exc c) → ∀ d H', Same H H' → E (.ref (ca c)) d H') (hb : P H .bad → False) (hm : ∀ H1 z, Same H H1 → P H z → P H1 z) (h : P H (r.bind f))
    (k : ∀ x H', r = .ok x → Same H H' → P H' (f x) → Q1 x H') : PostP ca E H Q1 r := by
  cases r with
  | ok x => exact fun H' s => k x H' rfl s (hm H' _ s h)
  | exc c => exact hx c h
  | bad => exact hb h
theorem Post.bindv {r : Res PV} {f : PV → Res PV} {Q1 : VK} (h : Post K ca E ok H Q (r.bind f)) (k : ∀ x H' v fp, r = .ok x → Same H H' → Rp K H' (okn ok fp) x v fp → (∀ a ∈ fp, H a = none) → fp.Nodup → Post K ca E ok H' Q (f x) → Q1 v H') : Post K ca E ok H Q1 r :=
  bind_v (P := fun H z => Post K ca E ok H Q z) (fun _ z => z) (fun z => z) (fun _ _ s z => z.mono s) h k
theorem Post.binda {r : Res (List PV)} {f : List PV → Res PV} {Q1 : List V → Hp → Prop} (h : Post K ca E ok H Q (r.bind f)) (k : ∀ x H' v fp, r = .ok x → Same H H' → Rps K H' (okn ok fp) x v fp → (∀ a ∈ fp, H a = none) → fp.Nodup → Post K ca E ok H' Q (f x) → Q1 v H') : PostA K ca E ok H Q1 r :=
  bind_a (P := fun H z => Post K ca E ok H Q z) (fun _ z => z) (fun z => z) (fun _ _ s z => z.mono s) h k
theorem Post.bindp {β : Type} {r : Res β} {f : β → Res PV} {Q1 : β → Hp → Prop} (h : Post K ca E ok H Q (r.bind f)) (k : ∀ x H', r = .ok x → Same H H' → Post K ca E ok H' Q (f x) → Q1 x H') : PostP ca E H Q1 r :=
  bind_p (P := fun H z => Post K ca E ok H Q z) (fun _ z => z) (fun z => z) (fun _ _ s z => z.mono s) h k
theorem PostP.bindv {α : Type} {Q : α → Hp → Prop} {r : Res PV} {f : PV → Res α} {Q1 : VK} (h : PostP ca E H Q (r.bind f)) (k : ∀ x H' v fp, r = .ok x → Same H H' → Rp K H' (okn ok fp) x v fp → (∀ a ∈ fp, H a = none) → fp.Nodup → PostP ca E H' Q (f x) → Q1 v H') : Post K ca E ok H Q1 r :=
  bind_v (P := fun H z => PostP ca E H Q z) (fun _ z => z) (fun z => z) (fun _ _ s z => z.mono s) h k
theorem PostP.bindp {α β : Type} {Q : α → Hp → Prop} {r : Res β} {f : β → Res α} {Q1 : β → Hp → Prop} (h : PostP ca E H Q (r.bind f)) (k : ∀ x H', r = .ok x → Same H H' → PostP ca E H' Q (f x) → Q1 x H') : PostP ca E H Q1 r :=
  bind_p (P := fun H z => PostP ca E H Q z) (fun _ z => z) (fun z => z) (fun _ _ s z => z.mono s) h k
theorem PostA.bindv {Q : List V → Hp → Prop} {r : Res PV} {f : PV → Res (List PV)} {Q1 : VK} (h : PostA K ca E ok H Q (r.bind f)) (k : ∀ x H' v fp, r = .ok x → Same H H' → Rp K H' (okn ok fp) x v fp → (∀ a ∈ fp, H a = none) → fp.Nodup → PostA K ca E ok H' Q (f x) → Q1 v H') : Post K ca E ok H Q1 r :=
  bind_v (P := fun H z => PostA K ca E ok H Q z) (fun _ z => z) (fun z => z) (fun _ _ s z => z.mono s) h k
theorem PostA.binda {Q : List V → Hp → Prop} {r : Res (List PV)} {f : List PV → Res (List PV)} {Q1 : List V → Hp → Prop} (h : PostA K ca E ok H Q (r.bind f)) (k : ∀ x H' v fp, r = .ok x → Same H H' → Rps K H' (okn ok fp) x v fp → (∀ a ∈ fp, H a = none) → fp.Nodup → PostA K ca E ok H' Q (f x) → Q1 v H') : PostA K ca E ok H Q1 r :=
  bind_a (P := fun H z => PostA K ca E ok H Q z) (fun _ z => z) (fun z => z) (fun _ _ s z => z.mono s) h k
/-- a thing just told, no longer one's own -/
theorem Rp.fz {x : PV} {v : V} {fp : List Addr} (r : Rp K H1 (okn ok fp) x v fp) (fr : Fre ok H) (f : ∀ a ∈ fp, H a = none) : Rp K H1 ok (BW.frz x) v [] := r.frz (fun _ z => z.1) fun a z => fr a (f a z)
theorem Rps.fz {x : List PV} {v : List V} {fp : List Addr} (r : Rps K H1 (okn ok fp) x v fp) (fr : Fre ok H) (f : ∀ a ∈ fp, H a = none) : Rps K H1 ok (BW.frzs x) v [] := r.frz (fun _ z => z.1) fun a z => fr a (f a z)
end

/-! ### readings -/
section
variable (K : PySem.W.Frag) (ca : Nat → Addr) (cl : Cl) (W : WX)
def tE (e : Ex) : TE := fun σ H Q => ∃ env ok, EIn K H ok env σ (vE e) ∧ Fre ok H ∧ Post K ca (WE W σ) ok H Q (evE cl env e)
def tT (e : Ex) : TT := fun σ H Q => ∃ env ok, EIn K H ok env σ (vE e) ∧ Fre ok H ∧ PostP ca (WE W σ) H Q ((evE cl env e).bind asB)
def tAs (es : Exs) : TA := fun σ H Q => ∃ env ok, EIn K H ok env σ (vEs es) ∧ Fre ok H ∧ PostA K ca (WE W σ) ok H Q (evEs cl env es)
def tOp1 (o : Exo) : TO := fun σ H Q => ∃ env ok, EIn K H ok env σ (vO o) ∧ Fre ok H ∧ PostP ca (WE W σ) H Q (evO cl env o)
def spF (np : Nat) (f : Nat) : Sp := fun vs H Q E => vs.length = np ∧ ∃ ok xs, Fre ok H ∧ Rps K H ok xs vs [] ∧ Post K ca E ok H Q (cl f xs)
end
def bnames : List Str := ["len", "int", "list", "min", "max", "isinstance", "bool", "tuple", "dict", "str", "range", "reversed", "sum", "all", "sorted", "zip", "set", "enumerate"]
/-- a module's constant as it stands -/
def GlOk (K : PySem.W.Frag) (o : Option Value) : Gk → Prop
  | .int i => ∃ t, o = some (.int i t)
  | .str x => PyData.strOk x = true ∧ ∃ t, o = some (.str x t)
  | .txs xs => (∀ x ∈ xs, PyData.strOk x = true) ∧ ∃ (a : Addr) (ob : Obj) (its : Array Value) (n : Nat), o = some (.ref a) ∧ K.lookup a = some ob ∧ ob.cls = .type "tuple" ∧ ob.dict = none ∧ ob.data = .seq its n ∧ its.size ≤ sizeLine ∧ Vals (xs.map V.str) its.toList
structure Cok (X : Cx) (W : WX) (tc : Tc) (cl : Cl) (n : Nat) (ca fa : Nat → Addr) : Prop where
  calm : X.calm = true
  nd : X.N.Nodup
  N : tc.N = X.N
  sc : tc.sc = X.env.scope
  room : Room n X.A
  pass : ∀ σ, PassesAt (L2.CX X.prog X.w) X σ (WE W σ)
  blt : ∀ x ∈ bnames, X.mg x = none
  gls : ∀ x g, tc.gl.lookup x = some g → GlOk X.K (X.mg x) g
  fns : ∀ x f, tc.fn.lookup x = some f → X.mg x = some (.ref (fa f)) ∧ PySem.W.keepIn X.K (.ref (fa f)) = true ∧
    ∃ fd ps, FnOk X.prog X.w X.K X.mg X.base (L2.CX X.prog X.w) n (fa f) fd ps (spF X.K ca cl ps.length f) ∧ Binds X.K fd ps [] ∧ ∀ xs, cl f xs ≠ .bad → xs.length = ps.length

theorem PE.imp {X : Cx} {e : Expr} {t t' : TE} (h : PE X e t) (k : ∀ σ H Q, t' σ H Q → t σ H Q) : PE X e t' := ⟨fun pins s σ H Q I q => h.run pins s σ H Q I (k σ H Q q)⟩
theorem PT.imp {X : Cx} {e : Expr} {t t' : TT} (h : PT X e t) (k : ∀ σ H Q, t' σ H Q → t σ H Q) : PT X e t' := ⟨fun pins s σ H Q I q => h.run pins s σ H Q I (k σ H Q q)⟩
theorem PW.imp {X : Cx} {e : Expr} {t t' : TT} (h : PW X e t) (k : ∀ σ H Q, t' σ H Q → t σ H Q) : PW X e t' := ⟨fun wh pins s σ H Q I q => h.run wh pins s σ H Q I (k σ H Q q)⟩
theorem PA.imp {X : Cx} {e : List Expr} {t t' : TA} (h : PA X e t) (k : ∀ σ H Q, t' σ H Q → t σ H Q) : PA X e t' := ⟨fun pos pins s σ H Q I q => h.run pos pins s σ H Q I (k σ H Q q)⟩
theorem PO.imp {X : Cx} {e : Option Expr} {t t' : TO} (h : PO X e t) (k : ∀ σ H Q, t' σ H Q → t σ H Q) : PO X e t' := ⟨fun pins s σ H Q I q => h.run pins s σ H Q I (k σ H Q q)⟩
theorem star_of {e : Expr} {es : List Expr} {env : Env} (h : plainX e = true) : starEach (e :: es) env = (false, eval e env) :: starEach es env := by
  cases e <;> first | rfl | cases h
theorem back_of {pos : Pos} {env : Env} : ∀ {es : List Expr}, (∀ e ∈ es, plainX e = true) → (backTo pos (starEach es env)).any (·.1) = false
  | [], _ => rfl
  | e :: es, h => by
    rw [star_of (h e List.mem_cons_self)]
    show (false || (backTo pos (starEach es env)).any (·.1)) = false
    rw [back_of fun e z => h e (List.mem_cons_of_mem _ z)]
    rfl
theorem ix_of {e : Expr} (h : plainX e = true) : PlainIx e := by
  intro o i
  cases e <;> first | rfl | cases h
theorem mark_of {e : Expr} {op : CmpOp} (h : plainX e = true) : behindInMarks op e = false := by
  cases e <;> first | rfl | cases h
/-- forms whose truth is asked of the value -/
def truthX : Expr → Bool
  | .Name _ _ => true
  | .Constant _ _ _ => true
  | .BinOp _ _ _ _ => true
  | .Tuple _ _ _ => true
  | .List _ _ => true
  | .Subscript _ _ _ => true
  | .Call _ _ _ _ => true
  | .ListComp _ _ _ _ => true
  | .UnaryOp .USub _ _ => true
  | _ => false
theorem truth_of {e : Expr} {env : Env} (h : truthX e = true) (whole : Sem Value) : isTrue e env whole = (do let v ← whole; standAt e.pos; holding [v] (truthy v)) := by
  cases e with
  | UnaryOp op a p => cases op <;> first | rfl | cases h
  | _ => first | rfl | cases h
end BW

/-! One lemma a form. -/
namespace BW
open PySem PySem.Spec L2

structure SndE (X : Cx) (ca : Nat → Addr) (cl : Cl) (W : WX) (e : Ex) (py : Expr) : Prop where
  pe : PE X py (tE X.K ca cl W e)
  pt : PT X py (tT X.K ca cl W e)
  pw : ∀ op vs pos, py = .BoolOp op vs pos → PW X py (tT X.K ca cl W e)
def noBool : Expr → Bool
  | .BoolOp _ _ _ => false
  | _ => true
section
variable {X : Cx} {ca fa : Nat → Addr} {cl : Cl} {W : WX} {tc : Tc} {n : Nat}
theorem asB_ok {r : Res PV} {b : Bool} {α : Type} {f : Bool → Res α} {x : PV} (h : (asB x).bind f ≠ .bad) : ∃ b, x = .bl b := by
  cases x <;> first | exact ⟨_, rfl⟩ | exact absurd rfl h
/-- a value's truth, where it is asked of the value -/
theorem pt_of {e : Ex} {py : Expr} (h : PE X py (tE X.K ca cl W e)) (ht : truthX py = true) : PT X py (tT X.K ca cl W e) := by
  refine PT.imp (pt_val h (truth_of ht)) fun σ H Q ⟨env, ok, hi, fr, hm⟩ => ?_
  refine ⟨env, ok, hi, fr, hm.bindv fun x H' v fp e1 s r f nd q => ?_⟩
  cases r <;> first | exact q.elim | exact ⟨_, rfl, q _ (Same.refl _)⟩
theorem snd_val {e : Ex} {py : Expr} (h : PE X py (tE X.K ca cl W e)) (ht : truthX py = true) : SndE X ca cl W e py :=
  ⟨h, pt_of h ht, fun op vs pos z => by subst z; cases ht⟩
theorem s_var {i : Nat} {x : Str} {p : Pos} (C : Cok X W tc cl n ca fa) (h : nameB tc i x = true) : SndE X ca cl W (.var i) (.Name x p) := by
  unfold nameB at h
  rw [Bool.and_eq_true, Bool.and_eq_true, decide_eq_true_eq] at h
  obtain ⟨h1, h2, h3⟩ := h
  have hv : Vis X.env.scope x := by
    rw [C.sc] at h2
    unfold visB at h2
    unfold Vis
    split at h2 <;> first | exact .inl (by assumption) | exact .inr (.inl (by assumption)) | exact .inr (.inr (by assumption)) | cases h2
  have ho : (x == ("__debug__" : Str)) = false ∧ (x == ("__classdict__" : Str)) = false := by
    unfold odd at h3
    rw [Bool.not_eq_true', Bool.or_eq_false_iff] at h3
    exact h3
  refine snd_val (PE.imp (pe_var (by rw [← C.N]; exact h1) hv ho.1 ho.2) fun σ H Q ⟨env, ok, hi, fr, hm⟩ => ?_) rfl
  have hm : Post X.K ca (WE W σ) ok H Q (getE env i) := hm
  cases e : getE env i with
  | ok y =>
    obtain ⟨v, h1, h2⟩ := hi.2 i (List.mem_singleton.mpr rfl) y e
    rw [e] at hm
    exact ⟨v, h1, Got.old hm h2⟩
  | exc c =>
    unfold getE at e
    split at e <;> cases e
  | bad =>
    rw [e] at hm
    exact hm.elim
theorem s_int {i : Int} {k : Nat} {p : Pos} : SndE X ca cl W (.int i) (.Constant (.int i) k p) := snd_val (PE.imp pe_int fun σ H Q ⟨env, ok, hi, fr, hm⟩ => Got.int hm) rfl
theorem s_bl {i : Bool} {k : Nat} {p : Pos} : SndE X ca cl W (.bl i) (.Constant (.bool i) k p) := snd_val (PE.imp pe_bl fun σ H Q ⟨env, ok, hi, fr, hm⟩ => Got.bl hm) rfl
theorem s_non {k : Nat} {p : Pos} : SndE X ca cl W .non (.Constant .none k p) := snd_val (PE.imp pe_non fun σ H Q ⟨env, ok, hi, fr, hm⟩ => Got.non hm) rfl
theorem s_str {x : Str} {k : Nat} {p : Pos} (z : PyData.strOk x = true) : SndE X ca cl W (.str x) (.Constant (.str x) k p) := snd_val (PE.imp pe_str fun σ H Q ⟨env, ok, hi, fr, hm⟩ => Got.str hm z) rfl
/-- two values, an operator -/
theorem bin_imp {a b : Ex} {g : PV → PV → Res PV} {e : Ex} (hv : vE e = vE a ++ vE b) (he : ∀ env, evE cl env e = (evE cl env a).bind fun x => (evE cl env b).bind fun y => g (frz x) (frz y)) (hg : ∀ x y c, g x y ≠ .exc c) {σ : L2.St} {H : Hp} {Q : VK}
    (h : tE X.K ca cl W e σ H Q) : tOp (rOp X.K g) (tE X.K ca cl W a) (tE X.K ca cl W b) σ H Q := by
  obtain ⟨env, ok, hi, fr, hm⟩ := h
  rw [hv] at hi
  rw [he] at hm
  refine ⟨env, ok, hi.left, fr, hm.bindv fun x H1 v fp e1 s1 r1 f1 n1 q1 => ?_⟩
  refine ⟨env, ok, hi.right.same s1, fr.same s1, q1.bindv fun y H2 u fp2 e2 s2 r2 f2 n2 q2 => ?_⟩
  cases e3 : g (frz x) (frz y) with
  | ok z =>
    rw [e3] at q2
    exact ⟨ok, frz x, frz y, z, (fr.same s1).same s2, (r1.fz fr f1).same s2, r2.fz (fr.same s1) f2, e3, q2⟩
  | exc c => exact absurd e3 (hg _ _ c)
  | bad =>
    rw [e3] at q2
    exact q2.elim
theorem binI_ne {op : Bop} {i j : Int} {c : Nat} : binI op i j ≠ .exc c := by
  intro h
  cases op <;> simp only [binI] at h <;> first | cases h | (split at h <;> cases h)
theorem binop_ne {op : Bop} {x y : PV} {c : Nat} : binop op x y ≠ .exc c := by
  intro h
  unfold binop at h
  split at h <;> first | exact binI_ne h | (cases h; done) | (split at h <;> cases h)
theorem cmpop_ne {op : Cop} {x y : PV} {c : Nat} : cmpop op x y ≠ .exc c := by
  intro h
  unfold cmpop at h
  cases op <;> simp only at h
  · split at h <;> cases h
  · split at h <;> cases h
  · split at h <;> cases h
  · split at h <;> cases h
  · split at h <;> cases h
  · split at h <;> cases h
  · split at h <;> cases h
  · split at h
    · cases h
    · split at h <;> cases h
    · cases h
  · unfold inop at h
    split at h
    · split at h <;> cases h
    · split at h <;> cases h
    · cases h
  · unfold inop at h
    split at h
    · split at h <;> cases h
    · split at h <;> cases h
    · cases h
theorem idxop_ne {x y : PV} {c : Nat} : idxop x y ≠ .exc c := by
  intro h
  unfold idxop at h
  split at h <;> first | (cases h; done) | (split at h <;> first | (cases h; done) | (split at h <;> cases h))
theorem s_bin {op : Bop} {a b : Ex} {l r : Expr} {p : Pos} (ha : SndE X ca cl W a l) (hb : SndE X ca cl W b r) : SndE X ca cl W (.bin op a b) (.BinOp l (pyB op) r p) :=
  snd_val (PE.imp (pe_op (op_bin op) ha.pe hb.pe) fun σ H Q h => bin_imp (g := binop op) rfl (fun _ => rfl) (fun _ _ _ => binop_ne) h) rfl
theorem tB_of {e : Ex} {t : TE} (k : ∀ σ H Q, tE X.K ca cl W e σ H Q → t σ H Q) {σ : L2.St} {H : Hp} {Q : Bool → Hp → Prop} (h : tT X.K ca cl W e σ H Q) : tTest t σ H Q := by
  obtain ⟨env, ok, hi, fr, hm⟩ := h
  refine k σ H _ ⟨env, ok, hi, fr, hm.bindv fun x H' v fp e1 s r f nd q => ?_⟩
  cases r <;> first | exact q.elim | exact ⟨_, rfl, q _ (Same.refl _)⟩
theorem s_cmp {op : Cop} {a b : Ex} {l r : Expr} {p : Pos} (hu : X.A.units + 64 < cLine) (ha : SndE X ca cl W a l) (hb : SndE X ca cl W b r) (hr : plainX r = true) : SndE X ca cl W (.cmp op a b) (.Compare l [pyC op] [r] p) := by
  have k : ∀ σ H Q, tE X.K ca cl W (.cmp op a b) σ H Q → tOp (rOp X.K (cmpop op)) (tE X.K ca cl W a) (tE X.K ca cl W b) σ H Q := fun σ H Q h => bin_imp (g := cmpop op) rfl (fun _ => rfl) (fun _ _ _ => cmpop_ne) h
  exact ⟨PE.imp (pe_cmpR (op_cmp hu op) ha.pe hb.pe (mark_of hr)) k, PT.imp (pt_cmpR (op_cmp hu op) ha.pe hb.pe (mark_of hr)) fun σ H Q h => tB_of k h, fun _ _ _ z => by cases z⟩
theorem s_idx {a b : Ex} {l r : Expr} {p : Pos} (ha : SndE X ca cl W a l) (hb : SndE X ca cl W b r) (hr : plainX r = true) : SndE X ca cl W (.idx a b) (.Subscript l r p) :=
  snd_val (PE.imp (pe_ix ix_op ha.pe hb.pe (ix_of hr)) fun σ H Q h => bin_imp (g := idxop) rfl (fun _ => rfl) (fun _ _ _ => idxop_ne) h) rfl
theorem s_neg {a : Ex} {l : Expr} {p : Pos} (ha : SndE X ca cl W a l) : SndE X ca cl W (.neg a) (.UnaryOp .USub l p) := by
  refine snd_val (PE.imp (pe_un un_neg ha.pe) fun σ H Q ⟨env, ok, hi, fr, hm⟩ => ⟨env, ok, hi, fr, hm.bindv fun x H1 v fp e1 s1 r1 f1 n1 q1 => ?_⟩) rfl
  cases r1 <;> first | exact q1.elim | exact ⟨_, rfl, Got.int q1⟩
theorem s_not {a : Ex} {l : Expr} {p : Pos} (ha : SndE X ca cl W a l) : SndE X ca cl W (.not a) (.UnaryOp .Not l p) := by
  have k : ∀ σ H (Q : VK), tE X.K ca cl W (.not a) σ H Q → tNotV (tE X.K ca cl W a) σ H Q := fun σ H Q ⟨env, ok, hi, fr, hm⟩ => by
    refine ⟨env, ok, hi, fr, hm.bindv fun x H1 v fp e1 s1 r1 f1 n1 q1 => ?_⟩
    cases r1 <;> first | exact q1.elim | exact ⟨_, rfl, Got.bl q1⟩
  refine ⟨PE.imp (pe_not ha.pe) k, PT.imp (pt_not ha.pt) fun σ H Q ⟨env, ok, hi, fr, hm⟩ => ?_, fun _ _ _ z => by cases z⟩
  refine ⟨env, ok, hi, fr, ?_⟩
  have hm : PostP ca (WE W σ) H Q (((evE cl env a).bind fun x => (asB x).bind fun b => .ok (.bl (!b))).bind asB) := hm
  cases e : evE cl env a with
  | ok x =>
    rw [e] at hm
    cases x <;> first | exact hm.elim | exact fun H' s => hm H' s
  | exc c =>
    rw [e] at hm
    exact hm
  | bad =>
    rw [e] at hm
    exact hm.elim
theorem s_and {a b : Ex} {l : Expr} {r : List Expr} {p : Pos} (ha : SndE X ca cl W a l) (hb : PE X (.BoolOp .And r p) (tE X.K ca cl W b)) (hw : PW X (.BoolOp .And r p) (tT X.K ca cl W b)) (hr : r ≠ []) :
    SndE X ca cl W (.and a b) (.BoolOp .And (l :: r) p) := by
  obtain ⟨y, r', rfl⟩ : ∃ y r', r = y :: r' := by
    cases r with
    | nil => exact absurd rfl hr
    | cons y r' => exact ⟨y, r', rfl⟩
  have w : PW X (.BoolOp .And (l :: y :: r') p) (tT X.K ca cl W (.and a b)) := by
    refine PW.imp (pw_and ha.pt hw) fun σ H Q ⟨env, ok, hi, fr, hm⟩ => ?_
    have hm : PostP ca (WE W σ) H Q (((evE cl env a).bind fun x => (asB x).bind fun k => if k = true then evE cl env b else .ok (.bl false)).bind asB) := hm
    have hm : PostP ca (WE W σ) H Q (((evE cl env a).bind asB).bind fun k => if k = true then (evE cl env b).bind asB else .ok false) := by
      cases e : evE cl env a with
      | ok x =>
        rw [e] at hm
        cases x <;> first | exact hm | (rename_i k; cases k <;> exact hm)
      | exc c => rw [e] at hm; exact hm
      | bad => rw [e] at hm; exact hm
    refine ⟨env, ok, hi.left, fr, hm.bindp fun k H1 e1 s1 q1 => ?_⟩
    cases k with
    | true =>
      rw [if_pos rfl] at q1 ⊢
      exact ⟨env, ok, hi.right.same s1, fr.same s1, q1⟩
    | false =>
      rw [if_neg (by decide)] at q1 ⊢
      exact q1 _ (Same.refl _)
  refine ⟨PE.imp (pe_and ha.pe hb) fun σ H Q ⟨env, ok, hi, fr, hm⟩ => ⟨env, ok, hi.left, fr, hm.bindv fun x H1 v fp e1 s1 r1 f1 n1 q1 => ?_⟩, w.pt, fun _ _ _ _ => w⟩
  cases r1 <;> first | exact q1.elim | skip
  rename_i k
  refine ⟨k, rfl, ?_⟩
  cases k with
  | true =>
    rw [if_pos rfl]
    exact ⟨env, ok, hi.right.same s1, fr.same s1, q1⟩
  | false =>
    rw [if_neg (by decide)]
    exact Got.bl q1
theorem s_or {a b : Ex} {l : Expr} {r : List Expr} {p : Pos} (ha : SndE X ca cl W a l) (hb : PE X (.BoolOp .Or r p) (tE X.K ca cl W b)) (hw : PW X (.BoolOp .Or r p) (tT X.K ca cl W b)) (hr : r ≠ []) :
    SndE X ca cl W (.or a b) (.BoolOp .Or (l :: r) p) := by
  obtain ⟨y, r', rfl⟩ : ∃ y r', r = y :: r' := by
    cases r with
    | nil => exact absurd rfl hr
    | cons y r' => exact ⟨y, r', rfl⟩
  have w : PW X (.BoolOp .Or (l :: y :: r') p) (tT X.K ca cl W (.or a b)) := by
    refine PW.imp (pw_or ha.pt hw) fun σ H Q ⟨env, ok, hi, fr, hm⟩ => ?_
    have hm : PostP ca (WE W σ) H Q (((evE cl env a).bind fun x => (asB x).bind fun k => if k = true then .ok (.bl true) else evE cl env b).bind asB) := hm
    have hm : PostP ca (WE W σ) H Q (((evE cl env a).bind asB).bind fun k => if k = true then .ok true else (evE cl env b).bind asB) := by
      cases e : evE cl env a with
      | ok x =>
        rw [e] at hm
        cases x <;> first | exact hm | (rename_i k; cases k <;> exact hm)
      | exc c => rw [e] at hm; exact hm
      | bad => rw [e] at hm; exact hm
    refine ⟨env, ok, hi.left, fr, hm.bindp fun k H1 e1 s1 q1 => ?_⟩
    cases k with
    | true =>
      rw [if_pos rfl] at q1 ⊢
      exact q1 _ (Same.refl _)
    | false =>
      rw [if_neg (by decide)] at q1 ⊢
      exact ⟨env, ok, hi.right.same s1, fr.same s1, q1⟩
  refine ⟨PE.imp (pe_or ha.pe hb) fun σ H Q ⟨env, ok, hi, fr, hm⟩ => ⟨env, ok, hi.left, fr, hm.bindv fun x H1 v fp e1 s1 r1 f1 n1 q1 => ?_⟩, w.pt, fun _ _ _ _ => w⟩
  cases r1 <;> first | exact q1.elim | skip
  rename_i k
  refine ⟨k, rfl, ?_⟩
  cases k with
  | true =>
    rw [if_pos rfl]
    exact Got.bl q1
  | false =>
    rw [if_neg (by decide)]
    exact ⟨env, ok, hi.right.same s1, fr.same s1, q1⟩
theorem s_chn {op op' : Cop} {a b c : Ex} {l m r : Expr} {p : Pos} (hu : X.A.units + 64 < cLine) (ha : SndE X ca cl W a l) (hb : SndE X ca cl W b m) (hc : SndE X ca cl W c r) (hr : plainX r = true) :
    SndE X ca cl W (.chn op op' a b c) (.Compare l [pyC op, pyC op'] [m, r] p) := by
  have hmk : lastMarks [pyC op, pyC op'] [m, r] = false := mark_of hr
  have k : ∀ σ H Q, tE X.K ca cl W (.chn op op' a b c) σ H Q → tChain (rOp X.K (cmpop op)) (rOp X.K (cmpop op')) (tE X.K ca cl W a) (tE X.K ca cl W b) (tE X.K ca cl W c) σ H Q := fun σ H Q ⟨env, ok, hi, fr, hm⟩ => by
    refine ⟨env, ok, hi.left, fr, hm.bindv fun x H1 v fp e1 s1 r1 f1 n1 q1 => ?_⟩
    refine ⟨env, ok, hi.right.left.same s1, fr.same s1, q1.bindv fun y H2 u fp2 e2 s2 r2 f2 n2 q2 => ?_⟩
    have fr2 := (fr.same s1).same s2
    have ry := r2.fz (fr.same s1) f2
    cases e3 : cmpop op (frz x) (frz y) with
    | ok z =>
      rw [e3] at q2
      refine ⟨ok, frz x, frz y, z, fr2, (r1.fz fr f1).same s2, ry, e3, fun H3 w fp3 s3 r3 f3 n3 => ?_⟩
      replace q2 : Post X.K ca (WE W σ) ok H2 Q ((asB z).bind fun k => if k = true then (evE cl env c).bind fun u => cmpop op' (frz y) (frz u) else .ok (.bl false)) := q2
      cases r3 <;> first | exact q2.elim | skip
      rename_i k
      refine ⟨k, rfl, ?_⟩
      have q3 := q2.mono s3
      cases k with
      | true =>
        rw [if_pos rfl]
        refine ⟨env, ok, ((hi.right.right.same s1).same s2).same s3, fr2.same s3, Post.bindv q3 fun t H4 w4 fp4 e4 s4 r4 f4 n4 q4 => ?_⟩
        cases e5 : cmpop op' (frz y) (frz t) with
        | ok z4 =>
          rw [e5] at q4
          exact ⟨ok, frz y, frz t, z4, (fr2.same s3).same s4, (ry.same s3).same s4, r4.fz (fr2.same s3) f4, e5, q4⟩
        | exc c => exact absurd e5 cmpop_ne
        | bad => rw [e5] at q4; exact q4.elim
      | false =>
        rw [if_neg (by decide)]
        exact Got.bl q3
    | exc c => exact absurd e3 cmpop_ne
    | bad => rw [e3] at q2; exact q2.elim
  exact ⟨PE.imp (pe_chain (op_cmp hu op) (op_cmp hu op') ha.pe hb.pe hc.pe hmk) k, PT.imp (pt_chain (op_cmp hu op) (op_cmp hu op') ha.pe hb.pe hc.pe hmk) fun σ H Q h => tB_of k h, fun _ _ _ z => by cases z⟩
theorem evEs_len : ∀ {es : Exs} {env : PEnv} {xs : List PV}, evEs cl env es = .ok xs → xs.length = lenX es
  | .nil, _, _, h => by cases h; rfl
  | .cons e es, env, xs, h => by
    have h : ((evE cl env e).bind fun x => (evEs cl env es).bind fun xs => .ok (x :: xs)) = .ok xs := h
    cases e1 : evE cl env e with
    | ok x =>
      rw [e1] at h
      cases e2 : evEs cl env es with
      | ok ys =>
        rw [e2] at h
        cases h
        show ys.length + 1 = lenX es + 1
        rw [evEs_len e2]
      | exc c => rw [e2] at h; cases h
      | bad => rw [e2] at h; cases h
    | exc c => rw [e1] at h; cases h
    | bad => rw [e1] at h; cases h
theorem line1000 {m : Nat} (h : m ≤ 1000) : m ≤ sizeLine := by rw [sizeLine_eq]; omega
theorem s_tup {es : Exs} {xs : List Expr} {k : Nat} {p : Pos} (h : PA X xs (tAs X.K ca cl W es)) (hl : lenX es ≤ 1000) : SndE X ca cl W (.tup es) (.Tuple xs k p) := by
  refine snd_val (PE.imp (pe_tup h) fun σ H Q ⟨env, ok, hi, fr, hm⟩ => ⟨env, ok, hi, fr, Post.binda hm fun x H1 v fp e1 s1 r1 f1 n1 q1 => ⟨?_, fun q hq => ?_⟩⟩) rfl
  · rw [← r1.len, evEs_len e1]
    exact line1000 hl
  · have hm : Post X.K ca (WE W σ) ok H Q ((evEs cl env es).bind fun vs => .ok (.tup vs)) := hm
    rw [e1] at hm
    exact hm _ _ fp (s1.trans (same_upd hq)) (.tup (.of upd_same) (r1.same (same_upd hq))) f1 n1
theorem s_lst {es : Exs} {xs : List Expr} {p : Pos} (h : PA X xs (tAs X.K ca cl W es)) (hl : lenX es ≤ 1000) : SndE X ca cl W (.lst es) (.List xs p) := by
  refine snd_val (PE.imp (pe_lst h) fun σ H Q ⟨env, ok, hi, fr, hm⟩ => ⟨env, ok, hi, fr, Post.binda hm fun x H1 v fp e1 s1 r1 f1 n1 q1 => ⟨?_, fun q hq => ?_⟩⟩) rfl
  · rw [← r1.len, evEs_len e1]
    exact line1000 hl
  · have hm : Post X.K ca (WE W σ) ok H Q ((evEs cl env es).bind fun vs => .ok (.lst true vs)) := hm
    rw [e1] at hm
    refine hm _ _ (q :: fp) (s1.trans (same_upd hq)) (.lstO upd_same ((r1.inD.imp fun a z => ⟨z.1.1, fun e => by
      rcases List.mem_cons.mp e with e | e
      · obtain ⟨u, hu⟩ := z.2
        rw [e, hq] at hu
        cases hu
      · exact z.1.2 e⟩).same (same_upd hq))) (fun a z => ?_) (List.nodup_cons.mpr ⟨fun z => ?_, n1⟩)
    · rcases List.mem_cons.mp z with e | z
      · rw [e]; exact s1.free hq
      · exact f1 a z
    · obtain ⟨u, e, _⟩ := r1.dom q z
      rw [hq] at e
      cases e
theorem s_call {f : Nat} {es : Exs} {x : Str} {e : Expr} {xs : List Expr} {p p2 : Pos} (C : Cok X W tc cl n ca fa) (h : PA X (e :: xs) (tAs X.K ca cl W es)) (hp : ∀ y ∈ e :: xs, plainX y = true) (hg : glB tc.sc x = true) (ho : odd x = false) (hf : tc.fn.lookup x = some f) :
    SndE X ca cl W (.call f es) (.Call (.Name x p) (e :: xs) [] p2) := by
  obtain ⟨m1, m2, fd, ps, F, B, L⟩ := C.fns x f hf
  have hG : Gl X x := by
    rw [C.sc] at hg
    unfold glB at hg
    show X.env.scope.names.lookup x = _
    split at hg
    · assumption
    · cases hg
  have hd : (x == ("__debug__" : Str)) = false := by
    unfold odd at ho
    rw [Bool.or_eq_false_iff] at ho
    exact ho.1
  refine snd_val (PE.imp (pe_callS F C.room hG m1 m2 B C.pass h hd (star_of (hp e List.mem_cons_self)) (back_of fun y z => hp y (List.mem_cons_of_mem _ z))) fun σ H Q ⟨env, ok, hi, fr, hm⟩ => ⟨env, ok, hi, fr, Post.binda hm fun y H1 v fp e1 s1 r1 f1 n1 q1 => ?_⟩) rfl
  have q1 : Post X.K ca (WE W σ) ok H1 Q (cl f (frzs y)) := q1
  have ry := r1.fz fr f1
  refine ⟨?_, ok, frzs y, fr.same s1, ry, q1⟩
  rw [← ry.len]
  refine L _ fun z => ?_
  rw [z] at q1
  exact q1
theorem biV_ne {b : Bi} {vs : List PV} {c : Nat} : biV b vs ≠ .exc c := by
  intro h
  unfold biV at h
  split at h
  · rename_i x
    have is : ∀ o : Option Bool, isR o ≠ .exc c := fun o z => by
      unfold isR at z
      split at z <;> cases z
    cases b <;> first | exact is _ h | cases h | (cases x <;> cases h)
  · rename_i x y
    cases b <;> first | cases h | (cases x <;> first | cases h | (cases y <;> cases h))
  · cases h
theorem gl_of (C : Cok X W tc cl n ca fa) {x : Str} (hg : glB tc.sc x = true) : Gl X x := by
  rw [C.sc] at hg
  unfold glB at hg
  show X.env.scope.names.lookup x = _
  split at hg
  · assumption
  · cases hg
theorem tCB_of {e : Ex} {es : Exs} {g : List PV → Res PV} (hv : vE e = vEs es) (he : ∀ env, evE cl env e = (evEs cl env es).bind fun vs => g (frzs vs)) (hg : ∀ x c, g x ≠ .exc c) {σ : L2.St} {H : Hp} {Q : VK} (h : tE X.K ca cl W e σ H Q) :
    tCB (rUn X.K g) (tAs X.K ca cl W es) σ H Q := by
  obtain ⟨env, ok, hi, fr, hm⟩ := h
  rw [hv] at hi
  rw [he] at hm
  refine ⟨env, ok, hi, fr, Post.binda hm fun y H1 v fp e1 s1 r1 f1 n1 q1 => ?_⟩
  cases e3 : g (frzs y) with
  | ok z =>
    rw [e3] at q1
    exact ⟨ok, frzs y, z, fr.same s1, r1.fz fr f1, e3, q1⟩
  | exc c => exact absurd e3 (hg _ c)
  | bad => rw [e3] at q1; exact q1.elim
theorem s_bi {b : Bi} {es : Exs} {e : Expr} {xs : List Expr} {p p2 : Pos} (C : Cok X W tc cl n ca fa) (h : PA X (e :: xs) (tAs X.K ca cl W es)) (hp : ∀ y ∈ e :: xs, plainX y = true) (hg : glB tc.sc (biNm b) = true) (hb : biHas b = true) :
    SndE X ca cl W (.bi b es) (.Call (.Name (biNm b) p) (e :: xs) [] p2) := by
  have hG := gl_of C hg
  have he := star_of (es := xs) (env := X.env) (hp e List.mem_cons_self)
  have hk := back_of (pos := p2) (env := X.env) fun y z => hp y (List.mem_cons_of_mem _ z)
  refine snd_val (PE.imp (t := tCB (rUn X.K (biV b)) (tAs X.K ca cl W es)) ?_ fun σ H Q h => tCB_of (g := biV b) rfl (fun _ => rfl) (fun _ _ => biV_ne) h) rfl
  cases b with
  | len => exact pe_callB (bi_op C.calm .len rfl) hG (C.blt _ (by decide +kernel)) PySem.boot_len h (by decide +kernel) (by decide +kernel) he hk
  | int => exact pe_callTy (bi_op C.calm .int rfl) hG (C.blt _ (by decide +kernel)) PyProof.Rows.boot_int h (by decide +kernel) (by decide +kernel) he hk
  | list => exact pe_callTy (bi_op C.calm .list rfl) hG (C.blt _ (by decide +kernel)) PyProof.Rows.boot_list h (by decide +kernel) (by decide +kernel) he hk
  | tuple => exact pe_callTy (bi_op C.calm .tuple rfl) hG (C.blt _ (by decide +kernel)) PyProof.Rows.boot_tuple h (by decide +kernel) (by decide +kernel) he hk
  | min => exact pe_callB (bi_op C.calm .min rfl) hG (C.blt _ (by decide +kernel)) PyProof.Rows.boot_min h (by decide +kernel) (by decide +kernel) he hk
  | max => exact pe_callB (bi_op C.calm .max rfl) hG (C.blt _ (by decide +kernel)) PyProof.Rows.boot_max h (by decide +kernel) (by decide +kernel) he hk
  | _ => cases hb
theorem rps_strs {K : PySem.W.Frag} {H : Hp} {ok : Addr → Prop} : ∀ xs : List Str, (∀ x ∈ xs, PyData.strOk x = true) → Rps K H ok (xs.map PV.str) (xs.map V.str) []
  | [], _ => .nil
  | x :: xs, h => .cons0 (.str x (h x List.mem_cons_self)) (rps_strs xs fun y hy => h y (List.mem_cons_of_mem _ hy))
theorem s_con {g : Gk} {x : Str} {p : Pos} (C : Cok X W tc cl n ca fa) (hg : glB tc.sc x = true) (ho : odd x = false) (hl : tc.gl.lookup x = some g) : SndE X ca cl W (.con g) (.Name x p) := by
  have hG := gl_of C hg
  have hd : (x == ("__debug__" : Str)) = false := by
    unfold odd at ho
    rw [Bool.or_eq_false_iff] at ho
    exact ho.1
  have q := C.gls x g hl
  cases g with
  | int i =>
    obtain ⟨t, e⟩ := q
    exact snd_val (PE.imp (pe_glob (v := .int i) hG e ⟨t, rfl⟩ hd) fun σ H Q ⟨env, ok, hi, fr, hm⟩ => Got.int hm) rfl
  | str z =>
    obtain ⟨z1, t, e⟩ := q
    exact snd_val (PE.imp (pe_glob (v := .str z) hG e ⟨t, rfl⟩ hd) fun σ H Q ⟨env, ok, hi, fr, hm⟩ => Got.str hm z1) rfl
  | txs xs =>
    obtain ⟨z1, a, ob, its, m, e, k1, k2, k3, k4, k5, k6⟩ := q
    refine snd_val (PE.imp (pe_glob (v := .ref a) hG e rfl hd) fun σ H Q ⟨env, ok, hi, fr, hm⟩ => ?_) rfl
    replace hm : Got X.K H ok Q (.tup (xs.map PV.str)) := hm
    exact hm.old (.tup (.inr ⟨ob, its, m, k1, k2, k4, k5, k6⟩) (rps_strs xs z1))
end
end BW

/-! What is walked. -/
namespace BW
open PySem PySem.Spec L2

def KeepM (M : Addr → Prop) (H H' : Hp) : Prop := ∀ a o, H a = some o → ¬ M a → H' a = some o
/-- J walks these things, while all but what is at M stays -/
structure Wk (K : PySem.W.Frag) (okx M : Addr → Prop) (J : It) (items : List PV) (H0 : Hp) : Prop where
  go : ∀ i H, KeepM M H0 H → i < items.length → J.go i H
  yld : ∀ i H x H', KeepM M H0 H → i < items.length → J.yld i H x H' → Same H H' ∧ ∃ pv, items[i]? = some pv ∧ Rp K H' okx pv x []
  stop : ∀ i H, KeepM M H0 H → items.length ≤ i → J.stop i H
def PostI (K : PySem.W.Frag) (ca : Nat → Addr) (E : XK) (ok : Addr → Prop) (H : Hp) (R : It → Hp → Prop) : Res (PV × List PV) → Prop
  | .ok p => ∀ J H' okx, Same H H' → (∀ a, okx a → (H a = none ∨ (cls p.1 = false ∧ ok a)) ∧ ∃ u, H' a = some u) → (∀ M, (∀ a, okx a → ¬ M a) → (∀ a, M a → ∃ u, H' a = some u ∧ isMu u = true) → Wk K okx M J p.2 H') → R J H'
  | .exc c => ∀ d H', Same H H' → E (.ref (ca c)) d H'
  | .bad => False
section
variable {K : PySem.W.Frag} {ca : Nat → Addr} {E : XK} {ok okx M : Addr → Prop} {H H0 H1 : Hp} {items : List PV} {vs : List V} {a : Addr}
theorem rp_at {i : Nat} (r : Rps K H okx items vs []) (hi : i < items.length) : ∃ pv v, items[i]? = some pv ∧ vs[i]? = some v ∧ Rp K H okx pv v [] := by
  have e : items[i]? = some items[i] := List.getElem?_eq_getElem hi
  obtain ⟨v, h1, h2⟩ := r.get e
  exact ⟨_, v, e, h1, h2⟩
theorem wk_list (hr : Rd H0 a (.lst vs)) (ha : okx a) (r : Rps K H0 okx items vs []) (hM : ∀ a, okx a → ¬ M a) (hm : ∀ a, M a → ∃ u, H0 a = some u ∧ isMu u = true) : Wk K okx M (Itl K a) items H0 where
  go := fun i H k hi => by
    obtain ⟨pv, v, e1, e2, _⟩ := rp_at r hi
    exact ⟨vs, v, .inl (rd_keep k (hM a ha) hr), e2⟩
  yld := fun i H x H' k hi y => by
    obtain ⟨e, y⟩ := y
    subst e
    obtain ⟨pv, v, e1, e2, q⟩ := rp_at (r.keep k hm (fun _ z => z) hM (fun _ z => nomatch z)) hi
    have e3 := y vs (.inl (rd_keep k (hM a ha) hr))
    rw [e2] at e3
    cases e3
    exact ⟨Same.refl _, pv, e1, q⟩
  stop := fun i H k hi => ⟨vs, .inl (rd_keep k (hM a ha) hr), by rw [← r.len]; exact hi⟩
theorem wk_tup (hr : SqT K H0 a vs) (r : Rps K H0 okx items vs []) (hM : ∀ a, okx a → ¬ M a) (hm : ∀ a, M a → ∃ u, H0 a = some u ∧ isMu u = true) : Wk K okx M (Itt K a) items H0 where
  go := fun i H k hi => by
    obtain ⟨pv, v, e1, e2, _⟩ := rp_at r hi
    exact ⟨vs, v, sqT_keep k hm hr, e2⟩
  yld := fun i H x H' k hi y => by
    obtain ⟨e, y⟩ := y
    subst e
    obtain ⟨pv, v, e1, e2, q⟩ := rp_at (r.keep k hm (fun _ z => z) hM (fun _ z => nomatch z)) hi
    have e3 := y vs (sqT_keep k hm hr)
    rw [e2] at e3
    cases e3
    exact ⟨Same.refl _, pv, e1, q⟩
  stop := fun i H k hi => ⟨vs, sqT_keep k hm hr, by rw [← r.len]; exact hi⟩
theorem rev_at {i : Nat} {α : Type} {xs : List α} (hi : i < xs.length) : xs.reverse[i]? = xs[xs.length - 1 - i]? := List.getElem?_reverse hi
theorem wk_rev (hr : Rd H0 a (.lst vs)) (ha : okx a) (r : Rps K H0 okx items vs []) (hM : ∀ a, okx a → ¬ M a) (hm : ∀ a, M a → ∃ u, H0 a = some u ∧ isMu u = true) : Wk K okx M (Itv K a vs.length) items.reverse H0 where
  go := fun i H k hi => by
    rw [List.length_reverse] at hi
    obtain ⟨pv, v, e1, e2, _⟩ := rp_at (i := items.length - 1 - i) r (by omega)
    rw [r.len] at e2 hi
    exact ⟨hi, vs, v, .inl (rd_keep k (hM a ha) hr), e2⟩
  yld := fun i H x H' k hi y => by
    rw [List.length_reverse] at hi
    obtain ⟨e, y⟩ := y
    subst e
    obtain ⟨pv, v, e1, e2, q⟩ := rp_at (i := items.length - 1 - i) (r.keep k hm (fun _ z => z) hM (fun _ z => nomatch z)) (by omega)
    have e3 := y vs (.inl (rd_keep k (hM a ha) hr))
    rw [r.len] at e2
    rw [e2] at e3
    cases e3
    exact ⟨Same.refl _, pv, by rw [rev_at hi]; exact e1, q⟩
  stop := fun i H k hi => by
    rw [List.length_reverse, r.len] at hi
    exact hi
theorem wk_revT (hr : SqT K H0 a vs) (r : Rps K H0 okx items vs []) (hM : ∀ a, okx a → ¬ M a) (hm : ∀ a, M a → ∃ u, H0 a = some u ∧ isMu u = true) : Wk K okx M (RT.ItvT K a vs.length) items.reverse H0 where
  go := fun i H k hi => by
    rw [List.length_reverse] at hi
    obtain ⟨pv, v, e1, e2, _⟩ := rp_at (i := items.length - 1 - i) r (by omega)
    rw [r.len] at e2 hi
    exact ⟨hi, vs, v, sqT_keep k hm hr, e2⟩
  yld := fun i H x H' k hi y => by
    rw [List.length_reverse] at hi
    obtain ⟨e, y⟩ := y
    subst e
    obtain ⟨pv, v, e1, e2, q⟩ := rp_at (i := items.length - 1 - i) (r.keep k hm (fun _ z => z) hM (fun _ z => nomatch z)) (by omega)
    have e3 := y vs (sqT_keep k hm hr)
    rw [r.len] at e2
    rw [e2] at e3
    cases e3
    exact ⟨Same.refl _, pv, by rw [rev_at hi]; exact e1, q⟩
  stop := fun i H k hi => by
    rw [List.length_reverse, r.len] at hi
    exact hi
theorem rngI_len (lo hi : Int) : (rngI lo hi).length = (hi - lo).toNat := by unfold rngI; rw [List.length_map, List.length_range]
theorem rngI_at (lo hi : Int) {i : Nat} (h : i < (hi - lo).toNat) : (rngI lo hi)[i]? = some (.int (lo + i)) := by
  unfold rngI
  rw [List.getElem?_map, List.getElem?_range h]
  rfl
theorem wk_rng (lo hi : Int) : Wk K okx M (Itr lo (hi - lo).toNat) (rngI lo hi) H0 where
  go := fun i H k h => by rw [rngI_len] at h; exact h
  yld := fun i H x H' k h y => by
    rw [rngI_len] at h
    obtain ⟨e, e2⟩ := y
    subst e e2
    exact ⟨Same.refl _, _, rngI_at lo hi h, .int _⟩
  stop := fun i H k h => by rw [rngI_len] at h; exact h
theorem wk_rngR (lo hi : Int) : Wk K okx M (Itc (lo + (((hi - lo).toNat : Nat) : Int) - 1) (-1) (hi - lo).toNat) (rngI lo hi).reverse H0 where
  go := fun i H k h => by rw [List.length_reverse, rngI_len] at h; exact h
  yld := fun i H x H' k h y => by
    rw [List.length_reverse, rngI_len] at h
    obtain ⟨e, e2⟩ := y
    subst e e2
    refine ⟨Same.refl _, _, ?_, .int _⟩
    rw [rev_at (by rw [rngI_len]; exact h), rngI_len, rngI_at lo hi (by omega)]
    exact congrArg some (congrArg PV.int (by omega))
  stop := fun i H k h => by rw [List.length_reverse, rngI_len] at h; exact h
end

/-- x, a list or a tuple -/
def iAny (K : PySem.W.Frag) (tl : TE) : TI := fun σ H R => tl σ H fun x H1 => ∃ a, x = .ref a ∧ (((∃ xs, SqL K H1 a xs) ∧ R (Itl K a) H1) ∨ ((∃ xs, SqT K H1 a xs) ∧ R (Itt K a) H1))
section
variable {X : Cx} {tg : Expr}
theorem pi_any {l : Expr} {tl : TE} (hl : PE X l tl) : PI X tg l (iAny X.K tl) := by
  refine ⟨fun pins s σ H R I h => ?_⟩
  refine thn (hl.run pins s σ H _ I h) fun v s1 hq => ?_
  obtain ⟨x, H1, I1, r1, a, e, q⟩ := hq
  subst e
  cases r1
  rcases q with ⟨⟨xs, hs⟩, q⟩ | ⟨⟨xs, hs⟩, q⟩
  · obtain ⟨its, rv, p, hz⟩ := I1.list hs
    exact wpAny_pyIter_list p.isList (pi_one (tk := s1.toks) I1 _ (turn_list a _) ⟨_, Heap.get?_push_size _ rfl, rfl, rfl⟩ q)
  · obtain ⟨its, rv, p, hz⟩ := I1.tuple hs
    exact wpAny_pyIter_tuple (show s1.heap.IsTuple a its.toArray from p) (pi_one (tk := s1.toks) I1 _ (turn_tuple a _) ⟨_, Heap.get?_push_size _ rfl, rfl, rfl⟩ q)
theorem PI.imp {e : Expr} {t t' : TI} (h : PI X tg e t) (k : ∀ σ H R, t' σ H R → t σ H R) : PI X tg e t' := ⟨fun pins s σ H R I q => h.run pins s σ H R I (k σ H R q)⟩
variable {ca fa : Nat → Addr} {cl : Cl} {W : WX} {tc : Tc} {n : Nat}
def tI (K : PySem.W.Frag) (ca : Nat → Addr) (cl : Cl) (W : WX) (it : Iw) : TI := fun σ H R => ∃ env ok, EIn K H ok env σ (vI it) ∧ Fre ok H ∧ PostI K ca (WE W σ) ok H R (evI cl env it)
theorem PostI.mono {K : PySem.W.Frag} {E : XK} {ok : Addr → Prop} {H H1 : Hp} {R : It → Hp → Prop} {r : Res (PV × List PV)} (s : Same H H1) (h : PostI K ca E ok H R r) : PostI K ca E ok H1 R r := by
  cases r with
  | ok x => exact fun J H' okx s' c w => h J H' okx (s.trans s') (fun a z => ⟨(c a z).1.imp s.free fun z => z, (c a z).2⟩) w
  | exc c => exact fun d H' s' => h d H' (s.trans s')
  | bad => exact h
/-- held and gone through: what may be of account of it -/
theorem held {K : PySem.W.Frag} {H1 : Hp} {ok : Addr → Prop} {x : PV} {v : V} {fp : List Addr} (r : Rp K H1 (okn ok fp) x v fp) : Rp K H1 (fun a => (a ∈ fp ∨ (cls x = false ∧ ok a)) ∧ ∃ u, H1 a = some u) (frz x) v [] := by
  refine Rp.inD (ok := fun a => a ∈ fp ∨ (cls x = false ∧ ok a)) ?_
  cases c : cls x with
  | true => exact (r.free (ok' := fun _ => False) c).frz (fun _ z => z.elim) fun a z => .inl z
  | false => exact r.frz (fun a z => .inr ⟨rfl, z.1⟩) fun a z => .inl z
theorem i_ex {e : Ex} {py : Expr} (h : SndE X ca cl W e py) : PI X tg py (tI X.K ca cl W (.ex e)) := by
  refine PI.imp (pi_any h.pe) fun σ H R hq => ?_
  obtain ⟨env, ok, hi, fr, hm⟩ := hq
  refine ⟨env, ok, hi, fr, ?_⟩
  have hm : PostI X.K ca (WE W σ) ok H R ((evE cl env e).bind fun x => (itemsV (frz x)).bind fun xs => .ok (x, xs)) := hm
  cases e1 : evE cl env e with
  | ok x =>
    rw [e1] at hm
    intro H1 v fp s1 r1 f1 n1
    have h1 := held r1
    cases e2 : itemsV (frz x) with
    | ok xs =>
      have hm : PostI X.K ca (WE W σ) ok H R ((itemsV (frz x)).bind fun xs => .ok (x, xs)) := hm
      rw [e2] at hm
      have fin : ∀ J, (∀ M, (∀ a, ((a ∈ fp ∨ (cls x = false ∧ ok a)) ∧ ∃ u, H1 a = some u) → ¬ M a) → (∀ a, M a → ∃ u, H1 a = some u ∧ isMu u = true) → Wk X.K (fun a => (a ∈ fp ∨ (cls x = false ∧ ok a)) ∧ ∃ u, H1 a = some u) M J xs H1) → R J H1 :=
        fun J w => hm J H1 _ s1 (fun a z => ⟨z.1.imp (f1 a) fun z => z, z.2⟩) w
      cases h2 : frz x with
      | tup ys =>
        rw [h2] at h1 e2
        cases e2
        cases h1 with
        | tup hs r => exact ⟨_, rfl, .inr ⟨⟨_, hs⟩, fin _ fun M a b => wk_tup hs (r.frz (fun _ z => z) fun _ z => nomatch z) a b⟩⟩
      | lst o ys =>
        rw [h2] at h1 e2
        cases e2
        cases h1 with
        | lstF hs ho r => exact ⟨_, rfl, .inl ⟨⟨_, .inl hs⟩, fin _ fun M a b => wk_list hs ho (r.frz (fun _ z => z) fun _ z => nomatch z) a b⟩⟩
      | _ => rw [h2] at e2; cases e2
    | exc c =>
      unfold itemsV at e2
      split at e2 <;> cases e2
    | bad =>
      have hm : PostI X.K ca (WE W σ) ok H R ((itemsV (frz x)).bind fun xs => .ok (x, xs)) := hm
      rw [e2] at hm
      exact hm.elim
  | exc c => rw [e1] at hm; exact hm
  | bad => rw [e1] at hm; exact hm.elim
theorem i_rev {e : Ex} {py : Expr} {p p2 : Pos} (C : Cok X W tc cl n ca fa) (h : SndE X ca cl W e py) (hp : plainX py = true) (hg : glB tc.sc "reversed" = true) : PI X tg (.Call (.Name "reversed" p) [py] [] p2) (tI X.K ca cl W (.rev e)) := by
  refine PI.imp (RT.pi_revA (gl_of C hg) (C.blt _ (by decide +kernel)) h.pe (star_of hp)) fun σ H R hq => ?_
  obtain ⟨env, ok, hi, fr, hm⟩ := hq
  refine ⟨env, ok, hi, fr, ?_⟩
  have hm : PostI X.K ca (WE W σ) ok H R ((evE cl env e).bind fun x => (itemsV (frz x)).bind fun xs => .ok (x, xs.reverse)) := hm
  cases e1 : evE cl env e with
  | ok x =>
    rw [e1] at hm
    intro H1 v fp s1 r1 f1 n1
    have h1 := held r1
    cases e2 : itemsV (frz x) with
    | ok xs =>
      have hm : PostI X.K ca (WE W σ) ok H R ((itemsV (frz x)).bind fun xs => .ok (x, xs.reverse)) := hm
      rw [e2] at hm
      have fin : ∀ J, (∀ M, (∀ a, ((a ∈ fp ∨ (cls x = false ∧ ok a)) ∧ ∃ u, H1 a = some u) → ¬ M a) → (∀ a, M a → ∃ u, H1 a = some u ∧ isMu u = true) → Wk X.K (fun a => (a ∈ fp ∨ (cls x = false ∧ ok a)) ∧ ∃ u, H1 a = some u) M J xs.reverse H1) → R J H1 :=
        fun J w => hm J H1 _ s1 (fun a z => ⟨z.1.imp (f1 a) fun z => z, z.2⟩) w
      cases h2 : frz x with
      | tup ys =>
        rw [h2] at h1 e2
        cases e2
        cases h1 with
        | tup hs r => exact ⟨_, _, rfl, .inr ⟨hs, fin _ fun M a b => wk_revT hs (r.frz (fun _ z => z) fun _ z => nomatch z) a b⟩⟩
      | lst o ys =>
        rw [h2] at h1 e2
        cases e2
        cases h1 with
        | lstF hs ho r => exact ⟨_, _, rfl, .inl ⟨.inl hs, fin _ fun M a b => wk_rev hs ho (r.frz (fun _ z => z) fun _ z => nomatch z) a b⟩⟩
      | _ => rw [h2] at e2; cases e2
    | exc c =>
      unfold itemsV at e2
      split at e2 <;> cases e2
    | bad =>
      have hm : PostI X.K ca (WE W σ) ok H R ((itemsV (frz x)).bind fun xs => .ok (x, xs.reverse)) := hm
      rw [e2] at hm
      exact hm.elim
  | exc c => rw [e1] at hm; exact hm
  | bad => rw [e1] at hm; exact hm.elim
theorem small_of {i : Int} (h : smallI i = true) : -(2 ^ 62) ≤ i ∧ i < 2 ^ 62 := of_decide_eq_true h
theorem frzs_len : ∀ xs : List PV, (frzs xs).length = xs.length
  | [] => rfl
  | x :: xs => by
    show (frzs xs).length + 1 = xs.length + 1
    rw [frzs_len xs]
theorem frzs_rev : ∀ xs : List PV, frzs xs.reverse = (frzs xs).reverse
  | [] => rfl
  | x :: xs => by
    have app : ∀ xs ys : List PV, frzs (xs ++ ys) = frzs xs ++ frzs ys := fun xs ys => by
      induction xs with
      | nil => rfl
      | cons x xs ih => show frz x :: frzs (xs ++ ys) = frz x :: (frzs xs ++ frzs ys); rw [ih]
    show frzs (x :: xs).reverse = (frz x :: frzs xs).reverse
    rw [List.reverse_cons, List.reverse_cons, app, frzs_rev xs]
    rfl
/-- one bound, two bounds -/
theorem rng_1 {es : Exs} {f : Int → Int → It} {rv : Bool} (hl : lenX es = 1) (hw : ∀ (okx M : Addr → Prop) H0 j, Wk X.K okx M (f 0 j) (if rv then (rngI 0 j).reverse else rngI 0 j) H0) {σ : L2.St} {H : Hp} {R : It → Hp → Prop} {env : PEnv} {ok : Addr → Prop} (hi : EIn X.K H ok env σ (vEs es)) (fr : Fre ok H)
    (hm : PostI X.K ca (WE W σ) ok H R ((evEs cl env es).bind fun vs => (rngV (frzs vs)).bind fun xs => .ok (.non, if rv then xs.reverse else xs))) :
    tAs X.K ca cl W es σ H fun vs H1 => ∃ j : Int, vs = [.int j] ∧ -(2 ^ 62) ≤ j ∧ j < 2 ^ 62 ∧ R (f 0 j) H1 := by
  refine ⟨env, ok, hi, fr, ?_⟩
  cases e1 : evEs cl env es with
  | ok ys =>
    rw [e1] at hm
    intro H1 vs fp s1 r1 f1 n1
    replace hm : PostI X.K ca (WE W σ) ok H R ((rngV (frzs ys)).bind fun xs => .ok (.non, if rv then xs.reverse else xs)) := hm
    have rz := r1.fz fr f1
    have hz2 : (frzs ys).length = 1 := by rw [frzs_len, evEs_len e1, hl]
    generalize hz : frzs ys = zs at hm rz hz2
    match zs, rz, hm, hz2 with
    | [], rz, hm, hz2 => cases hz2
    | _ :: _ :: _, rz, hm, hz2 => simp at hz2
    | [z], rz, hm, hz2 =>
      obtain ⟨v, ev, r⟩ := one0 rz
      subst ev
      cases r with
      | int j =>
        replace hm : PostI X.K ca (WE W σ) ok H R ((if smallI j = true then Res.ok (rngI 0 j) else .bad).bind fun xs => .ok (.non, if rv then xs.reverse else xs)) := hm
        cases q : smallI j with
        | false => rw [q] at hm; exact hm.elim
        | true =>
          rw [q] at hm
          exact ⟨j, rfl, (small_of q).1, (small_of q).2, hm (f 0 j) H1 (fun _ => False) s1 (fun _ z => z.elim) fun M _ _ => hw _ M H1 j⟩
      | _ => exact hm.elim
  | exc c => rw [e1] at hm; exact hm
  | bad => rw [e1] at hm; exact hm.elim
theorem rng_2 {es : Exs} {f : Int → Int → It} {rv : Bool} (hl : lenX es = 2) (hw : ∀ (okx M : Addr → Prop) H0 i j, Wk X.K okx M (f i j) (if rv then (rngI i j).reverse else rngI i j) H0) {σ : L2.St} {H : Hp} {R : It → Hp → Prop} {env : PEnv} {ok : Addr → Prop} (hi : EIn X.K H ok env σ (vEs es)) (fr : Fre ok H)
    (hm : PostI X.K ca (WE W σ) ok H R ((evEs cl env es).bind fun vs => (rngV (frzs vs)).bind fun xs => .ok (.non, if rv then xs.reverse else xs))) :
    tAs X.K ca cl W es σ H fun vs H1 => ∃ i j : Int, vs = [.int i, .int j] ∧ (-(2 ^ 62) ≤ i ∧ i < 2 ^ 62 ∧ -(2 ^ 62) ≤ j ∧ j < 2 ^ 62) ∧ R (f i j) H1 := by
  refine ⟨env, ok, hi, fr, ?_⟩
  cases e1 : evEs cl env es with
  | ok ys =>
    rw [e1] at hm
    intro H1 vs fp s1 r1 f1 n1
    replace hm : PostI X.K ca (WE W σ) ok H R ((rngV (frzs ys)).bind fun xs => .ok (.non, if rv then xs.reverse else xs)) := hm
    have rz := r1.fz fr f1
    have hz2 : (frzs ys).length = 2 := by rw [frzs_len, evEs_len e1, hl]
    generalize hz : frzs ys = zs at hm rz hz2
    match zs, rz, hm, hz2 with
    | [], rz, hm, hz2 => cases hz2
    | [_], rz, hm, hz2 => simp at hz2
    | _ :: _ :: _ :: _, rz, hm, hz2 => simp at hz2
    | [z, z2], rz, hm, hz2 =>
      obtain ⟨v, u, ev, r, r2⟩ := two0 rz
      subst ev
      cases r with
      | int i =>
        cases r2 with
        | int j =>
          replace hm : PostI X.K ca (WE W σ) ok H R ((if (smallI i && smallI j) = true then Res.ok (rngI i j) else .bad).bind fun xs => .ok (.non, if rv then xs.reverse else xs)) := hm
          cases q : (smallI i && smallI j) with
          | false => rw [q] at hm; exact hm.elim
          | true =>
            rw [q] at hm
            rw [Bool.and_eq_true] at q
            exact ⟨i, j, rfl, ⟨(small_of q.1).1, (small_of q.1).2, (small_of q.2).1, (small_of q.2).2⟩, hm (f i j) H1 (fun _ => False) s1 (fun _ z => z.elim) fun M _ _ => hw _ M H1 i j⟩
        | _ => exact hm.elim
      | _ => exact hm.elim
  | exc c => rw [e1] at hm; exact hm
  | bad => rw [e1] at hm; exact hm.elim
theorem i_rng1 {es : Exs} {a : Expr} {p p2 : Pos} (C : Cok X W tc cl n ca fa) (h : PA X [a] (tAs X.K ca cl W es)) (hp : plainX a = true) (hl : lenX es = 1) (hg : glB tc.sc "range" = true) : PI X tg (.Call (.Name "range" p) [a] [] p2) (tI X.K ca cl W (.rng es)) := by
  refine PI.imp (pi_range1 (gl_of C hg) (C.blt "range" (by decide +kernel)) h (star_of hp)) fun σ H R hq => ?_
  obtain ⟨env, ok, hi, fr, hm⟩ := hq
  refine rng_1 (f := fun _ j => Itr 0 j.toNat) (rv := false) hl (fun okx M H0 j => ?_) hi fr hm
  have w := wk_rng (K := X.K) (okx := okx) (M := M) (H0 := H0) 0 j
  rw [Int.sub_zero] at w
  exact w
theorem i_rng2 {es : Exs} {a b : Expr} {p p2 : Pos} (C : Cok X W tc cl n ca fa) (h : PA X [a, b] (tAs X.K ca cl W es)) (hp : plainX a = true) (hp2 : plainX b = true) (hl : lenX es = 2) (hg : glB tc.sc "range" = true) : PI X tg (.Call (.Name "range" p) [a, b] [] p2) (tI X.K ca cl W (.rng es)) := by
  refine PI.imp (pi_range2 (gl_of C hg) (C.blt "range" (by decide +kernel)) h (by rw [star_of hp, star_of hp2]; rfl) (star_of hp2)) fun σ H R hq => ?_
  obtain ⟨env, ok, hi, fr, hm⟩ := hq
  exact rng_2 (f := fun i j => Itr i (j - i).toNat) (rv := false) hl (fun okx M H0 i j => wk_rng i j) hi fr hm
end
end BW

/-! Targets, comprehensions. -/
namespace BW
open PySem PySem.Spec L2

/-! ### targets -/
def gNs : List Nat → TGs
  | [] => gNil
  | i :: is => gCons (gName i) (gNs is)
def tG (K : PySem.W.Frag) (t : List Nat) : TG := match t with
  | [i] => gName i
  | _ => gTup K t.length (gNs t)
def setV (σ : L2.St) (l : List (Nat × V)) : L2.St := l.foldl (fun s p => s.set p.1 (some p.2)) σ
theorem gNs_run : ∀ {t : List Nat} {vs : List V} {σ : L2.St} {H : Hp} {Q : L2.St → Hp → Prop}, vs.length = t.length → Q (setV σ (t.zip vs)) H → gNs t vs σ H Q
  | [], [], _, _, _, _, q => ⟨rfl, q⟩
  | [], _ :: _, _, _, _, h, _ => by cases h
  | _ :: _, [], _, _, _, h, _ => by cases h
  | i :: is, v :: vs, σ, H, Q, h, q => ⟨v, vs, rfl, gNs_run (t := is) (vs := vs) (by simpa using h) q⟩
section
variable {X : Cx}
theorem pgs_of (hN : X.N.Nodup) {sc : Scope} {fn : List (Str × Nat)} {gl : List (Str × Gk)} (hx : ∀ x, locB sc x = true → Loc X.env.scope x ∧ (X.fn x = true ∨ X.env.scope.names.lookup x = some .local)) : ∀ {t : List Nat} {es : List Expr}, ckTs ⟨X.N, sc, fn, gl⟩ t es = true →
    PGs X es (gNs t) ∧ (assignEach es X.env).length = t.length ∧ (assignEach es X.env).findIdx? (·.1) = none
  | [], [], _ => ⟨pgs_nil, rfl, rfl⟩
  | [], _ :: _, h => by cases h
  | _ :: _, [], h => by cases h
  | i :: is, e :: es, h => by
    cases e with
    | Name x p =>
      have h : (decide (X.N[i]? = some x) && locB sc x && ckTs ⟨X.N, sc, fn, gl⟩ is es) = true := h
      rw [Bool.and_eq_true, Bool.and_eq_true, decide_eq_true_eq] at h
      obtain ⟨⟨h1, h2⟩, h3⟩ := h
      obtain ⟨q1, q2, q3⟩ := pgs_of hN hx h3
      obtain ⟨l1, l2⟩ := hx x h2
      refine ⟨pgs_cons (pg_name hN h1 l1 l2) q1, ?_, ?_⟩
      · show (assignEach es X.env).length + 1 = is.length + 1
        rw [q2]
      · show List.findIdx? (·.1) ((false, assign (.Name x p) X.env) :: assignEach es X.env) = none
        rw [List.findIdx?_cons, q3]
        rfl
    | _ => cases h
theorem pg_of (hc : X.calm = true) (hN : X.N.Nodup) {sc : Scope} {fn : List (Str × Nat)} {gl : List (Str × Gk)} (hx : ∀ x, locB sc x = true → Loc X.env.scope x ∧ (X.fn x = true ∨ X.env.scope.names.lookup x = some .local)) {t : List Nat} {e : Expr} (h : ckT ⟨X.N, sc, fn, gl⟩ t e = true) : PG X e (tG X.K t) := by
  cases e with
  | Name x p =>
    unfold ckT at h
    dsimp only at h
    split at h
    · rw [Bool.and_eq_true, decide_eq_true_eq] at h
      obtain ⟨l1, l2⟩ := hx x h.2
      exact pg_name hN h.1 l1 l2
    · cases h
  | Tuple es k p =>
    have h : (decide (2 ≤ t.length) && ckTs ⟨X.N, sc, fn, gl⟩ t es) = true := h
    rw [Bool.and_eq_true, decide_eq_true_eq] at h
    obtain ⟨q1, q2, q3⟩ := pgs_of hN hx h.2
    match t, h.1, q1, q2 with
    | i :: j :: r, _, q1, q2 => exact pg_tup hc q1 q2 q3
  | _ => cases h
end
/-- what a target's names stand for behind -/
theorem setV_out {i : Nat} : ∀ {l : List (Nat × V)} {σ : L2.St}, i ∉ l.map (·.1) → (setV σ l)[i]? = σ[i]?
  | [], _, _ => rfl
  | (j, v) :: l, σ, h => by
    have h1 : i ≠ j := fun e => h (by rw [e]; exact List.mem_cons_self)
    have h2 : i ∉ l.map (·.1) := fun e => h (List.mem_cons_of_mem _ e)
    show (setV (σ.set j (some v)) l)[i]? = σ[i]?
    rw [setV_out h2, List.getElem?_set_ne (Ne.symm h1)]
def setP (env : PEnv) (l : List (Nat × PV)) : PEnv := l.foldl (fun e p => e.set p.1 (some p.2)) env
theorem setP_out {i : Nat} : ∀ {l : List (Nat × PV)} {env : PEnv}, i ∉ l.map (·.1) → (setP env l)[i]? = env[i]?
  | [], _, _ => rfl
  | (j, v) :: l, env, h => by
    have h1 : i ≠ j := fun e => h (by rw [e]; exact List.mem_cons_self)
    have h2 : i ∉ l.map (·.1) := fun e => h (List.mem_cons_of_mem _ e)
    show (setP (env.set j (some v)) l)[i]? = env[i]?
    rw [setP_out h2, List.getElem?_set_ne (Ne.symm h1)]
theorem setV_len : ∀ {l : List (Nat × V)} {σ : L2.St}, (setV σ l).length = σ.length
  | [], _ => rfl
  | (j, v) :: l, σ => by
    show (setV (σ.set j (some v)) l).length = σ.length
    rw [setV_len, List.length_set]
theorem setP_len : ∀ {l : List (Nat × PV)} {σ : PEnv}, (setP σ l).length = σ.length
  | [], _ => rfl
  | (j, v) :: l, σ => by
    show (setP (σ.set j (some v)) l).length = σ.length
    rw [setP_len, List.length_set]
/-- frozen things set: each place told as it is -/
theorem set_in {K : PySem.W.Frag} {H : Hp} {ok : Addr → Prop} {P : Nat → Prop} : ∀ {t : List Nat} {xs : List PV} {vs : List V} {env : PEnv} {σ : L2.St}, xs.length = t.length → Rps K H ok xs vs [] → env.length = σ.length →
    (∀ i x, P i → getE env i = .ok x → i ∉ t → ∃ v, σ[i]? = some (some v) ∧ Rp K H ok x v []) → ∀ i x, P i → getE (setP env (t.zip xs)) i = .ok x → ∃ v, (setV σ (t.zip vs))[i]? = some (some v) ∧ Rp K H ok x v []
  | [], [], vs, env, σ, _, r, _, h, i, x, hp, e => by
    cases r
    exact h i x hp e (fun z => nomatch z)
  | [], _ :: _, _, _, _, h, _, _, _, _, _, _, _ => by cases h
  | _ :: _, [], _, _, _, h, _, _, _, _, _, _, _ => by cases h
  | j :: t, y :: ys, vs, env, σ, hl, r, hn, h, i, x, hp, e => by
    obtain ⟨v, vs', ev, r1, r2⟩ := r.inv0
    subst ev
    refine set_in (t := t) (xs := ys) (vs := vs') (env := env.set j (some y)) (σ := σ.set j (some v)) (by simpa using hl) r2 (by rw [List.length_set, List.length_set]; exact hn) (fun i x hp e hi => ?_) i x hp e
    by_cases hij : j = i
    · subst hij
      unfold getE at e
      by_cases hlt : j < env.length
      · rw [List.getElem?_set_self hlt] at e
        cases e
        exact ⟨v, by rw [List.getElem?_set_self (by rw [← hn]; exact hlt)], r1.frz (fun _ z => z) fun _ z => nomatch z⟩
      · rw [List.getElem?_eq_none (by rw [List.length_set]; omega)] at e
        cases e
    · have e2 : getE env i = .ok x := by
        unfold getE at e ⊢
        rw [List.getElem?_set_ne hij] at e
        exact e
      obtain ⟨w, h1, h2⟩ := h i x hp e2 (fun z => by
        rcases List.mem_cons.mp z with z | z
        · exact hij z.symm
        · exact hi z)
      exact ⟨w, by rw [List.getElem?_set_ne hij]; exact h1, h2⟩
/-- binding a frozen thing -/
theorem bind_in {K : PySem.W.Frag} {H : Hp} {ok : Addr → Prop} {P : Nat → Prop} {t : List Nat} {x : PV} {v : V} {env env1 : PEnv} {σ : L2.St} {Q : L2.St → Hp → Prop} (r : Rp K H ok x v []) (hn : env.length = σ.length) (e : bindT t x env = .ok env1)
    (h : ∀ i x, P i → getE env i = .ok x → i ∉ t → ∃ v, σ[i]? = some (some v) ∧ Rp K H ok x v []) (k : ∀ l : List (Nat × V), l.map (·.1) = t → (∀ i x, P i → getE env1 i = .ok x → ∃ v, (setV σ l)[i]? = some (some v) ∧ Rp K H ok x v []) → env1.length = env.length → Q (setV σ l) H) : tG K t v σ H Q := by
  have one : ∀ i, t = [i] → tG K t v σ H Q := fun i ht => by
    subst ht
    cases e
    refine k [(i, v)] rfl ?_ (List.length_set ..)
    exact set_in (t := [i]) (xs := [x]) (vs := [v]) rfl (.cons0 r .nil) hn h
  have many : (∀ i, t ≠ [i]) → tG K t v σ H Q := fun ht => by
    have e1 : tG K t = gTup K t.length (gNs t) := by
      unfold tG
      split
      · rename_i i
        exact absurd rfl (ht i)
      · rfl
    have e2 : (match x with | .tup xs => if xs.length = t.length then Res.ok (setP env (t.zip xs)) else .bad | _ => .bad) = .ok env1 := by
      unfold bindT at e
      split at e
      · rename_i i
        exact absurd rfl (ht i)
      · exact e
    rw [e1]
    cases r with
    | tup hs rs =>
      rename_i a xs vs
      by_cases hl : xs.length = t.length
      · have e2 : (if xs.length = t.length then Res.ok (setP env (t.zip xs)) else .bad) = .ok env1 := e2
        rw [if_pos hl] at e2
        cases e2
        have hl2 : vs.length = t.length := by rw [← rs.len]; exact hl
        refine ⟨a, vs, rfl, hs, hl2, gNs_run hl2 ?_⟩
        refine k (t.zip vs) ?_ (set_in hl rs hn h) setP_len
        rw [List.map_fst_zip (by omega)]
      · have e2 : (if xs.length = t.length then Res.ok (setP env (t.zip xs)) else .bad) = .ok env1 := e2
        rw [if_neg hl] at e2
        cases e2
    | _ => cases e2
  match t with
  | [i] => exact one i rfl
  | [] => exact many fun i z => nomatch z
  | _ :: _ :: _ => exact many fun i z => by simp at z
/-! ### forgetting slots -/
theorem wipe_at {σ : L2.St} {i : Nat} : ∀ {vs : List Nat}, (wipe σ vs)[i]? = if i ∈ vs ∧ i < σ.length then some none else σ[i]?
  | [] => by simp [wipe]
  | v :: vs => by
    have ih := wipe_at (σ := σ) (i := i) (vs := vs)
    unfold wipe
    by_cases h : v = i
    · subst h
      by_cases hl : v < σ.length
      · rw [List.getElem?_set_self (by rw [wipe_length]; exact hl), if_pos ⟨List.mem_cons_self, hl⟩]
      · rw [if_neg (fun z => hl z.2), List.getElem?_eq_none (by rw [List.length_set, wipe_length]; omega), List.getElem?_eq_none (by omega)]
    · rw [List.getElem?_set_ne h, ih]
      by_cases h2 : i ∈ vs ∧ i < σ.length
      · rw [if_pos h2, if_pos ⟨List.mem_cons_of_mem _ h2.1, h2.2⟩]
      · rw [if_neg h2, if_neg fun z => h2 ⟨(List.mem_cons.mp z.1).resolve_left (Ne.symm h), z.2⟩]
theorem wipe_sets {σ : L2.St} {vs : List Nat} {l : List (Nat × V)} (h : ∀ p ∈ l, p.1 ∈ vs) : wipe (setV (wipe σ vs) l) vs = wipe σ vs := by
  apply List.ext_getElem?
  intro i
  rw [wipe_at, setV_len, wipe_length]
  by_cases hi : i ∈ vs ∧ i < σ.length
  · rw [if_pos hi, wipe_at, if_pos hi]
  · rw [if_neg hi]
    by_cases hv : i ∈ vs
    · have hl : ¬ i < σ.length := fun z => hi ⟨hv, z⟩
      rw [List.getElem?_eq_none (by rw [setV_len, wipe_length]; omega), List.getElem?_eq_none (by rw [wipe_length]; omega)]
    · rw [setV_out fun z => by
        obtain ⟨p, hp, e⟩ := List.mem_map.mp z
        exact hv (by rw [← e]; exact h p hp)]
theorem wipeE_at {i : Nat} {x : PV} : ∀ {vs : List Nat} {env : PEnv}, getE (wipeE vs env) i = .ok x → i ∉ vs ∧ getE env i = .ok x
  | [], _, h => ⟨(fun z => nomatch z), h⟩
  | v :: vs, env, h => by
    obtain ⟨h1, h2⟩ := wipeE_at (vs := vs) (env := env.set v none) h
    by_cases e : v = i
    · subst e
      exfalso
      unfold getE at h2
      by_cases hl : v < env.length
      · rw [List.getElem?_set_self hl] at h2
        cases h2
      · rw [List.getElem?_eq_none (by rw [List.length_set]; omega)] at h2
        cases h2
    · refine ⟨fun z => (List.mem_cons.mp z).elim (fun z => e z.symm) h1, ?_⟩
      unfold getE at h2 ⊢
      rw [List.getElem?_set_ne e] at h2
      exact h2
theorem wipeE_len : ∀ {vs : List Nat} {env : PEnv}, (wipeE vs env).length = env.length
  | [], _ => rfl
  | v :: vs, env => by
    show (wipeE vs (env.set v none)).length = _
    rw [wipeE_len, List.length_set]
/-! ### comprehensions -/
def W0 : WX := fun _ _ _ _ => False
def tCd (K : PySem.W.Frag) (ca : Nat → Addr) (cl : Cl) (c : Exo) : TT := match c with
  | .none => tYes
  | .some c => tT K ca cl W0 c
theorem bind_ok {α β : Type} {r : Res α} {f : α → Res β} {z : β} (h : r.bind f = .ok z) : ∃ x, r = .ok x ∧ f x = .ok z := by
  cases r with
  | ok x => exact ⟨x, rfl, h⟩
  | exc c => cases h
  | bad => cases h
theorem noX_ok {α : Type} {r : Res α} {z : α} (h : noX r = .ok z) : r = .ok z := by
  cases r <;> first | exact h | cases h
theorem noX_ne {α : Type} {r : Res α} {c : Nat} : noX r ≠ .exc c := fun h => by
  cases r <;> cases h
section
variable {X : Cx} {tg : Expr} {ca fa : Nat → Addr} {cl : Cl} {W : WX} {tc : Tc} {n : Nat}
theorem lc_imp {t : List Nat} {it : Iw} {c : Exo} {e : Ex} {own : List (Str × Nat)} (hown : own.map (·.2) = t) {σ : L2.St} {H : Hp} {Q : VK} (hq : tE X.K ca cl W (.lc t t it c e) σ H Q) :
    tLc (tI X.K ca cl W it) (tG X.K t) (tCd X.K ca cl c) (tE X.K ca cl W0 e) (own.map (·.2)) σ H Q := by
  obtain ⟨env, ok, hi, fr, hm⟩ := hq
  refine ⟨env, ok, hi.left, fr, ?_⟩
  replace hm : Post X.K ca (WE W σ) ok H Q ((evI cl env it).bind fun hx => (noX (lcL t (fun env => evC cl env c) (fun env => evE cl env e) (wipeE t env) hx.2 [])).bind fun ys => .ok (.lst true ys)) := hm
  cases e1 : evI cl env it with
  | ok p =>
    rw [e1] at hm
    intro J H1 okx s1 hokx wk D hD
    replace hm : Post X.K ca (WE W σ) ok H Q ((noX (lcL t (fun env => evC cl env c) (fun env => evE cl env e) (wipeE t env) p.2 [])).bind fun ys => .ok (.lst true ys)) := hm
    cases e2 : noX (lcL t (fun env => evC cl env c) (fun env => evE cl env e) (wipeE t env) p.2 []) with
    | ok ys =>
      rw [e2] at hm
      replace hm : Got X.K H ok Q (.lst true ys) := hm
      have e3 := noX_ok e2
      have w := wk (fun _ => False) (fun _ _ z => z) (fun _ z => z.elim)
      have hDn : ∀ a u, H1 a = some u → a ≠ D := fun a u z e => by rw [e, hD] at z; cases z
      have hi1 : EIn X.K H1 (fun a => ok a ∧ ∃ u, H1 a = some u) env σ (vO c ++ vE e) := ⟨hi.1, fun i hj x ex => by
        obtain ⟨v, h1, h2⟩ := (hi.right.same s1).2 i hj x ex
        exact ⟨v, h1, h2.inD⟩⟩
      rw [hown]
      refine ⟨fun i m H' => m = p.2.length - i ∧ i ≤ p.2.length ∧ Same H1 H' ∧ ∃ acc vs fp, lcL t (fun env => evC cl env c) (fun env => evE cl env e) (wipeE t env) (p.2.drop i) acc = .ok ys ∧ H' D = some (.lst vs) ∧
        Rps X.K H' (okn (fun a => ok a ∧ a ≠ D) fp) acc vs fp ∧ (∀ a ∈ fp, H1 a = none ∧ a ≠ D) ∧ fp.Nodup, ⟨_, rfl, Nat.zero_le _, same_upd hD, [], [], [], e3, upd_same, .nil, fun _ z => (nomatch z), .nil⟩, ?_⟩
      rintro i m H' ⟨rfl, hle, sm, acc, vs, fp, el, hD', ra, fa', nd⟩
      by_cases hlt : i < p.2.length
      · refine .inr ⟨w.go i H' (fun a o z _ => sm a o z) hlt, fun H'' => (fun i m H' => m = p.2.length - i ∧ i ≤ p.2.length ∧ Same H1 H' ∧ ∃ acc vs fp, lcL t (fun env => evC cl env c) (fun env => evE cl env e) (wipeE t env) (p.2.drop i) acc = .ok ys ∧ H' D = some (.lst vs) ∧
          Rps X.K H' (okn (fun a => ok a ∧ a ≠ D) fp) acc vs fp ∧ (∀ a ∈ fp, H1 a = none ∧ a ≠ D) ∧ fp.Nodup) (i + 1) (p.2.length - (i + 1)) H'', fun H'' z => ⟨_, by omega, z⟩, fun x H2 hy => ?_⟩
        obtain ⟨s2, pv, ei, rx⟩ := w.yld i H' x H2 (fun a o z _ => sm a o z) hlt hy
        have ed : p.2.drop i = pv :: p.2.drop (i + 1) := by
          rw [List.drop_eq_getElem_cons hlt]
          rw [List.getElem?_eq_getElem hlt] at ei
          cases ei
          rfl
        rw [ed] at el
        obtain ⟨env1, eb, el⟩ := bind_ok (show (bindT t pv (wipeE t env)).bind _ = .ok ys from el)
        obtain ⟨b, ec, el⟩ := bind_ok el
        have inT : ∀ a, (ok a ∧ ∃ u, H1 a = some u) → okn (fun a => ok a ∧ a ≠ D) fp a := fun a z => ⟨⟨z.1, let ⟨u, q⟩ := z.2; hDn a u q⟩, fun hf => by
          obtain ⟨u, q⟩ := z.2
          rw [(fa' a hf).1] at q
          cases q⟩
        have rx' : Rp X.K H2 (okn (fun a => ok a ∧ a ≠ D) fp) pv x [] := rx.imp fun a z => inT a ⟨(hokx a z).1.elim (fr a) fun z => z.2, (hokx a z).2⟩
        have sm2 := sm.trans s2
        have frD : ∀ {H3 : Hp}, Same H2 H3 → Fre (okn (fun a => ok a ∧ a ≠ D) fp) H3 := fun {H3} s3 a z => ⟨⟨fr a (s1.free (sm2.free (s3.free z))), fun e => by rw [e, s3 D _ (s2 D _ hD')] at z; cases z⟩, fun hf => by
          obtain ⟨u, hu, _⟩ := ra.dom a hf
          rw [s3 a u (s2 a u hu)] at z
          cases z⟩
        refine bind_in (P := fun i => i ∈ vO c ++ vE e) rx' (by rw [wipeE_len, wipe_length]; exact hi.1) eb (fun i y hj ey ht => ?_) fun l hl hin hlen => ?_
        · obtain ⟨_, ey2⟩ := wipeE_at ey
          obtain ⟨v, h1, h2⟩ := (hi1.same sm2).2 i hj y ey2
          exact ⟨v, by rw [wipe_at, if_neg fun z => ht z.1]; exact h1, h2.imp inT⟩
        · refine ⟨wipe_sets fun q hq => by rw [← hl]; exact List.mem_map_of_mem hq, ?_⟩
          have hin' : EIn X.K H2 (okn (fun a => ok a ∧ a ≠ D) fp) env1 (setV (wipe σ t) l) (vO c ++ vE e) := ⟨by rw [hlen, wipeE_len, setV_len, wipe_length]; exact hi.1, fun i hj x ex => hin i x hj ex⟩
          have go : ∀ H3, Same H2 H3 → (if b = true then tE X.K ca cl W0 e (setV (wipe σ t) l) H3 fun y H4 => ∃ acc, H4 D = some (.lst acc) ∧ acc.length < sizeLine ∧ (fun i m H' => m = p.2.length - i ∧ i ≤ p.2.length ∧ Same H1 H' ∧ ∃ acc vs fp, lcL t (fun env => evC cl env c) (fun env => evE cl env e) (wipeE t env) (p.2.drop i) acc = .ok ys ∧ H' D = some (.lst vs) ∧
              Rps X.K H' (okn (fun a => ok a ∧ a ≠ D) fp) acc vs fp ∧ (∀ a ∈ fp, H1 a = none ∧ a ≠ D) ∧ fp.Nodup) (i + 1) (p.2.length - (i + 1)) (upd H4 D (.lst (acc ++ [y])))
            else (fun i m H' => m = p.2.length - i ∧ i ≤ p.2.length ∧ Same H1 H' ∧ ∃ acc vs fp, lcL t (fun env => evC cl env c) (fun env => evE cl env e) (wipeE t env) (p.2.drop i) acc = .ok ys ∧ H' D = some (.lst vs) ∧
              Rps X.K H' (okn (fun a => ok a ∧ a ≠ D) fp) acc vs fp ∧ (∀ a ∈ fp, H1 a = none ∧ a ≠ D) ∧ fp.Nodup) (i + 1) (p.2.length - (i + 1)) H3) := fun H3 s3 => by
            cases b with
            | true =>
              rw [if_pos rfl] at el ⊢
              obtain ⟨y, ey, el⟩ := bind_ok el
              by_cases hz : acc.length < most
              · rw [if_pos hz] at el
                refine ⟨env1, _, hin'.right.same s3, frD s3, ?_⟩
                replace ey : evE cl env1 e = .ok y := ey
                rw [ey]
                intro H4 v fp4 s4 r4 f4 n4
                have hD4 : H4 D = some (.lst vs) := s4 D _ (s3 D _ (s2 D _ hD'))
                refine ⟨vs, hD4, by rw [← ra.len, ← most_eq]; exact hz, rfl, hlt, fun a o z => by rw [upd_ne (hDn a o z)]; exact s4 a o (s3 a o (sm2 a o z)), acc ++ [y], vs ++ [v], fp ++ (fp4 ++ []), el, upd_same, ?_, fun a z => ?_, ?_⟩
                · have hfp4 : ∀ a ∈ fp4, a ≠ D := fun a z e => by have q := f4 a z; rw [e, s3 D _ (s2 D _ hD')] at q; cases q
                  have ra4 : Rps X.K H4 (okn (fun a => ok a ∧ a ≠ D) (fp ++ (fp4 ++ []))) acc vs fp := (((ra.inD.imp fun a z => ⟨z.1.1, fun hf => by
                    rcases List.mem_append.mp hf with hf | hf
                    · exact z.1.2 hf
                    · rw [List.append_nil] at hf
                      obtain ⟨u, q⟩ := z.2
                      have q2 := f4 a hf
                      rw [s3 a u (s2 a u q)] at q2
                      cases q2⟩).same s2).same s3).same s4
                  have r4' : Rp X.K H4 (okn (fun a => ok a ∧ a ≠ D) (fp ++ (fp4 ++ []))) y v fp4 := r4.imp fun a z => ⟨z.1.1, fun hf => by
                    rcases List.mem_append.mp hf with hf | hf
                    · exact z.1.2 hf
                    · rw [List.append_nil] at hf
                      exact z.2 hf⟩
                  refine Rps.keep (H := H4) (ok := okn (fun a => ok a ∧ a ≠ D) (fp ++ (fp4 ++ []))) (M := fun a => a = D) (fun a o z hn => by rw [upd_ne hn]; exact z) (fun a z => ⟨HO.lst vs, by rw [show a = D from z]; exact hD4, rfl⟩) (ra4.app (.cons r4' .nil)) (fun _ z => z) (fun a z => z.1.2) fun a z => ?_
                  rcases List.mem_append.mp z with z | z
                  · exact (fa' a z).2
                  · rw [List.append_nil] at z
                    exact hfp4 a z
                · rcases List.mem_append.mp z with z | z
                  · exact fa' a z
                  · rw [List.append_nil] at z
                    have q := f4 a z
                    exact ⟨sm2.free (s3.free q), fun e => by rw [e, s3 D _ (s2 D _ hD')] at q; cases q⟩
                · rw [List.append_nil]
                  refine List.nodup_append.mpr ⟨nd, n4, fun a ha b hb e => ?_⟩
                  subst e
                  have q := f4 a hb
                  obtain ⟨u, hu, _⟩ := ra.dom a ha
                  rw [s3 a u (s2 a u hu)] at q
                  cases q
              · rw [if_neg hz] at el
                cases el
            | false =>
              rw [if_neg (by decide)] at el ⊢
              exact ⟨rfl, hlt, (sm2.trans s3), acc, vs, fp, el, s3 D _ (s2 D _ hD'), (ra.same s2).same s3, fa', nd⟩
          cases c with
          | none =>
            cases ec
            exact go H2 (Same.refl _)
          | some c =>
            refine ⟨env1, _, hin'.left, frD (Same.refl _), ?_⟩
            replace ec : ((evE cl env1 c).bind fun x => asB x) = .ok b := ec
            rw [ec]
            exact go
      · have ei : i = p.2.length := by omega
        subst ei
        rw [List.drop_length] at el
        cases el
        refine .inl ⟨w.stop _ H' (fun a o z _ => sm a o z) (Nat.le_refl _), ?_⟩
        refine hm H' (.ref D) (D :: fp) (s1.trans sm) (.lstO hD' (ra.imp fun a z => ⟨z.1.1, fun e => (List.mem_cons.mp e).elim z.1.2 z.2⟩)) (fun a z => ?_) (List.nodup_cons.mpr ⟨fun z => (fa' D z).2 rfl, nd⟩)
        rcases List.mem_cons.mp z with z | z
        · rw [z]; exact s1.free hD
        · exact s1.free (fa' a z).1
    | exc k => exact absurd e2 noX_ne
    | bad => rw [e2] at hm; exact hm.elim
  | exc c => rw [e1] at hm; exact hm
  | bad => rw [e1] at hm; exact hm.elim
theorem pg_blk {t : List Nat} {scope : Scope} (C : Cok X W tc cl n ca fa) (hT : ckT ⟨X.N, scope, tc.fn, tc.gl⟩ t tg = true) (s : Shared) (H : Hp) (Ca : Addr) (l : List (Str × Addr)) (fp : List Addr) : PG (X.blk s H scope (compEnvC scope l Ca X.env) fp) tg (tG X.K t) := by
  refine pg_of (X := X.blk s H scope (compEnvC scope l Ca X.env) fp) C.calm C.nd (sc := scope) (fn := tc.fn) (gl := tc.gl) (fun x hx => ?_) hT
  have k1 : scope.names.lookup x = some .local ∨ scope.names.lookup x = some .cell := by
    unfold locB at hx
    split at hx <;> first | exact .inl (by assumption) | exact .inr (by assumption) | cases hx
  rcases k1 with k1 | k1
  · have k2 : (relS scope X.env.scope).names.lookup x = some .local := lookup_relS_keep (by decide) k1
    exact ⟨.inl k2, .inr k2⟩
  · have k2 : (relS scope X.env.scope).names.lookup x = some .cell := lookup_relS_keep (by decide) k1
    refine ⟨.inr k2, .inl ?_⟩
    show (scope.names.lookup x == some .cell) = true
    rw [k1]
    rfl
theorem fold_of {iter : Expr} {env : Env} (hp : plainX iter = true) (x : Value) : foldedSetIterable iter env x = pure x := by
  cases iter <;> first | rfl | cases hp
theorem s_lc {t : List Nat} {it : Iw} {c : Exo} {e : Ex} {elt iter : Expr} {ifs : List Expr} {scope : Scope} {pos : Pos} {own : List (Str × Nat)} (C : Cok X W tc cl n ca fa) (hit : PI X tg iter (tI X.K ca cl W it)) (hok : BlkOk X.N X.env.scope scope own) (hown : own.map (·.2) = t)
    (hT : ckT ⟨X.N, scope, tc.fn, tc.gl⟩ t tg = true)
    (hc : ∀ (s : Shared) (H : Hp) (Ca : Addr) (l : List (Str × Addr)) (fp : List Addr), PTs (X.blk s H scope (compEnvC scope l Ca X.env) fp) ifs (tCd X.K ca cl c))
    (he : ∀ (s : Shared) (H : Hp) (Ca : Addr) (l : List (Str × Addr)) (fp : List Addr), PE (X.blk s H scope (compEnvC scope l Ca X.env) fp) elt (tE X.K ca cl W0 e)) (hp : plainX iter = true) :
    SndE X ca cl W (.lc t t it c e) (.ListComp elt [⟨tg, iter, ifs, 0⟩] scope pos) := by
  exact snd_val (PE.imp (pe_lc C.calm C.nd hit hok (pg_blk C hT) hc he (fold_of hp)) fun σ H Q hq => lc_imp hown hq) rfl
end
end BW

/-! All expressions. -/
namespace BW
open PySem PySem.Spec L2
section
variable {X : Cx} {ca fa : Nat → Addr} {cl : Cl} {W : WX} {tc : Tc} {n : Nat}
theorem s_slc {a : Ex} {lo hi : Exo} {py : Expr} {l h : Option Expr} {p2 p : Pos} (ha : SndE X ca cl W a py) (hl : PO X l (tOp1 X.K ca cl W lo)) (hh : PO X h (tOp1 X.K ca cl W hi)) : SndE X ca cl W (.slc a lo hi) (.Subscript py (.Slice l h none p2) p) := by
  refine snd_val (PE.imp (pe_slice sl_op ha.pe hl hh) fun σ H Q hq => ?_) rfl
  obtain ⟨env, ok, hi', fr, hm⟩ := hq
  refine ⟨env, ok, hi'.left, fr, Post.bindv hm fun x H1 v fp e1 s1 r1 f1 n1 q1 => ?_⟩
  refine ⟨env, ok, hi'.right.left.same s1, fr.same s1, Post.bindp q1 fun l H2 e2 s2 q2 => ?_⟩
  refine ⟨env, ok, (hi'.right.right.same s1).same s2, (fr.same s1).same s2, Post.bindp q2 fun u H3 e3 s3 q3 => ?_⟩
  cases e4 : slcop (frz x) l u with
  | ok z =>
    rw [e4] at q3
    exact ⟨ok, frz x, z, ((fr.same s1).same s2).same s3, ((r1.fz fr f1).same s2).same s3, e4, q3⟩
  | exc c =>
    unfold slcop at e4
    split at e4 <;> first | (cases e4; done) | (split at e4 <;> cases e4)
  | bad => rw [e4] at q3; exact q3.elim
theorem o_none : PO X none (tOp1 X.K ca cl W .none) := PO.imp po_none fun σ H Q hq => by
  obtain ⟨env, ok, hi, fr, hm⟩ := hq
  exact hm H (Same.refl _)
theorem o_some {e : Ex} {py : Expr} (h : SndE X ca cl W e py) : PO X (some py) (tOp1 X.K ca cl W (.some e)) := PO.imp (po_some h.pe) fun σ H Q hq => by
  obtain ⟨env, ok, hi, fr, hm⟩ := hq
  refine ⟨env, ok, hi, fr, PostP.bindv hm fun x H1 v fp e1 s1 r1 f1 n1 q1 => ?_⟩
  cases r1 <;> first | exact q1.elim | exact ⟨_, rfl, q1 _ (Same.refl _)⟩
theorem a_nil : PA X [] (tAs X.K ca cl W .nil) := PA.imp pa_nil fun σ H Q hq => by
  obtain ⟨env, ok, hi, fr, hm⟩ := hq
  exact hm H [] [] (Same.refl _) .nil (fun _ z => nomatch z) .nil
theorem a_cons {e : Ex} {es : Exs} {py : Expr} {pys : List Expr} (h : SndE X ca cl W e py) (hs : PA X pys (tAs X.K ca cl W es)) (hp : plainX py = true) : PA X (py :: pys) (tAs X.K ca cl W (.cons e es)) :=
  PA.imp (pa_cons h.pe hs (star_of hp)) fun σ H Q hq => by
    obtain ⟨env, ok, hi, fr, hm⟩ := hq
    have hm : PostA X.K ca (WE W σ) ok H Q ((evE cl env e).bind fun x => (evEs cl env es).bind fun xs => .ok (x :: xs)) := hm
    refine ⟨env, ok, hi.left, fr, ?_⟩
    cases e1 : evE cl env e with
    | exc c => rw [e1] at hm; exact hm
    | bad => rw [e1] at hm; exact hm.elim
    | ok x =>
      rw [e1] at hm
      intro H1 v fp s1 r1 f1 n1
      replace hm : PostA X.K ca (WE W σ) ok H Q ((evEs cl env es).bind fun xs => .ok (x :: xs)) := hm
      have frn : Fre (okn ok fp) H1 := fun a z => ⟨fr a (s1.free z), fun hf => by
        obtain ⟨u, hu, _⟩ := r1.dom a hf
        rw [z] at hu
        cases hu⟩
      have hin : EIn X.K H1 (okn ok fp) env σ (vEs es) := ⟨hi.1, fun i hj y ey => by
        obtain ⟨w, h1, h2⟩ := hi.right.2 i hj y ey
        exact ⟨w, h1, (h2.inD.imp fun a z => ⟨z.1, fun hf => by
          obtain ⟨u, q⟩ := z.2
          rw [f1 a hf] at q
          cases q⟩).same s1⟩⟩
      refine ⟨env, okn ok fp, hin, frn, ?_⟩
      cases e2 : evEs cl env es with
      | exc c => rw [e2] at hm; exact fun d H' s' => hm d H' (s1.trans s')
      | bad => rw [e2] at hm; exact hm.elim
      | ok xs =>
        rw [e2] at hm
        intro H2 vs fp2 s2 r2 f2 n2
        replace hm : PostA X.K ca (WE W σ) ok H Q (.ok (x :: xs)) := hm
        have g1 : Rp X.K H2 (okn ok (fp ++ fp2)) x v fp := (r1.inD.imp fun a z => ⟨z.1.1, fun hf => by
          rcases List.mem_append.mp hf with hf | hf
          · exact z.1.2 hf
          · obtain ⟨u, q⟩ := z.2
            rw [f2 a hf] at q
            cases q⟩).same s2
        have g2 : Rps X.K H2 (okn ok (fp ++ fp2)) xs vs fp2 := r2.imp fun a z => ⟨z.1.1, fun hf => (List.mem_append.mp hf).elim z.1.2 z.2⟩
        refine hm H2 (v :: vs) (fp ++ fp2) (s1.trans s2) (.cons g1 g2) (fun a z => ?_) (List.nodup_append.mpr ⟨n1, n2, fun a ha b hb e => ?_⟩)
        · rcases List.mem_append.mp z with z | z
          · exact f1 a z
          · exact s1.free (f2 a z)
        · subst e
          obtain ⟨u, hu, _⟩ := r1.dom a ha
          rw [f2 a hb] at hu
          cases hu
theorem s_isi {b : Bi} {e : Ex} {py : Expr} {y : Str} {p p1 p2 : Pos} (C : Cok X W tc cl n ca fa) (h : SndE X ca cl W e py) (hp : plainX py = true) (hg : glB tc.sc "isinstance" = true) (hy : glB tc.sc y = true) (ey : y = (biTy b : Str)) (hb : isIs b = true) :
    SndE X ca cl W (.bi b (.cons e .nil)) (.Call (.Name "isinstance" p) [py, .Name y p1] [] p2) := by
  have hT : ∃ T : String, biTy b = T ∧ X.mg y = none ∧ bootBuiltins y = some (.type T) ∧ y ≠ "__name__" ∧ (y == ("__debug__" : Str)) = false := by
    refine ⟨_, rfl, ?_⟩
    subst ey
    cases b <;> first | (cases hb; done) | exact ⟨C.blt _ (by decide +kernel), by decide +kernel, by decide +kernel, by decide +kernel⟩
  obtain ⟨T, eT, m, bt, n1, n2⟩ := hT
  have pt : PE X (.Name y p1) (tC (.ty T)) := pe_bltn (gl_of C hy) m bt rfl n1 n2
  have pa : PA X [py, .Name y p1] (tCons (tE X.K ca cl W e) (tCons (tC (.ty T)) tNil)) := pa_cons h.pe (pa_cons pt pa_nil) (star_of hp)
  refine snd_val (PE.imp (pe_callB call_isi (gl_of C hg) (C.blt _ (by decide +kernel)) PyProof.Rows.boot_isinstance pa (by decide +kernel) (by decide +kernel) (star_of hp) rfl) fun σ H Q hq => ?_) rfl
  obtain ⟨env, ok, hi, fr, hm⟩ := hq
  replace hm : Post X.K ca (WE W σ) ok H Q (((evE cl env e).bind fun x => (Res.ok []).bind fun xs => .ok (x :: xs)).bind fun vs => biV b (frzs vs)) := hm
  refine ⟨env, ok, ⟨hi.1, fun i hj => hi.2 i (List.mem_append_left _ hj)⟩, fr, ?_⟩
  cases e1 : evE cl env e with
  | exc c => rw [e1] at hm; exact hm
  | bad => rw [e1] at hm; exact hm.elim
  | ok x =>
    rw [e1] at hm
    intro H1 v fp s1 r1 f1 n1
    have r2 := r1.fz fr f1
    replace hm : Post X.K ca (WE W σ) ok H Q (biV b [frz x]) := hm
    have hV : isV b (frz x) ≠ none ∧ ∀ k, isV b (frz x) = some k → Post X.K ca (WE W σ) ok H Q (.ok (.bl k)) := by
      have e2 : biV b [frz x] = isR (isV b (frz x)) := by cases b <;> first | (cases hb; done) | rfl
      rw [e2] at hm
      cases q : isV b (frz x) with
      | none => rw [q] at hm; exact hm.elim
      | some k =>
        refine ⟨(fun z => nomatch z), fun k' z => ?_⟩
        cases z
        rw [q] at hm
        exact hm
    have hU : ∃ t, TyX X.K H1 v (.type t) ∧ ∀ k, isV b (frz x) = some k → kitB t T = some k := by
      rw [← eT]
      generalize frz x = z at r2 hV
      cases r2 with
      | non => exact ⟨"NoneType", .base .non, fun k z => by cases b <;> first | (cases hb; done) | (cases z; decide +kernel)⟩
      | bl i => exact ⟨"bool", .base (.bl _), fun k z => by cases b <;> first | (cases hb; done) | (cases z; decide +kernel)⟩
      | int i => exact ⟨"int", .base (.int _), fun k z => by cases b <;> first | (cases hb; done) | (cases z; decide +kernel)⟩
      | str i z => exact ⟨"str", .base (.str _), fun k z => by cases b <;> first | (cases hb; done) | (cases z; decide +kernel)⟩
      | tup hs r =>
        refine ⟨"tuple", ?_, fun k z => by cases b <;> first | (cases hb; done) | (cases z; decide +kernel)⟩
        rcases hs with (h | ⟨o, h⟩) | ⟨o, its, n, h1, h2, _⟩
        · exact .base (.tup h)
        · exact .fTuple h
        · exact .kTuple h1 h2
      | scr hs => exact absurd (by cases b <;> rfl) hV.1
      | lstF hs o r =>
        refine ⟨"list", ?_, fun k z => by cases b <;> first | (cases hb; done) | (cases z; decide +kernel)⟩
        rcases hs with h | ⟨o, h⟩
        · exact .base (.lst h)
        · exact .base (.frz h)
    obtain ⟨t, ty, hk⟩ := hU
    cases q : isV b (frz x) with
    | none => exact absurd q hV.1
    | some k =>
      refine ⟨v, .ty T, .type t, .type T, k, rfl, .ty T, ty, kit_ty (hk k q), ?_⟩
      exact (Got.mono s1 (hV.2 k q)).bl
end
/-- a comprehension's block -/
theorem Cok.blk {X : Cx} {W : WX} {tc : Tc} {cl : Cl} {n : Nat} {ca fa : Nat → Addr} (C : Cok X W tc cl n ca fa) (s : Shared) (H : Hp) (scope : Scope) (Ca : Addr) (l : List (Str × Addr)) (fp : List Addr) :
    Cok (X.blk s H scope (compEnvC scope l Ca X.env) fp) W0 ⟨tc.N, relS scope tc.sc, tc.fn, tc.gl⟩ cl n ca fa where
  calm := C.calm
  nd := C.nd
  N := C.N
  sc := by rw [C.sc] <;> rfl
  room := C.room
  pass := fun σ => passAt takes0 σ
  blt := C.blt
  gls := C.gls
  fns := C.fns
theorem plain_of {tc : Tc} {e : Ex} {py : Expr} (h : ckE tc e py = true) : plainX py = true := by
  cases py <;> first | rfl | (cases e <;> cases h)
mutual
theorem sE : ∀ (e : Ex) {X : Cx} {W : WX} {tc : Tc} {cl : Cl} {n : Nat} {ca fa : Nat → Addr} (C : Cok X W tc cl n ca fa) (py : Expr), ckE tc e py = true → SndE X ca cl W e py
  | .var i, X, W, tc, cl, n, ca, fa, C, py, h => by
    cases py <;> first | exact s_var C h | cases h
  | .non, X, W, tc, cl, n, ca, fa, C, py, h => by
    cases py with
    | Constant v k p => cases v <;> first | exact s_non | cases h
    | _ => cases h
  | .bl b, X, W, tc, cl, n, ca, fa, C, py, h => by
    cases py with
    | Constant v k p =>
      cases v with
      | bool c =>
        have h : (b == c) = true := h
        rw [eq_of_beq h]
        exact s_bl
      | _ => cases h
    | _ => cases h
  | .int i, X, W, tc, cl, n, ca, fa, C, py, h => by
    cases py with
    | Constant v k p =>
      cases v with
      | int c =>
        rw [of_decide_eq_true h]
        exact s_int
      | _ => cases h
    | _ => cases h
  | .str x, X, W, tc, cl, n, ca, fa, C, py, h => by
    cases py with
    | Constant v k p =>
      cases v with
      | str c =>
        have h : (decide (x = c) && PyData.strOk x) = true := h
        rw [Bool.and_eq_true, decide_eq_true_eq] at h
        obtain ⟨rfl, h2⟩ := h
        exact s_str h2
      | _ => cases h
    | _ => cases h
  | .bin op a b, X, W, tc, cl, n, ca, fa, C, py, h => by
    cases py with
    | BinOp l o r p =>
      have h : (decide (o = pyB op) && (ckE tc a l && ckE tc b r)) = true := h
      rw [Bool.and_eq_true, Bool.and_eq_true, decide_eq_true_eq] at h
      obtain ⟨rfl, h1, h2⟩ := h
      exact s_bin (sE a C l h1) (sE b C r h2)
    | _ => cases h
  | .neg a, X, W, tc, cl, n, ca, fa, C, py, h => by
    cases py with
    | UnaryOp o v p => cases o <;> first | exact s_neg (sE a C v h) | cases h
    | _ => cases h
  | .not a, X, W, tc, cl, n, ca, fa, C, py, h => by
    cases py with
    | UnaryOp o v p => cases o <;> first | exact s_not (sE a C v h) | cases h
    | _ => cases h
  | .and a b, X, W, tc, cl, n, ca, fa, C, py, h => by
    cases py with
    | BoolOp o vs p =>
      cases o with
      | And =>
        match vs, h with
        | [x, y], h =>
          have h : (ckE tc a x && ckE tc b y) = true := h
          rw [Bool.and_eq_true] at h
          have hb := sE b C y h.2
          exact s_and (sE a C x h.1) (pe_one hb.pe) (pw_and1 hb.pt) (by simp)
        | x :: y :: z :: r, h =>
          have h : (ckE tc a x && ckE tc b (.BoolOp .And (y :: z :: r) p)) = true := h
          rw [Bool.and_eq_true] at h
          have hb := sE b C _ h.2
          exact s_and (sE a C x h.1) hb.pe (hb.pw _ _ _ rfl) (by simp)
        | [], h => cases h
        | [_], h => cases h
      | Or => cases h
    | _ => cases h
  | .or a b, X, W, tc, cl, n, ca, fa, C, py, h => by
    cases py with
    | BoolOp o vs p =>
      cases o with
      | Or =>
        match vs, h with
        | [x, y], h =>
          have h : (ckE tc a x && ckE tc b y) = true := h
          rw [Bool.and_eq_true] at h
          have hb := sE b C y h.2
          exact s_or (sE a C x h.1) (pe_one hb.pe) (pw_or1 hb.pt) (by simp)
        | x :: y :: z :: r, h =>
          have h : (ckE tc a x && ckE tc b (.BoolOp .Or (y :: z :: r) p)) = true := h
          rw [Bool.and_eq_true] at h
          have hb := sE b C _ h.2
          exact s_or (sE a C x h.1) hb.pe (hb.pw _ _ _ rfl) (by simp)
        | [], h => cases h
        | [_], h => cases h
      | And => cases h
    | _ => cases h
  | .cmp op a b, X, W, tc, cl, n, ca, fa, C, py, h => by
    cases py with
    | Compare l os rs p =>
      match os, rs, h with
      | [o], [r], h =>
        have h : (decide (o = pyC op) && (ckE tc a l && ckE tc b r)) = true := h
        rw [Bool.and_eq_true, Bool.and_eq_true, decide_eq_true_eq] at h
        obtain ⟨rfl, h1, h2⟩ := h
        exact s_cmp C.room.units (sE a C l h1) (sE b C r h2) (plain_of h2)
      | [], _, h => cases h
      | _ :: _ :: _, [], h => cases h
      | _ :: _ :: _, _ :: _, h => cases h
      | [_], [], h => cases h
      | [_], _ :: _ :: _, h => cases h
    | _ => cases h
  | .chn op op' a b c, X, W, tc, cl, n, ca, fa, C, py, h => by
    cases py with
    | Compare l os rs p =>
      match os, rs, h with
      | [o, o'], [m, r], h =>
        have h : (decide (o = pyC op) && decide (o' = pyC op') && (ckE tc a l && (ckE tc b m && ckE tc c r))) = true := h
        rw [Bool.and_eq_true, Bool.and_eq_true, Bool.and_eq_true, Bool.and_eq_true, decide_eq_true_eq, decide_eq_true_eq] at h
        obtain ⟨⟨rfl, rfl⟩, h1, h2, h3⟩ := h
        exact s_chn C.room.units (sE a C l h1) (sE b C m h2) (sE c C r h3) (plain_of h3)
      | [], _, h => cases h
      | [_], _, h => cases h
      | _ :: _ :: _ :: _, _, h => cases h
      | [_, _], [], h => cases h
      | [_, _], [_], h => cases h
      | [_, _], _ :: _ :: _ :: _, h => cases h
    | _ => cases h
  | .tup es, X, W, tc, cl, n, ca, fa, C, py, h => by
    cases py with
    | Tuple xs k p =>
      have h : (decide (lenX es ≤ 1000) && ckEs tc es xs) = true := h
      rw [Bool.and_eq_true, decide_eq_true_eq] at h
      exact s_tup (sEs es C xs h.2).1 h.1
    | _ => cases h
  | .lst es, X, W, tc, cl, n, ca, fa, C, py, h => by
    cases py with
    | List xs p =>
      have h : (decide (lenX es ≤ 1000) && ckEs tc es xs) = true := h
      rw [Bool.and_eq_true, decide_eq_true_eq] at h
      exact s_lst (sEs es C xs h.2).1 h.1
    | _ => cases h
  | .idx a i, X, W, tc, cl, n, ca, fa, C, py, h => by
    cases py with
    | Subscript v s p =>
      have h : (plainX s && (ckE tc a v && ckE tc i s)) = true := h
      rw [Bool.and_eq_true, Bool.and_eq_true] at h
      exact s_idx (sE a C v h.2.1) (sE i C s h.2.2) h.1
    | _ => cases h
  | .slc a lo hi, X, W, tc, cl, n, ca, fa, C, py, h => by
    cases py with
    | Subscript v s p =>
      cases s with
      | Slice l u st p2 =>
        cases st with
        | none =>
          have h : (ckE tc a v && (ckO tc lo l && ckO tc hi u)) = true := h
          rw [Bool.and_eq_true, Bool.and_eq_true] at h
          exact s_slc (sE a C v h.1) (sO lo C l h.2.1) (sO hi C u h.2.2)
        | some z => cases h
      | _ => cases h
    | _ => cases h
  | .call f es, X, W, tc, cl, n, ca, fa, C, py, h => by
    cases py with
    | Call g xs ks p =>
      cases g with
      | Name x p1 =>
        match xs, ks, h with
        | e :: xs, [], h =>
          have h : (glB tc.sc x && !odd x && decide (tc.fn.lookup x = some f) && ckEs tc es (e :: xs)) = true := h
          rw [Bool.and_eq_true, Bool.and_eq_true, Bool.and_eq_true, decide_eq_true_eq, Bool.not_eq_true'] at h
          obtain ⟨⟨⟨h1, h2⟩, h3⟩, h4⟩ := h
          have q := sEs es C _ h4
          exact s_call C q.1 q.2 h1 h2 h3
        | [], _, h => cases h
        | _ :: _, _ :: _, h => cases h
      | _ => cases h
    | _ => cases h
  | .bi b es, X, W, tc, cl, n, ca, fa, C, py, h => by
    cases py with
    | Call g xs ks p =>
      cases g with
      | Name x p1 =>
        cases ks with
        | cons _ _ => cases h
        | nil =>
          have h : (glB tc.sc x && ((biHas b && decide (x = biNm b) && ckEs tc es xs && decide (xs.length ≠ 0)) ||
            (isIs b && decide (x = ("isinstance" : Str)) && isiN tc b xs && decide (lenX es = 1) && ckEs tc es (xs.take 1)))) = true := h
          rw [Bool.and_eq_true, Bool.or_eq_true, Bool.and_eq_true, Bool.and_eq_true, Bool.and_eq_true, Bool.and_eq_true, Bool.and_eq_true, Bool.and_eq_true, Bool.and_eq_true, decide_eq_true_eq, decide_eq_true_eq, decide_eq_true_eq, decide_eq_true_eq] at h
          obtain ⟨h0, ⟨⟨⟨h1, h2⟩, h3⟩, h4⟩ | ⟨⟨⟨⟨h1, h2⟩, h3⟩, h5⟩, h4⟩⟩ := h
          · subst h2
            have q := sEs es C _ h3
            match xs, h4, q with
            | e :: xs, _, q => exact s_bi C q.1 q.2 h0 h1
            | [], h4, _ => exact absurd rfl h4
          · subst h2
            match xs, h3, h4 with
            | [v, .Name y p2], h3, h4 =>
              have h3 : (glB tc.sc y && decide (y = (biTy b : Str))) = true := h3
              rw [Bool.and_eq_true, decide_eq_true_eq] at h3
              have q := sEs es C _ h4
              match es, h5, h4, q with
              | .cons a .nil, _, h4, q =>
                have h4 : (plainX v && (ckE tc a v && true)) = true := h4
                rw [Bool.and_eq_true, Bool.and_eq_true] at h4
                exact s_isi C (sE a C v h4.2.1) h4.1 h0 h3.1 h3.2 h1
              | .nil, h5, _, _ => cases h5
              | .cons _ (.cons _ _), h5, _, _ => simp [lenX] at h5
      | _ => cases h
    | _ => cases h
  | .con g, X, W, tc, cl, n, ca, fa, C, py, h => by
    cases py with
    | Name x p =>
      have h : (glB tc.sc x && !odd x && decide (tc.gl.lookup x = some g)) = true := h
      rw [Bool.and_eq_true, Bool.and_eq_true, decide_eq_true_eq, Bool.not_eq_true'] at h
      exact s_con C h.1.1 h.1.2 h.2
    | _ => cases h
  | .lc t own it c e, X, W, tc, cl, n, ca, fa, C, py, h => by
    cases py with
    | ListComp elt gs scope p =>
      match gs, h with
      | [⟨tg, iter, ifs, z⟩], h =>
        have h : (decide (z = 0) && decide (t = own) && (blkC tc.N tc.sc scope (ownN tc.N own) && decide ((ownN tc.N own).map (·.2) = own) && (ckI tc it iter &&
          (ckT ⟨tc.N, scope, tc.fn, tc.gl⟩ t tg && decide (plainX iter = true) && (ckC ⟨tc.N, relS scope tc.sc, tc.fn, tc.gl⟩ c ifs && ckE ⟨tc.N, relS scope tc.sc, tc.fn, tc.gl⟩ e elt))))) = true := h
        rw [Bool.and_eq_true, Bool.and_eq_true, Bool.and_eq_true, Bool.and_eq_true, Bool.and_eq_true, Bool.and_eq_true, Bool.and_eq_true, Bool.and_eq_true, decide_eq_true_eq, decide_eq_true_eq, decide_eq_true_eq, decide_eq_true_eq] at h
        obtain ⟨⟨rfl, rfl⟩, ⟨h1, h2⟩, h3, ⟨h4, h5⟩, h6, h7⟩ := h
        exact s_lc C (sI it C iter h3) (blkOk_by (by rw [← C.N, ← C.sc]; exact h1)) h2 (by rw [← C.N]; exact h4) (fun s H Ca l fp => sC c (C.blk s H scope Ca l fp) ifs h6) (fun s H Ca l fp => (sE e (C.blk s H scope Ca l fp) elt h7).pe) h5
      | [], h => cases h
      | ⟨_, _, _, _⟩ :: _ :: _, h => cases h
    | _ => cases h
theorem sEs : ∀ (es : Exs) {X : Cx} {W : WX} {tc : Tc} {cl : Cl} {n : Nat} {ca fa : Nat → Addr} (C : Cok X W tc cl n ca fa) (pys : List Expr), ckEs tc es pys = true → PA X pys (tAs X.K ca cl W es) ∧ ∀ e ∈ pys, plainX e = true
  | .nil, X, W, tc, cl, n, ca, fa, C, pys, h => by
    cases pys with
    | nil => exact ⟨a_nil, fun _ z => nomatch z⟩
    | cons _ _ => cases h
  | .cons e es, X, W, tc, cl, n, ca, fa, C, pys, h => by
    cases pys with
    | nil => cases h
    | cons y ys =>
      have h : (plainX y && (ckE tc e y && ckEs tc es ys)) = true := h
      rw [Bool.and_eq_true, Bool.and_eq_true] at h
      have q := sEs es C ys h.2.2
      exact ⟨a_cons (sE e C y h.2.1) q.1 h.1, fun z hz => (List.mem_cons.mp hz).elim (fun e => by rw [e]; exact h.1) (q.2 z)⟩
theorem sO : ∀ (o : Exo) {X : Cx} {W : WX} {tc : Tc} {cl : Cl} {n : Nat} {ca fa : Nat → Addr} (C : Cok X W tc cl n ca fa) (py : Option Expr), ckO tc o py = true → PO X py (tOp1 X.K ca cl W o)
  | .none, X, W, tc, cl, n, ca, fa, C, py, h => by
    cases py <;> first | exact o_none | cases h
  | .some e, X, W, tc, cl, n, ca, fa, C, py, h => by
    cases py with
    | none => cases h
    | some y => exact o_some (sE e C y h)
theorem sC : ∀ (c : Exo) {X : Cx} {tc : Tc} {cl : Cl} {n : Nat} {ca fa : Nat → Addr} (C : Cok X W0 tc cl n ca fa) (ifs : List Expr), ckC tc c ifs = true → PTs X ifs (tCd X.K ca cl c)
  | .none, X, tc, cl, n, ca, fa, C, ifs, h => by
    cases ifs <;> first | exact pts_nil | cases h
  | .some e, X, tc, cl, n, ca, fa, C, ifs, h => by
    match ifs, h with
    | [i], h => exact pts_one (sE e C i h).pt
    | [], h => cases h
    | _ :: _ :: _, h => cases h
theorem sI : ∀ (it : Iw) {X : Cx} {W : WX} {tc : Tc} {cl : Cl} {n : Nat} {ca fa : Nat → Addr} (C : Cok X W tc cl n ca fa) (py : Expr) {tg : Expr}, ckI tc it py = true → PI X tg py (tI X.K ca cl W it)
  | .ex e, X, W, tc, cl, n, ca, fa, C, py, tg, h => by
    have h : (plainX py && ckE tc e py) = true := h
    rw [Bool.and_eq_true] at h
    exact i_ex (sE e C py h.2)
  | .rng es, X, W, tc, cl, n, ca, fa, C, py, tg, h => by
    cases py with
    | Call g xs ks p =>
      cases g with
      | Name x p1 =>
        cases ks with
        | cons _ _ => cases h
        | nil =>
          have h : (glB tc.sc x && decide (x = ("range" : Str)) && decide (1 ≤ lenX es ∧ lenX es ≤ 2) && ckEs tc es xs) = true := h
          rw [Bool.and_eq_true, Bool.and_eq_true, Bool.and_eq_true, decide_eq_true_eq, decide_eq_true_eq] at h
          obtain ⟨⟨⟨h1, rfl⟩, h2⟩, h3⟩ := h
          have q := sEs es C xs h3
          match es, xs, h2, h3, q with
          | .nil, _, h2, _, _ => exact absurd h2.1 (by decide)
          | .cons _ .nil, [a], _, _, q => exact i_rng1 C q.1 (q.2 a List.mem_cons_self) rfl h1
          | .cons _ (.cons _ .nil), [a, b], _, _, q => exact i_rng2 C q.1 (q.2 a List.mem_cons_self) (q.2 b (List.mem_cons_of_mem _ List.mem_cons_self)) rfl h1
          | .cons _ (.cons _ (.cons _ _)), _, h2, _, _ => exact absurd h2.2 (by simp [lenX])
          | .cons _ .nil, [], _, h3, _ => cases h3
          | .cons _ .nil, _ :: _ :: _, _, h3, _ => simp [ckEs] at h3
          | .cons _ (.cons _ .nil), [], _, h3, _ => cases h3
          | .cons _ (.cons _ .nil), [_], _, h3, _ => simp [ckEs] at h3
          | .cons _ (.cons _ .nil), _ :: _ :: _ :: _, _, h3, _ => simp [ckEs] at h3
      | _ => cases h
    | _ => cases h
  | .rev e, X, W, tc, cl, n, ca, fa, C, py, tg, h => by
    cases py with
    | Call g xs ks p =>
      cases g with
      | Name x p1 =>
        match xs, ks, h with
        | [v], [], h =>
          have h : (glB tc.sc x && decide (x = ("reversed" : Str)) && plainX v && ckE tc e v) = true := h
          rw [Bool.and_eq_true, Bool.and_eq_true, Bool.and_eq_true, decide_eq_true_eq] at h
          obtain ⟨⟨⟨h1, rfl⟩, h2⟩, h3⟩ := h
          exact i_rev C (sE e C v h3) h2 h1
        | [], _, h => cases h
        | [_], _ :: _, h => cases h
        | _ :: _ :: _, _, h => cases h
      | _ => cases h
    | _ => cases h
  | .revr _, X, W, tc, cl, n, ca, fa, C, py, tg, h => by cases h
end
end BW

/-! What a def's names hold, and what of it is its own. -/
namespace BW
open PySem PySem.Spec L2

abbrev Fps := Nat → List Addr
def okS (ok0 : Addr → Prop) (fps : Fps) : Addr → Prop := fun a => ok0 a ∧ ∀ i, a ∉ fps i
def okE (ok0 : Addr → Prop) (fps : Fps) (is : List Nat) : Addr → Prop := fun a => ok0 a ∧ ((∀ i, a ∉ fps i) ∨ ∃ i ∈ is, a ∈ fps i)
structure SR (K : PySem.W.Frag) (ok0 : Addr → Prop) (env : PEnv) (fps : Fps) (σ : L2.St) (H : Hp) : Prop where
  len : env.length = σ.length
  at_ : ∀ i pv, env[i]? = some (some pv) → ∃ v, σ[i]? = some (some v) ∧ Rp K H (okS ok0 fps) pv v (fps i)
  nd : ∀ i, (fps i).Nodup
  dj : ∀ i j a, a ∈ fps i → a ∈ fps j → i = j
  own : ∀ i a, a ∈ fps i → ok0 a ∧ ∃ u, H a = some u ∧ isMu u = true
  fr : Fre ok0 H
/-- what may have changed -/
structure Stp (fps : Fps) (H : Hp) (fps' : Fps) (H' : Hp) : Prop where
  keep : ∀ a o, H a = some o → (∀ i, a ∉ fps i) → H' a = some o
  own : ∀ i a, a ∈ fps' i → (∃ j, a ∈ fps j) ∨ H a = none
  dom : ∀ a, H' a = none → H a = none
def updF (fps : Fps) (i : Nat) (fp : List Addr) : Fps := fun j => if j = i then fp else fps j
def frzF (is : List Nat) (fps : Fps) : Fps := fun j => if j ∈ is then [] else fps j
section
variable {K : PySem.W.Frag} {ok0 : Addr → Prop} {env env' : PEnv} {fps fps' fps2 : Fps} {σ : L2.St} {H H' H1 H2 : Hp} {is : List Nat}
theorem Stp.refl : Stp fps H fps H := ⟨fun _ _ e _ => e, fun i a z => .inl ⟨i, z⟩, fun _ z => z⟩
theorem Stp.of (s : Same H H') (h : ∀ i a, a ∈ fps' i → (∃ j, a ∈ fps j) ∨ H a = none) : Stp fps H fps' H' := ⟨fun a o e _ => s a o e, h, fun _ z => s.free z⟩
theorem Stp.trans (a : Stp fps H fps' H') (b : Stp fps' H' fps2 H2) : Stp fps H fps2 H2 where
  keep := fun x o e n => b.keep x o (a.keep x o e n) fun i z => by
    rcases a.own i x z with ⟨j, q⟩ | q
    · exact n j q
    · rw [e] at q; cases q
  own := fun i x z => by
    rcases b.own i x z with ⟨j, q⟩ | q
    · exact a.own j x q
    · exact .inr (a.dom x q)
  dom := fun x z => a.dom x (b.dom x z)
theorem SR.same (s : Same H H') (S : SR K ok0 env fps σ H) : SR K ok0 env fps σ H' where
  len := S.len
  at_ := fun i pv e => let ⟨v, h1, h2⟩ := S.at_ i pv e; ⟨v, h1, h2.same s⟩
  nd := S.nd
  dj := S.dj
  own := fun i a z => let ⟨o, u, h1, h2⟩ := S.own i a z; ⟨o, u, s a u h1, h2⟩
  fr := S.fr.same s
theorem SR.frE (S : SR K ok0 env fps σ H) : Fre (okE ok0 fps is) H := fun a z => ⟨S.fr a z, .inl fun i hi => by
  obtain ⟨_, u, h1, _⟩ := S.own i a hi
  rw [z] at h1
  cases h1⟩
theorem SR.ein (S : SR K ok0 env fps σ H) : EIn K H (okE ok0 fps is) env σ is := by
  refine ⟨S.len, fun i hi x e => ?_⟩
  unfold getE at e
  split at e
  · rename_i v hv
    cases e
    obtain ⟨w, h1, h2⟩ := S.at_ i v hv
    exact ⟨w, h1, h2.frz (fun a z => ⟨z.1, .inl z.2⟩) fun a z => ⟨(S.own i a z).1, .inr ⟨i, hi, z⟩⟩⟩
  · cases e
theorem okE_S (dj : ∀ i j a, a ∈ fps i → a ∈ fps j → i = j) {a : Addr} (h : okE ok0 fps is a) : okS ok0 (frzF is fps) a := by
  refine ⟨h.1, fun i hi => ?_⟩
  unfold frzF at hi
  by_cases q : i ∈ is
  · rw [if_pos q] at hi
    cases hi
  · rw [if_neg q] at hi
    rcases h.2 with z | ⟨j, hj, z⟩
    · exact z i hi
    · exact q (by rw [dj i j a hi z]; exact hj)
theorem frzV_at {i : Nat} : ∀ {is : List Nat} {env : PEnv}, (frzV is env)[i]? = if i ∈ is then (match env[i]? with
    | some (some v) => some (some (frz v))
    | o => o) else env[i]?
  | [], _ => rfl
  | j :: is, env => by
    have ih := frzV_at (i := i) (is := is) (env := match env[j]? with
      | some (some v) => env.set j (some (frz v))
      | _ => env)
    show (frzV is (match env[j]? with
      | some (some v) => env.set j (some (frz v))
      | _ => env))[i]? = _
    rw [ih]
    by_cases hij : j = i
    · subst hij
      rw [if_pos (List.mem_cons_self (a := j) (l := is))]
      cases e : env[j]? with
      | none => simp only [e]; split <;> rfl
      | some o =>
        cases o with
        | none => simp only [e]; split <;> rfl
        | some v =>
          have hl : j < env.length := (List.getElem?_eq_some_iff.mp e).1
          dsimp only
          rw [List.getElem?_set_self hl]
          dsimp only
          split
          · rw [frz_frz]
          · rfl
    · have e2 : (match env[j]? with
        | some (some v) => env.set j (some (frz v))
        | _ => env)[i]? = env[i]? := by
        split
        · rw [List.getElem?_set_ne hij]
        · rfl
      rw [e2]
      by_cases q : i ∈ is
      · rw [if_pos q, if_pos (List.mem_cons_of_mem _ q)]
      · rw [if_neg q, if_neg fun z => (List.mem_cons.mp z).elim (fun z => hij z.symm) q]
theorem frzV_len : ∀ {is : List Nat} {env : PEnv}, (frzV is env).length = env.length
  | [], _ => rfl
  | j :: is, env => by
    show (frzV is _).length = _
    rw [frzV_len]
    dsimp only
    split
    · rw [List.length_set]
    · rfl
theorem frzF_sub {i : Nat} {a : Addr} (h : a ∈ frzF is fps i) : i ∉ is ∧ a ∈ fps i := by
  unfold frzF at h
  by_cases q : i ∈ is
  · rw [if_pos q] at h; cases h
  · rw [if_neg q] at h; exact ⟨q, h⟩
theorem SR.frz (S : SR K ok0 env fps σ H) : SR K ok0 (frzV is env) (frzF is fps) σ H where
  len := by rw [frzV_len]; exact S.len
  at_ := fun i pv e => by
    rw [frzV_at] at e
    have w : ∀ a, okS ok0 fps a → okS ok0 (frzF is fps) a := fun a z => ⟨z.1, fun j hj => z.2 j (frzF_sub hj).2⟩
    by_cases q : i ∈ is
    · rw [if_pos q] at e
      have e0 : frzF is fps i = [] := by unfold frzF; rw [if_pos q]
      rw [e0]
      cases q2 : env[i]? with
      | none => rw [q2] at e; cases e
      | some o =>
        cases o with
        | none => rw [q2] at e; cases e
        | some v =>
          rw [q2] at e
          cases e
          obtain ⟨u, h1, h2⟩ := S.at_ i v q2
          exact ⟨u, h1, h2.frz w fun a z => okE_S S.dj ⟨(S.own i a z).1, .inr ⟨i, q, z⟩⟩⟩
    · rw [if_neg q] at e
      have e0 : frzF is fps i = fps i := by unfold frzF; rw [if_neg q]
      rw [e0]
      obtain ⟨u, h1, h2⟩ := S.at_ i pv e
      exact ⟨u, h1, h2.imp w⟩
  nd := fun i => by
    unfold frzF
    split
    · exact .nil
    · exact S.nd i
  dj := fun i j a h1 h2 => S.dj i j a (frzF_sub h1).2 (frzF_sub h2).2
  own := fun i a z => S.own i a (frzF_sub z).2
  fr := S.fr
/-- a new thing's cells are none of these -/
theorem SR.avoid {fp : List Addr} (S : SR K ok0 env fps σ H) (s : Same H H1) (f : ∀ a ∈ fp, H a = none) (d : ∀ a ∈ fp, ∃ u, H1 a = some u ∧ isMu u = true) : SR K (okn ok0 fp) env fps σ H1 where
  len := S.len
  at_ := fun i pv e => by
    obtain ⟨v, h1, h2⟩ := S.at_ i pv e
    exact ⟨v, h1, (h2.inD.imp fun a z => ⟨⟨z.1.1, fun hf => by
      obtain ⟨u, q⟩ := z.2
      rw [f a hf] at q
      cases q⟩, z.1.2⟩).same s⟩
  nd := S.nd
  dj := S.dj
  own := fun i a z => by
    obtain ⟨o, u, h1, h2⟩ := S.own i a z
    exact ⟨⟨o, fun hf => by rw [f a hf] at h1; cases h1⟩, u, s a u h1, h2⟩
  fr := fun a z => ⟨S.fr a (s.free z), fun hf => by
    obtain ⟨u, q, _⟩ := d a hf
    rw [z] at q
    cases q⟩
/-- several things told: what of the names' things stays one's own -/
theorem SR.aft {xs : List PV} {vs : List V} {fp : List Addr} (S : SR K ok0 env fps σ H) (s : Same H H1) (r : Rps K H1 (okn (okE ok0 fps is) fp) xs vs fp) (f : ∀ a ∈ fp, H a = none) :
    ∃ fps2, SR K (okn ok0 fp) (aft (.tup xs) is env) fps2 σ H1 ∧ Rps K H1 (okn (okS ok0 fps2) fp) xs vs fp ∧ (∀ i a, a ∈ fps2 i → a ∈ fps i) := by
  have d := r.dom
  cases c : clss xs with
  | true =>
    have e : BW.aft (.tup xs) is env = env := by
      unfold BW.aft
      rw [if_pos (show cls (.tup xs) = true from c)]
    rw [e]
    exact ⟨fps, S.avoid s f d, r.free c, fun _ _ z => z⟩
  | false =>
    have e : BW.aft (.tup xs) is env = frzV is env := by
      unfold BW.aft
      rw [if_neg (show ¬ cls (.tup xs) = true by rw [show cls (.tup xs) = clss xs from rfl, c]; decide)]
    rw [e]
    exact ⟨frzF is fps, S.frz.avoid s f d, r.imp fun a z => ⟨okE_S S.dj z.1, z.2⟩, fun i a z => (frzF_sub z).2⟩
theorem SR.aft1 {x : PV} {v : V} {fp : List Addr} (S : SR K ok0 env fps σ H) (s : Same H H1) (r : Rp K H1 (okn (okE ok0 fps is) fp) x v fp) (f : ∀ a ∈ fp, H a = none) :
    ∃ fps2, SR K (okn ok0 fp) (BW.aft x is env) fps2 σ H1 ∧ Rp K H1 (okn (okS ok0 fps2) fp) x v fp ∧ (∀ i a, a ∈ fps2 i → a ∈ fps i) := by
  have d := r.dom
  cases c : cls x with
  | true =>
    have e : BW.aft x is env = env := by
      unfold BW.aft
      rw [if_pos c]
    rw [e]
    exact ⟨fps, S.avoid s f d, r.free c, fun _ _ z => z⟩
  | false =>
    have e : BW.aft x is env = frzV is env := by
      unfold BW.aft
      rw [if_neg (by rw [c]; decide)]
    rw [e]
    exact ⟨frzF is fps, S.frz.avoid s f d, r.imp fun a z => ⟨okE_S S.dj z.1, z.2⟩, fun i a z => (frzF_sub z).2⟩
theorem updF_in {i j : Nat} {fp : List Addr} {a : Addr} (h : a ∈ updF fps i fp j) : (j = i ∧ a ∈ fp) ∨ (j ≠ i ∧ a ∈ fps j) := by
  unfold updF at h
  by_cases q : j = i
  · rw [if_pos q] at h; exact .inl ⟨q, h⟩
  · rw [if_neg q] at h; exact .inr ⟨q, h⟩
/-- a name is set -/
theorem SR.set {x : PV} {v : V} {fp fq : List Addr} {i : Nat} (S : SR K (okn ok0 (fp ++ fq)) env fps σ H) (r : Rp K H (okn (okS ok0 fps) (fp ++ fq)) x v fp) (nd : fp.Nodup) (dq : ∀ a ∈ fp, a ∉ fq) (f : ∀ a ∈ fp, ok0 a ∧ ∀ j, a ∉ fps j) :
    SR K (okn ok0 fq) (env.set i (some x)) (updF fps i fp) (σ.set i (some v)) H where
  len := by rw [List.length_set, List.length_set]; exact S.len
  at_ := fun j pv e => by
    by_cases q : i = j
    · subst q
      have hl : i < env.length := by
        have z := (List.getElem?_eq_some_iff.mp e).1
        rwa [List.length_set] at z
      rw [List.getElem?_set_self hl] at e
      cases e
      refine ⟨v, List.getElem?_set_self (by rw [← S.len]; exact hl), ?_⟩
      have e0 : updF fps i fp i = fp := by unfold updF; rw [if_pos rfl]
      rw [e0]
      refine r.imp fun a z => ⟨⟨z.1.1, fun hf => z.2 (List.mem_append_right _ hf)⟩, fun k hk => ?_⟩
      rcases updF_in hk with ⟨_, hk⟩ | ⟨_, hk⟩
      · exact z.2 (List.mem_append_left _ hk)
      · exact z.1.2 k hk
    · rw [List.getElem?_set_ne q] at e
      obtain ⟨w, h1, h2⟩ := S.at_ j pv e
      have e0 : updF fps i fp j = fps j := by unfold updF; rw [if_neg (Ne.symm q)]
      rw [e0]
      refine ⟨w, by rw [List.getElem?_set_ne q]; exact h1, h2.imp fun a z => ⟨⟨z.1.1, fun hf => z.1.2 (List.mem_append_right _ hf)⟩, fun k hk => ?_⟩⟩
      rcases updF_in hk with ⟨_, hk⟩ | ⟨_, hk⟩
      · exact z.1.2 (List.mem_append_left _ hk)
      · exact z.2 k hk
  nd := fun j => by
    unfold updF
    split
    · exact nd
    · exact S.nd j
  dj := fun j k a h1 h2 => by
    rcases updF_in h1 with ⟨e1, h1⟩ | ⟨e1, h1⟩ <;> rcases updF_in h2 with ⟨e2, h2⟩ | ⟨e2, h2⟩
    · rw [e1, e2]
    · exact absurd h2 ((f a h1).2 k)
    · exact absurd h1 ((f a h2).2 j)
    · exact S.dj j k a h1 h2
  own := fun j a h1 => by
    rcases updF_in h1 with ⟨e1, h1⟩ | ⟨e1, h1⟩
    · exact ⟨⟨(f a h1).1, dq a h1⟩, r.dom a h1⟩
    · obtain ⟨o, u, q1, q2⟩ := S.own j a h1
      exact ⟨⟨o.1, fun hf => o.2 (List.mem_append_right _ hf)⟩, u, q1, q2⟩
  fr := fun a z => ⟨(S.fr a z).1, fun hf => (S.fr a z).2 (List.mem_append_right _ hf)⟩
theorem SR.okn_nil (S : SR K (okn ok0 []) env fps σ H) : SR K ok0 env fps σ H where
  len := S.len
  at_ := fun i pv e => let ⟨v, h1, h2⟩ := S.at_ i pv e; ⟨v, h1, h2.imp fun a z => ⟨z.1.1, z.2⟩⟩
  nd := S.nd
  dj := S.dj
  own := fun i a z => let ⟨o, q⟩ := S.own i a z; ⟨o.1, q⟩
  fr := fun a z => (S.fr a z).1
theorem SR.set1 {x : PV} {v : V} {fp : List Addr} {i : Nat} (S : SR K (okn ok0 fp) env fps σ H) (r : Rp K H (okn (okS ok0 fps) fp) x v fp) (nd : fp.Nodup) (f : ∀ a ∈ fp, ok0 a ∧ ∀ j, a ∉ fps j) :
    SR K ok0 (env.set i (some x)) (updF fps i fp) (σ.set i (some v)) H := by
  have q := SR.set (fq := []) (i := i) (by rw [List.append_nil]; exact S) (by rw [List.append_nil]; exact r) nd (fun _ _ z => nomatch z) f
  exact q.okn_nil
/-- several names are set -/
theorem SR.sets : ∀ {t : List Nat} {xs : List PV} {vs : List V} {fp : List Addr} {env : PEnv} {fps : Fps} {σ : L2.St}, SR K (okn ok0 fp) env fps σ H → Rps K H (okn (okS ok0 fps) fp) xs vs fp → fp.Nodup → (∀ a ∈ fp, ok0 a ∧ ∀ j, a ∉ fps j) → xs.length = t.length →
    ∃ fps', SR K ok0 (setP env (t.zip xs)) fps' (setV σ (t.zip vs)) H ∧ ∀ i a, a ∈ fps' i → (∃ j, a ∈ fps j) ∨ a ∈ fp
  | [], xs, vs, fp, env, fps, σ, S, r, nd, f, hl => by
    match xs, hl with
    | [], _ =>
      cases r
      exact ⟨fps, S.okn_nil, fun i a z => .inl ⟨i, z⟩⟩
  | i :: t, xs, vs, fp, env, fps, σ, S, r, nd, f, hl => by
    match xs, hl with
    | x :: xs, hl =>
      obtain ⟨v, vs', f1, f2, ev, ef, r1, r2⟩ := r.inv
      subst ev ef
      obtain ⟨n1, n2, n3⟩ := List.nodup_append.mp nd
      have d12 : ∀ a ∈ f1, a ∉ f2 := fun a z z2 => n3 a z a z2 rfl
      have S1 := SR.set (i := i) S r1 n1 d12 fun a z => f a (List.mem_append_left _ z)
      obtain ⟨fps', S2, q⟩ := SR.sets (t := t) (xs := xs) (vs := vs') S1 (r2.imp fun a z => ⟨⟨z.1.1, fun k hk => by
        rcases updF_in hk with ⟨_, hk⟩ | ⟨_, hk⟩
        · exact z.2 (List.mem_append_left _ hk)
        · exact z.1.2 k hk⟩, fun hf => z.2 (List.mem_append_right _ hf)⟩) n2 (fun a z => ⟨(f a (List.mem_append_right _ z)).1, fun k hk => by
        rcases updF_in hk with ⟨_, hk⟩ | ⟨_, hk⟩
        · exact d12 a hk z
        · exact (f a (List.mem_append_right _ z)).2 k hk⟩) (by simpa using hl)
      refine ⟨fps', S2, fun k a z => ?_⟩
      rcases q k a z with ⟨j, q⟩ | q
      · rcases updF_in q with ⟨_, q⟩ | ⟨_, q⟩
        · exact .inr (List.mem_append_left _ q)
        · exact .inl ⟨j, q⟩
      · exact .inr (List.mem_append_right _ q)
/-- binding a thing -/
theorem SR.bind {t : List Nat} {x : PV} {v : V} {fp : List Addr} {Q : L2.St → Hp → Prop} (S : SR K (okn ok0 fp) env fps σ H) (r : Rp K H (okn (okS ok0 fps) fp) x v fp) (nd : fp.Nodup) (f : ∀ a ∈ fp, ok0 a ∧ ∀ j, a ∉ fps j) (e : bindT t x env = .ok env')
    (k : ∀ σ' fps', SR K ok0 env' fps' σ' H → (∀ i a, a ∈ fps' i → (∃ j, a ∈ fps j) ∨ a ∈ fp) → Q σ' H) : tG K t v σ H Q := by
  have one : ∀ i, t = [i] → tG K t v σ H Q := fun i ht => by
    subst ht
    cases e
    exact k _ _ (S.set1 r nd f) fun j a z => by
      rcases updF_in z with ⟨_, z⟩ | ⟨_, z⟩
      · exact .inr z
      · exact .inl ⟨j, z⟩
  have many : (∀ i, t ≠ [i]) → tG K t v σ H Q := fun ht => by
    have e1 : tG K t = gTup K t.length (gNs t) := by
      unfold tG
      split
      · rename_i i
        exact absurd rfl (ht i)
      · rfl
    have e2 : (match x with | .tup xs => if xs.length = t.length then Res.ok (setP env (t.zip xs)) else .bad | _ => .bad) = .ok env' := by
      unfold bindT at e
      split at e
      · rename_i i
        exact absurd rfl (ht i)
      · exact e
    rw [e1]
    cases r with
    | tup hs rs =>
      rename_i a xs vs
      by_cases hl : xs.length = t.length
      · have e2 : (if xs.length = t.length then Res.ok (setP env (t.zip xs)) else .bad) = .ok env' := e2
        rw [if_pos hl] at e2
        cases e2
        have hl2 : vs.length = t.length := by rw [← rs.len]; exact hl
        obtain ⟨fps', S', q⟩ := S.sets rs nd f hl
        exact ⟨a, vs, rfl, hs, hl2, gNs_run hl2 (k _ _ S' q)⟩
      · have e2 : (if xs.length = t.length then Res.ok (setP env (t.zip xs)) else .bad) = .ok env' := e2
        rw [if_neg hl] at e2
        cases e2
    | _ => cases e2
  match t with
  | [i] => exact one i rfl
  | [] => exact many fun i z => nomatch z
  | _ :: _ :: _ => exact many fun i z => by simp at z
/-- a list of one's own is changed -/
theorem SR.mut {xs ys : List PV} {us us' : List V} {a : Addr} {fq fq' fp : List Addr} {i : Nat} (S : SR K (okn ok0 fp) env fps σ H) (he : env[i]? = some (some (.lst true xs))) (hf : fps i = a :: fq) (hH : H a = some (.lst us))
    (r : Rps K H (okn (okS ok0 fps) fq') ys us' fq') (nd : fq'.Nodup) (sub : ∀ b ∈ fq', b ∈ fq ∨ b ∈ fp) (hp : ∀ b ∈ fp, ok0 b ∧ ∀ j, b ∉ fps j) (hσ : σ[i]? = some (some (.ref a))) :
    SR K ok0 (env.set i (some (.lst true ys))) (updF fps i (a :: fq')) σ (upd H a (.lst us')) := by
  have hl : i < env.length := (List.getElem?_eq_some_iff.mp he).1
  have nda := S.nd i
  rw [hf] at nda
  have naq : a ∉ fq := (List.nodup_cons.mp nda).1
  have nap : a ∉ fp := fun z => (hp a z).2 i (by rw [hf]; exact List.mem_cons_self)
  have naq' : a ∉ fq' := fun z => (sub a z).elim naq nap
  have kp : ∀ b o, H b = some o → ¬ b = a → upd H a (.lst us') b = some o := fun b o e n => by rw [upd_ne n]; exact e
  have km : ∀ b, b = a → ∃ u, H b = some u ∧ isMu u = true := fun b e => ⟨.lst us, by rw [e]; exact hH, rfl⟩
  refine ⟨by rw [List.length_set]; exact S.len, fun j pv e => ?_, fun j => ?_, fun j k b h1 h2 => ?_, fun j b h1 => ?_, fun b z => ?_⟩
  · by_cases q : i = j
    · subst q
      rw [List.getElem?_set_self hl] at e
      cases e
      have e0 : updF fps i (a :: fq') i = a :: fq' := by unfold updF; rw [if_pos rfl]
      rw [e0]
      refine ⟨_, hσ, .lstO upd_same (r.keep (M := fun b => b = a) kp km (fun b z => ?_) (fun b z e => ?_) fun b z e => ?_)⟩
      · refine ⟨z.1.1, fun k hk => ?_⟩
        rcases updF_in hk with ⟨_, hk⟩ | ⟨_, hk⟩
        · rcases List.mem_cons.mp hk with e | hk
          · exact z.1.2 i (by rw [hf, e]; exact List.mem_cons_self)
          · exact z.2 hk
        · exact z.1.2 k hk
      · exact z.1.2 i (by rw [hf, e]; exact List.mem_cons_self)
      · rw [e] at z; exact naq' z
    · rw [List.getElem?_set_ne q] at e
      obtain ⟨w, h1, h2⟩ := S.at_ j pv e
      have e0 : updF fps i (a :: fq') j = fps j := by unfold updF; rw [if_neg (Ne.symm q)]
      rw [e0]
      refine ⟨w, h1, h2.keep (M := fun b => b = a) kp km (fun b z => ?_) (fun b z e => ?_) fun b z e => ?_⟩
      · refine ⟨z.1.1, fun k hk => ?_⟩
        rcases updF_in hk with ⟨_, hk⟩ | ⟨_, hk⟩
        · rcases List.mem_cons.mp hk with e | hk
          · exact z.2 i (by rw [hf, e]; exact List.mem_cons_self)
          · rcases sub b hk with hk | hk
            · exact z.2 i (by rw [hf]; exact List.mem_cons_of_mem _ hk)
            · exact z.1.2 hk
        · exact z.2 k hk
      · exact z.2 i (by rw [hf, e]; exact List.mem_cons_self)
      · rw [e] at z
        exact q (S.dj i j a (by rw [hf]; exact List.mem_cons_self) z)
  · unfold updF
    split
    · exact List.nodup_cons.mpr ⟨naq', nd⟩
    · exact S.nd j
  · have key : ∀ k, k ≠ i → b ∈ fps k → b ∉ a :: fq' := fun k hk hb z => by
      rcases List.mem_cons.mp z with e | z
      · exact hk (S.dj k i b hb (by rw [hf, e]; exact List.mem_cons_self))
      · rcases sub b z with z | z
        · exact hk (S.dj k i b hb (by rw [hf]; exact List.mem_cons_of_mem _ z))
        · exact (hp b z).2 k hb
    rcases updF_in h1 with ⟨e1, h1⟩ | ⟨e1, h1⟩ <;> rcases updF_in h2 with ⟨e2, h2⟩ | ⟨e2, h2⟩
    · rw [e1, e2]
    · exact absurd h1 (key k e2 h2)
    · exact absurd h2 (key j e1 h1)
    · exact S.dj j k b h1 h2
  · have up : ∀ u, H b = some u → isMu u = true → ∃ u, upd H a (.lst us') b = some u ∧ isMu u = true := fun u e m => by
      by_cases q : b = a
      · exact ⟨.lst us', by rw [q]; exact upd_same, rfl⟩
      · exact ⟨u, by rw [upd_ne q]; exact e, m⟩
    rcases updF_in h1 with ⟨e1, h1⟩ | ⟨e1, h1⟩
    · rcases List.mem_cons.mp h1 with e | h1
      · obtain ⟨o, _⟩ := S.own i a (by rw [hf]; exact List.mem_cons_self)
        exact ⟨by rw [e]; exact o.1, .lst us', by rw [e]; exact upd_same, rfl⟩
      · obtain ⟨u, q1, q2⟩ := r.dom b h1
        refine ⟨?_, up u q1 q2⟩
        rcases sub b h1 with z | z
        · exact (S.own i b (by rw [hf]; exact List.mem_cons_of_mem _ z)).1.1
        · exact (hp b z).1
    · obtain ⟨o, u, q1, q2⟩ := S.own j b h1
      exact ⟨o.1, up u q1 q2⟩
  · by_cases q : b = a
    · rw [q, upd_same] at z; cases z
    · rw [upd_ne q] at z
      exact (S.fr b z).1
end
end BW

/-! Statements do what the little language says. -/
namespace BW
open PySem PySem.Spec L2

def SQ (K : PySem.W.Frag) (ok0 : Addr → Prop) (fps : Fps) (H : Hp) (D : L2.St → Hp → Prop) (env : PEnv) : Prop := ∀ σ' H' fps', SR K ok0 env fps' σ' H' → Stp fps H fps' H' → D σ' H'
def PostS (K : PySem.W.Frag) (ca : Nat → Addr) (W : WX) (ok0 : Addr → Prop) (fps : Fps) (H : Hp) (D : Ends) : RS → Prop
  | .fl (.next env) => SQ K ok0 fps H D.nx env
  | .fl (.brk env) => SQ K ok0 fps H D.bk env
  | .fl (.cont env) => SQ K ok0 fps H D.ct env
  | .fl (.ret x) => ∀ H' v fp fps', Rp K H' (okn ok0 fp) x v fp → fp.Nodup → (∀ a ∈ fp, (∃ j, a ∈ fps j) ∨ H a = none) → Stp fps H fps' H' → D.rt v H'
  | .exc c env => ∀ d, SQ K ok0 fps H (fun σ' H' => W (.ref (ca c)) d σ' H') env
  | .bad => False
def tS (K : PySem.W.Frag) (ca : Nat → Addr) (cl : Cl) (w : Nat) (W : WX) (s : Sm) : TS := fun D σ H => ∃ ok0 env fps, SR K ok0 env fps σ H ∧ PostS K ca W ok0 fps H D (evS cl w env s)
def tSs (K : PySem.W.Frag) (ca : Nat → Addr) (cl : Cl) (w : Nat) (W : WX) (s : Sms) : TS := fun D σ H => ∃ ok0 env fps, SR K ok0 env fps σ H ∧ PostS K ca W ok0 fps H D (evSs cl w env s)
section
variable {K : PySem.W.Frag} {ca : Nat → Addr} {W : WX} {ok0 : Addr → Prop} {fps fps' : Fps} {H H' : Hp} {D D' : Ends} {env : PEnv} {σ : L2.St}
theorem PostS.mono {r : RS} (s : Stp fps H fps' H') (h : PostS K ca W ok0 fps H D r) : PostS K ca W ok0 fps' H' D r := by
  cases r with
  | fl f =>
    cases f with
    | ret x => exact fun H2 v fp f2 r n o q => h H2 v fp f2 r n (fun a z => (o a z).elim (fun ⟨j, z⟩ => s.own j a z) fun z => .inr (s.dom a z)) (s.trans q)
    | _ => exact fun σ2 H2 f2 S q => h σ2 H2 f2 S (s.trans q)
  | exc c env => exact fun d σ2 H2 f2 S q => h d σ2 H2 f2 S (s.trans q)
  | bad => exact h
theorem Stp.same (s : Same H H') : Stp fps H fps H' := Stp.of s fun i a z => .inl ⟨i, z⟩
/-- a value is wanted -/
theorem PostS.ofv {α : Type} {r : Res α} {f : α → RS} {x : α} (h : PostS K ca W ok0 fps H D (RS.of r env f)) (e : r = .ok x) : PostS K ca W ok0 fps H D (f x) := by
  subst e
  exact h
theorem PostS.post {r : Res PV} {f : PV → RS} {ok : Addr → Prop} {Q : VK} (S : SR K ok0 env fps σ H) (h : PostS K ca W ok0 fps H D (RS.of r env f)) (k : ∀ x H' v fp, r = .ok x → Same H H' → Rp K H' (okn ok fp) x v fp → (∀ a ∈ fp, H a = none) → fp.Nodup → PostS K ca W ok0 fps H D (f x) → Q v H') :
    Post K ca (WE W σ) ok H Q r := by
  cases r with
  | ok x => exact fun H' v fp s r f n => k x H' v fp rfl s r f n h
  | exc c => exact fun d H' s => h d σ H' fps (S.same s) (Stp.same s)
  | bad => exact h
theorem PostS.posta {r : Res (List PV)} {f : List PV → RS} {ok : Addr → Prop} {Q : List V → Hp → Prop} (S : SR K ok0 env fps σ H) (h : PostS K ca W ok0 fps H D (RS.of r env f)) (k : ∀ x H' v fp, r = .ok x → Same H H' → Rps K H' (okn ok fp) x v fp → (∀ a ∈ fp, H a = none) → fp.Nodup → PostS K ca W ok0 fps H D (f x) → Q v H') :
    PostA K ca (WE W σ) ok H Q r := by
  cases r with
  | ok x => exact fun H' v fp s r f n => k x H' v fp rfl s r f n h
  | exc c => exact fun d H' s => h d σ H' fps (S.same s) (Stp.same s)
  | bad => exact h
theorem PostS.postp {α : Type} {r : Res α} {f : α → RS} {Q : α → Hp → Prop} (S : SR K ok0 env fps σ H) (h : PostS K ca W ok0 fps H D (RS.of r env f)) (k : ∀ x H', r = .ok x → Same H H' → PostS K ca W ok0 fps H D (f x) → Q x H') :
    PostP ca (WE W σ) H Q r := by
  cases r with
  | ok x => exact fun H' s => k x H' rfl s h
  | exc c => exact fun d H' s => h d σ H' fps (S.same s) (Stp.same s)
  | bad => exact h
theorem bindT_ne {t : List Nat} {v : PV} {env : PEnv} {c : Nat} : bindT t v env ≠ .exc c := fun h => by
  unfold bindT at h
  split at h
  · cases h
  · split at h
    · split at h <;> cases h
    · cases h
end
theorem PS.imp {X : Cx} {e : Stmt} {t t' : TS} (h : PS X e t) (k : ∀ D σ H, t' D σ H → t D σ H) : PS X e t' := ⟨fun pins s σ H D I q => h.run pins s σ H D I (k D σ H q)⟩
theorem PSs.imp {X : Cx} {e : List Stmt} {t t' : TS} (h : PSs X e t) (k : ∀ D σ H, t' D σ H → t D σ H) : PSs X e t' := ⟨fun pins s σ H D I q => h.run pins s σ H D I (k D σ H q)⟩
section
variable {X : Cx} {ca fa : Nat → Addr} {cl : Cl} {W : WX} {tc : Tc} {n w : Nat}
/-- a thing bound -/
theorem asg_imp {t : List Nat} {e : Ex} {D : Ends} {σ : L2.St} {H : Hp} (h : tS X.K ca cl w W (.asg t e) D σ H) : tE X.K ca cl W e σ H fun x H1 => tG X.K t x σ H1 D.nx := by
  obtain ⟨ok0, env, fps, S, hm⟩ := h
  refine ⟨env, okE ok0 fps (vE e), S.ein, S.frE, PostS.post (f := fun v => RS.of (bindT t v (aft v (vE e) env)) env fun env1 => .fl (.next env1)) S hm fun x H1 v fp e1 s1 r1 f1 n1 q1 => ?_⟩
  obtain ⟨fps2, S2, r2, sub⟩ := S.aft1 s1 r1 f1
  cases eb : bindT t x (aft x (vE e) env) with
  | ok env1 =>
    rw [eb] at q1
    refine S2.bind r2 n1 (fun a z => ⟨S.fr a (f1 a z), fun j hj => ?_⟩) eb fun σ' fps' S' own => q1 σ' H1 fps' S' (Stp.of s1 fun i a z => ?_)
    · obtain ⟨_, u, hu, _⟩ := S.own j a (sub j a hj)
      rw [f1 a z] at hu
      cases hu
    · rcases own i a z with ⟨j, z⟩ | z
      · exact .inl ⟨j, sub j a z⟩
      · exact .inr (f1 a z)
  | exc c => exact absurd eb bindT_ne
  | bad => rw [eb] at q1; exact q1.elim
/-- not a comprehension's display -/
def noLc : Expr → Bool
  | .ListComp _ _ _ _ => false
  | .SetComp _ _ _ _ => false
  | .DictComp _ _ _ _ _ => false
  | _ => true
def noTup : Expr → Bool
  | .Tuple _ _ _ => false
  | _ => true
theorem sw_no {e : Expr} {t : Option Expr} {l : Nat} {env : Env} (h : noLc e = true) : swapsWith e t l env = pure false := by
  cases e <;> first | rfl | cases h
theorem ss_no {e : Expr} {ts : List Expr} {k : Nat} {p : Pos} {env : Env} (h : noTup e = true) : swappedStores [.Tuple ts k p] e env = pure none := by
  cases e <;> first | rfl | cases h
theorem s_exps {e : Ex} {py : Expr} {pos : Pos} (h : SndE X ca cl W e py) (hn : noLc py = true) : PS X (.Expr py pos) (tS X.K ca cl w W (.ex e)) := by
  refine PS.imp (ps_expr h.pe (sw_no hn)) fun D σ H hq => ?_
  obtain ⟨ok0, env, fps, S, hm⟩ := hq
  exact ⟨env, okE ok0 fps (vE e), S.ein, S.frE, PostS.post (f := fun _ => .fl (.next env)) S hm fun x H1 v fp e1 s1 r1 f1 n1 q1 => q1 σ H1 fps (S.same s1) (Stp.same s1)⟩
theorem s_if {c : Ex} {a b : Sms} {py : Expr} {pa pb : List Stmt} {pos : Pos} (h : SndE X ca cl W c py) (ha : PSs X pa (tSs X.K ca cl w W a)) (hb : PSs X pb (tSs X.K ca cl w W b)) : PS X (.If py pa pb pos) (tS X.K ca cl w W (.ifs c a b)) := by
  refine PS.imp (ps_if h.pt ha hb) fun D σ H hq => ?_
  obtain ⟨ok0, env, fps, S, hm⟩ := hq
  refine ⟨env, okE ok0 fps (vE c), S.ein, S.frE, PostS.postp (f := fun k => if k = true then evSs cl w env a else evSs cl w env b) S hm fun k H1 e1 s1 q1 => ?_⟩
  cases k with
  | true => exact ⟨ok0, env, fps, S.same s1, PostS.mono (Stp.same s1) q1⟩
  | false => exact ⟨ok0, env, fps, S.same s1, PostS.mono (Stp.same s1) q1⟩
theorem s_nil : PSs X [] (tSs X.K ca cl w W .nil) := PSs.imp pss_nil fun D σ H ⟨ok0, env, fps, S, hm⟩ => hm σ H fps S (Stp.same (Same.refl _))
theorem s_cons {s : Sm} {ss : Sms} {py : Stmt} {pys : List Stmt} (h : PS X py (tS X.K ca cl w W s)) (hs : PSs X pys (tSs X.K ca cl w W ss)) : PSs X (py :: pys) (tSs X.K ca cl w W (.cons s ss)) := by
  refine PSs.imp (pss_cons h hs) fun D σ H hq => ?_
  obtain ⟨ok0, env, fps, S, hm⟩ := hq
  refine ⟨ok0, env, fps, S, ?_⟩
  replace hm : PostS X.K ca W ok0 fps H D ((evS cl w env s).seq fun env1 => evSs cl w env1 ss) := hm
  cases e : evS cl w env s with
  | fl f =>
    rw [e] at hm
    cases f with
    | next env1 => exact fun σ' H' fps' S' st => ⟨ok0, env1, fps', S', PostS.mono st hm⟩
    | _ => exact hm
  | exc c env1 => rw [e] at hm; exact hm
  | bad => rw [e] at hm; exact hm
theorem s_brk {pos : Pos} : PS X (.Break pos) (tS X.K ca cl w W .brk) := PS.imp ps_break fun D σ H ⟨ok0, env, fps, S, hm⟩ => hm σ H fps S (Stp.same (Same.refl _))
theorem s_cont {pos : Pos} : PS X (.Continue pos) (tS X.K ca cl w W .cont) := PS.imp ps_continue fun D σ H ⟨ok0, env, fps, S, hm⟩ => hm σ H fps S (Stp.same (Same.refl _))
theorem s_pass {pos : Pos} : PS X (.Pass pos) (tS X.K ca cl w W .pass) := PS.imp ps_pass fun D σ H ⟨ok0, env, fps, S, hm⟩ => hm σ H fps S (Stp.same (Same.refl _))
theorem s_whl {c : Ex} {b : Sms} {py : Expr} {pb : List Stmt} {pos : Pos} (hp : PassesOwn (model X.prog X.w) X.A X.env X.xe) (h : SndE X ca cl W c py) (hb : PSs X pb (tSs X.K ca cl w W b)) : PS X (.While py pb [] pos) (tS X.K ca cl w W (.whl c b)) := by
  refine PS.imp (ps_while hp h.pt hb) fun D σ H hq => ?_
  obtain ⟨ok0, env, fps, S, hm⟩ := hq
  replace hm : PostS X.K ca W ok0 fps H D (whlL (fun env => (evE cl env c).bind asB) (fun env => evSs cl w env b) w env) := hm
  refine ⟨fun m σ1 H1 => ∃ env1 fps1, SR X.K ok0 env1 fps1 σ1 H1 ∧ PostS X.K ca W ok0 fps1 H1 D (whlL (fun env => (evE cl env c).bind asB) (fun env => evSs cl w env b) m env1), ⟨w, env, fps, S, hm⟩, ?_⟩
  rintro m σ1 H1 ⟨env1, fps1, S1, h1⟩
  cases m with
  | zero => exact h1.elim
  | succ m =>
    refine ⟨env1, okE ok0 fps1 (vE c), S1.ein, S1.frE, PostS.postp S1 h1 fun k H2 e2 s2 q2 => ?_⟩
    cases k with
    | false => exact q2 σ1 H2 fps1 (S1.same s2) (Stp.same s2)
    | true =>
      rw [if_pos rfl] at q2 ⊢
      replace q2 := PostS.mono (Stp.same s2) q2
      refine ⟨fun σ' H' => ∃ env1 fps1, SR X.K ok0 env1 fps1 σ' H' ∧ PostS X.K ca W ok0 fps1 H' D (whlL (fun env => (evE cl env c).bind asB) (fun env => evSs cl w env b) m env1), fun σ' H' z => ⟨m, Nat.lt_succ_self m, z⟩, ok0, env1, fps1, S1.same s2, ?_⟩
      cases e : evSs cl w env1 b with
      | fl f =>
        simp only [e] at q2
        cases f with
        | next env2 => exact fun σ' H' fps' S' st => ⟨env2, fps', S', PostS.mono st q2⟩
        | cont env2 => exact fun σ' H' fps' S' st => ⟨env2, fps', S', PostS.mono st q2⟩
        | brk env2 => exact q2
        | ret x => exact q2
      | exc c env2 => simp only [e] at q2; exact q2
      | bad => simp only [e] at q2; exact q2
end
end BW

namespace BW
open PySem PySem.Spec L2
section
variable {X : Cx} {ca fa : Nat → Addr} {cl : Cl} {W : WX} {tc : Tc} {n w : Nat}
/-! ### for -/
theorem SR.aftI {K : PySem.W.Frag} {ok0 : Addr → Prop} {env : PEnv} {fps : Fps} {σ : L2.St} {H H1 : Hp} {is : List Nat} {x : PV} {okx : Addr → Prop} (S : SR K ok0 env fps σ H) (s : Same H H1) (h : ∀ a, okx a → (H a = none ∨ (cls x = false ∧ okE ok0 fps is a)) ∧ ∃ u, H1 a = some u) :
    ∃ fps2, SR K ok0 (BW.aft x is env) fps2 σ H1 ∧ (∀ a, okx a → okS ok0 fps2 a) ∧ (∀ i a, a ∈ fps2 i → a ∈ fps i) := by
  have fr : ∀ a, H a = none → okS ok0 fps a := fun a z => ⟨S.fr a z, fun i hi => by
    obtain ⟨_, u, hu, _⟩ := S.own i a hi
    rw [z] at hu
    cases hu⟩
  cases c : cls x with
  | true =>
    have e : BW.aft x is env = env := by
      unfold BW.aft
      rw [if_pos c]
    rw [e]
    refine ⟨fps, S.same s, fun a z => ?_, fun _ _ z => z⟩
    rcases (h a z).1 with q | q
    · exact fr a q
    · rw [c] at q; cases q.1
  | false =>
    have e : BW.aft x is env = frzV is env := by
      unfold BW.aft
      rw [if_neg (by rw [c]; decide)]
    rw [e]
    refine ⟨frzF is fps, S.frz.same s, fun a z => ?_, fun i a z => (frzF_sub z).2⟩
    rcases (h a z).1 with q | q
    · exact ⟨(fr a q).1, fun i hi => (fr a q).2 i (frzF_sub hi).2⟩
    · exact okE_S S.dj q.2
theorem s_for {t : List Nat} {it : Iw} {b : Sms} {tg iter : Expr} {pb : List Stmt} {pos : Pos} (hp : PassesOwn (model X.prog X.w) X.A X.env X.xe) (hc : X.calm = true) (hi : PI X tg iter (tI X.K ca cl W it)) (hg : PG X tg (tG X.K t)) (hb : PSs X pb (tSs X.K ca cl w W b)) (hpl : plainX iter = true) :
    PS X (.For tg iter pb [] pos) (tS X.K ca cl w W (.for_ t it b)) := by
  refine PS.imp (ps_for hp hc hi hg hb (fold_of hpl)) fun D σ H hq => ?_
  obtain ⟨ok0, env, fps, S, hm⟩ := hq
  refine ⟨env, okE ok0 fps (vI it), S.ein, S.frE, ?_⟩
  replace hm : PostS X.K ca W ok0 fps H D (RS.of (evI cl env it) env fun hx => forL t (fun env => evSs cl w env b) hx.2 (aft hx.1 (vI it) env)) := hm
  cases e1 : evI cl env it with
  | exc c => rw [e1] at hm; exact fun d H' s => hm d σ H' fps (S.same s) (Stp.same s)
  | bad => rw [e1] at hm; exact hm.elim
  | ok p =>
    rw [e1] at hm
    replace hm : PostS X.K ca W ok0 fps H D (forL t (fun env => evSs cl w env b) p.2 (aft p.1 (vI it) env)) := hm
    intro J H1 okx s1 hokx wk
    obtain ⟨fps2, S2, hokS, sub⟩ := S.aftI s1 hokx
    have wk := wk (fun a => ∃ i, a ∈ fps2 i) (fun a z ⟨i, q⟩ => (hokS a z).2 i q) (fun a ⟨i, q⟩ => (S2.own i a q).2)
    have st0 : Stp fps H fps2 H1 := Stp.of s1 fun i a z => .inl ⟨i, sub i a z⟩
    have km : ∀ {fps' : Fps} {H' : Hp}, Stp fps2 H1 fps' H' → KeepM (fun a => ∃ i, a ∈ fps2 i) H1 H' := fun {fps' H'} st a o e n => st.keep a o e fun i z => n ⟨i, z⟩
    refine ⟨fun i m σ' H' => m = p.2.length - i ∧ i ≤ p.2.length ∧ ∃ env' fps', SR X.K ok0 env' fps' σ' H' ∧ Stp fps2 H1 fps' H' ∧ PostS X.K ca W ok0 fps' H' D (forL t (fun env => evSs cl w env b) (p.2.drop i) env'),
      ⟨_, rfl, Nat.zero_le _, _, fps2, S2, Stp.refl, PostS.mono st0 hm⟩, ?_⟩
    rintro i m σ' H' ⟨rfl, hle, env', fps', S', st', h'⟩
    by_cases hlt : i < p.2.length
    · refine .inr ⟨wk.go i H' (km st') hlt, fun σ' H' => p.2.length - (i + 1) = p.2.length - (i + 1) ∧ i + 1 ≤ p.2.length ∧ ∃ env' fps', SR X.K ok0 env' fps' σ' H' ∧ Stp fps2 H1 fps' H' ∧ PostS X.K ca W ok0 fps' H' D (forL t (fun env => evSs cl w env b) (p.2.drop (i + 1)) env'), fun σ' H' z => ⟨_, by omega, z⟩, fun x H2 hy => ?_⟩
      obtain ⟨s2, pv, ei, rx⟩ := wk.yld i H' x H2 (km st') hlt hy
      have ed : p.2.drop i = pv :: p.2.drop (i + 1) := by
        rw [List.drop_eq_getElem_cons hlt]
        rw [List.getElem?_eq_getElem hlt] at ei
        cases ei
        rfl
      rw [ed] at h'
      replace h' : PostS X.K ca W ok0 fps' H' D (RS.of (bindT t pv env') env' fun env1 => match evSs cl w env1 b with
        | .fl (.next env2) => forL t (fun env => evSs cl w env b) (p.2.drop (i + 1)) env2
        | .fl (.cont env2) => forL t (fun env => evSs cl w env b) (p.2.drop (i + 1)) env2
        | .fl (.brk env2) => .fl (.next env2)
        | .fl (.ret v) => .fl (.ret v)
        | .exc e env2 => .exc e env2
        | .bad => .bad) := h'
      cases eb : bindT t pv env' with
      | exc c => exact absurd eb bindT_ne
      | bad => rw [eb] at h'; exact h'.elim
      | ok env1 =>
        rw [eb] at h'
        have S3 := S'.same s2
        have S3' : SR X.K (okn ok0 []) env' fps' σ' H2 := ⟨S3.len, fun i pv e => let ⟨v, h1, h2⟩ := S3.at_ i pv e; ⟨v, h1, h2.imp fun a z => ⟨⟨z.1, fun z => nomatch z⟩, z.2⟩⟩, S3.nd, S3.dj, fun i a z => let ⟨o, q⟩ := S3.own i a z; ⟨⟨o, fun z => nomatch z⟩, q⟩, fun a z => ⟨S3.fr a z, fun z => nomatch z⟩⟩
        have st3 : Stp fps2 H1 fps' H2 := st'.trans (Stp.same s2)
        refine S3'.bind (rx.imp fun a z => ⟨⟨(hokS a z).1, fun j hj => ?_⟩, fun z => nomatch z⟩) .nil (fun a z => nomatch z) eb fun σ2 fps4 S4 own4 => ?_
        · rcases st'.own j a hj with ⟨k, q⟩ | q
          · exact (hokS a z).2 k q
          · obtain ⟨u, hu⟩ := (hokx a z).2
            rw [q] at hu
            cases hu
        · have st4 : Stp fps' H' fps4 H2 := Stp.of s2 fun j a z => (own4 j a z).imp (fun z => z) fun z => nomatch z
          have st5 := st'.trans st4
          replace h' := PostS.mono st4 h'
          refine ⟨ok0, env1, fps4, S4, ?_⟩
          cases e : evSs cl w env1 b with
          | fl f =>
            simp only [RS.of_ok, e] at h'
            cases f with
            | next env2 => exact fun σ3 H3 fps3 S5 st6 => ⟨rfl, hlt, env2, fps3, S5, st5.trans st6, PostS.mono st6 h'⟩
            | cont env2 => exact fun σ3 H3 fps3 S5 st6 => ⟨rfl, hlt, env2, fps3, S5, st5.trans st6, PostS.mono st6 h'⟩
            | brk env2 => exact h'
            | ret x => exact h'
          | exc c env2 => simp only [RS.of_ok, e] at h'; exact h'
          | bad => simp only [RS.of_ok, e] at h'; exact h'
    · have ei : i = p.2.length := by omega
      subst ei
      rw [List.drop_length] at h'
      exact .inl ⟨wk.stop _ H' (km st') (Nat.le_refl _), h' σ' H' fps' S' Stp.refl⟩

/-! ### return -/
theorem SR.move {K : PySem.W.Frag} {ok0 : Addr → Prop} {env : PEnv} {fps : Fps} {σ : L2.St} {H : Hp} {i : Nat} (S : SR K ok0 env fps σ H) : SR K (okn ok0 (fps i)) (env.set i none) (updF fps i []) σ H where
  len := by rw [List.length_set]; exact S.len
  at_ := fun j pv e => by
    by_cases q : i = j
    · subst q
      have hl : i < env.length := by
        have z := (List.getElem?_eq_some_iff.mp e).1
        rwa [List.length_set] at z
      rw [List.getElem?_set_self hl] at e
      cases e
    · rw [List.getElem?_set_ne q] at e
      obtain ⟨v, h1, h2⟩ := S.at_ j pv e
      have e0 : updF fps i [] j = fps j := by unfold updF; rw [if_neg (Ne.symm q)]
      rw [e0]
      exact ⟨v, h1, h2.imp fun a z => ⟨⟨z.1, z.2 i⟩, fun k hk => by
        rcases updF_in hk with ⟨_, hk⟩ | ⟨_, hk⟩
        · cases hk
        · exact z.2 k hk⟩⟩
  nd := fun j => by
    unfold updF
    split
    · exact .nil
    · exact S.nd j
  dj := fun j k a h1 h2 => by
    rcases updF_in h1 with ⟨_, h1⟩ | ⟨_, h1⟩
    · cases h1
    · rcases updF_in h2 with ⟨_, h2⟩ | ⟨_, h2⟩
      · cases h2
      · exact S.dj j k a h1 h2
  own := fun j a h1 => by
    rcases updF_in h1 with ⟨_, h1⟩ | ⟨ne, h1⟩
    · cases h1
    · obtain ⟨o, q⟩ := S.own j a h1
      exact ⟨⟨o, fun z => ne (S.dj j i a h1 z)⟩, q⟩
  fr := fun a z => ⟨S.fr a z, fun hi => by
    obtain ⟨_, u, hu, _⟩ := S.own i a hi
    rw [z] at hu
    cases hu⟩
def PostM (K : PySem.W.Frag) (ca : Nat → Addr) (E : XK) (ok0 : Addr → Prop) (fps : Fps) (σ : L2.St) (H : Hp) (Q : VK) : Res (PV × PEnv) → Prop
  | .ok p => ∀ H' v fp fps', Same H H' → SR K (okn ok0 fp) p.2 fps' σ H' → Rp K H' (okn (okS ok0 fps') fp) p.1 v fp → fp.Nodup → (∀ a ∈ fp, (∃ j, a ∈ fps j) ∨ H a = none) → (∀ i a, a ∈ fps' i → a ∈ fps i) → Q v H'
  | .exc c => ∀ d H', Same H H' → E (.ref (ca c)) d H'
  | .bad => False
def PostMs (K : PySem.W.Frag) (ca : Nat → Addr) (E : XK) (ok0 : Addr → Prop) (fps : Fps) (σ : L2.St) (H : Hp) (Q : List V → Hp → Prop) : Res (List PV × PEnv) → Prop
  | .ok p => ∀ H' v fp fps', Same H H' → SR K (okn ok0 fp) p.2 fps' σ H' → Rps K H' (okn (okS ok0 fps') fp) p.1 v fp → fp.Nodup → (∀ a ∈ fp, (∃ j, a ∈ fps j) ∨ H a = none) → (∀ i a, a ∈ fps' i → a ∈ fps i) → Q v H'
  | .exc c => ∀ d H', Same H H' → E (.ref (ca c)) d H'
  | .bad => False
def tM (K : PySem.W.Frag) (ca : Nat → Addr) (cl : Cl) (W : WX) (e : Me) : TE := fun σ H Q => ∃ ok0 env fps, SR K ok0 env fps σ H ∧ PostM K ca (WE W σ) ok0 fps σ H Q (evM cl env e)
def tMs (K : PySem.W.Frag) (ca : Nat → Addr) (cl : Cl) (W : WX) (e : Mes) : TA := fun σ H Q => ∃ ok0 env fps, SR K ok0 env fps σ H ∧ PostMs K ca (WE W σ) ok0 fps σ H Q (evMs cl env e)
theorem m_ex {e : Ex} {py : Expr} (h : SndE X ca cl W e py) : PE X py (tM X.K ca cl W (.ex e)) := PE.imp h.pe fun σ H Q hq => by
  obtain ⟨ok0, env, fps, S, hm⟩ := hq
  refine ⟨env, okE ok0 fps (vE e), S.ein, S.frE, ?_⟩
  replace hm : PostM X.K ca (WE W σ) ok0 fps σ H Q ((evE cl env e).bind fun v => .ok (v, aft v (vE e) env)) := hm
  cases e1 : evE cl env e with
  | ok x =>
    rw [e1] at hm
    intro H1 v fp s1 r1 f1 n1
    obtain ⟨fps2, S2, r2, sub⟩ := S.aft1 s1 r1 f1
    exact hm H1 v fp fps2 s1 S2 r2 n1 (fun a z => .inr (f1 a z)) sub
  | exc c => rw [e1] at hm; exact hm
  | bad => rw [e1] at hm; exact hm.elim
theorem m_mv {i : Nat} {x : Str} {p : Pos} (C : Cok X W tc cl n ca fa) (h : nameB tc i x = true) : PE X (.Name x p) (tM X.K ca cl W (.mv i)) := by
  unfold nameB at h
  rw [Bool.and_eq_true, Bool.and_eq_true, decide_eq_true_eq] at h
  obtain ⟨h1, h2, h3⟩ := h
  have hv : Vis X.env.scope x := by
    rw [C.sc] at h2
    unfold visB at h2
    unfold Vis
    split at h2 <;> first | exact .inl (by assumption) | exact .inr (.inl (by assumption)) | exact .inr (.inr (by assumption)) | cases h2
  have ho : (x == ("__debug__" : Str)) = false ∧ (x == ("__classdict__" : Str)) = false := by
    unfold odd at h3
    rw [Bool.not_eq_true', Bool.or_eq_false_iff] at h3
    exact h3
  refine PE.imp (pe_var (by rw [← C.N]; exact h1) hv ho.1 ho.2) fun σ H Q hq => ?_
  obtain ⟨ok0, env, fps, S, hm⟩ := hq
  replace hm : PostM X.K ca (WE W σ) ok0 fps σ H Q (match env[i]? with
    | some (some v) => .ok (v, env.set i none)
    | _ => .bad) := hm
  split at hm
  · rename_i v hv
    obtain ⟨u, e1, e2⟩ := S.at_ i v hv
    refine ⟨u, e1, hm H u (fps i) (updF fps i []) (Same.refl _) S.move (e2.imp fun a z => ⟨⟨z.1, fun j hj => ?_⟩, z.2 i⟩) (S.nd i) (fun a z => .inl ⟨i, z⟩) fun j a z => ?_⟩
    · rcases updF_in hj with ⟨_, hj⟩ | ⟨_, hj⟩
      · cases hj
      · exact z.2 j hj
    · rcases updF_in z with ⟨_, z⟩ | ⟨_, z⟩
      · cases z
      · exact z
  · exact hm.elim
theorem m_nil : PA X [] (tMs X.K ca cl W .nil) := PA.imp pa_nil fun σ H Q hq => by
  obtain ⟨ok0, env, fps, S, hm⟩ := hq
  refine hm H [] [] fps (Same.refl _) ?_ .nil .nil (fun _ z => nomatch z) fun _ _ z => z
  exact ⟨S.len, fun i pv e => let ⟨v, h1, h2⟩ := S.at_ i pv e; ⟨v, h1, h2.imp fun a z => ⟨⟨z.1, fun z => nomatch z⟩, z.2⟩⟩, S.nd, S.dj, fun i a z => let ⟨o, q⟩ := S.own i a z; ⟨⟨o, fun z => nomatch z⟩, q⟩, fun a z => ⟨S.fr a z, fun z => nomatch z⟩⟩
theorem m_cons {e : Me} {es : Mes} {py : Expr} {pys : List Expr} (h : PE X py (tM X.K ca cl W e)) (hs : PA X pys (tMs X.K ca cl W es)) (hp : plainX py = true) : PA X (py :: pys) (tMs X.K ca cl W (.cons e es)) :=
  PA.imp (pa_cons h hs (star_of hp)) fun σ H Q hq => by
    obtain ⟨ok0, env, fps, S, hm⟩ := hq
    refine ⟨ok0, env, fps, S, ?_⟩
    replace hm : PostMs X.K ca (WE W σ) ok0 fps σ H Q ((evM cl env e).bind fun p => (evMs cl p.2 es).bind fun q => .ok (p.1 :: q.1, q.2)) := hm
    cases e1 : evM cl env e with
    | exc c => rw [e1] at hm; exact hm
    | bad => rw [e1] at hm; exact hm.elim
    | ok p =>
      rw [e1] at hm
      intro H1 v f1 fps1 s1 S1 r1 n1 o1 sub1
      refine ⟨okn ok0 f1, p.2, fps1, S1, ?_⟩
      replace hm : PostMs X.K ca (WE W σ) ok0 fps σ H Q ((evMs cl p.2 es).bind fun q => .ok (p.1 :: q.1, q.2)) := hm
      cases e2 : evMs cl p.2 es with
      | exc c => rw [e2] at hm; exact fun d H' s => hm d H' (s1.trans s)
      | bad => rw [e2] at hm; exact hm.elim
      | ok q =>
        rw [e2] at hm
        intro H2 vs f2 fps2 s2 S2 r2 n2 o2 sub2
        have d12 : ∀ a ∈ f1, a ∉ f2 := fun a z z2 => by
          rcases o2 a z2 with ⟨j, q⟩ | q
          · exact (S1.own j a q).1.2 z
          · obtain ⟨u, hu, _⟩ := r1.dom a z
            rw [q] at hu
            cases hu
        refine hm H2 (v :: vs) (f1 ++ f2) fps2 (s1.trans s2) ⟨S2.len, fun i pv e => ?_, S2.nd, S2.dj, fun i a z => ?_, fun a z => ?_⟩ (.cons ?_ ?_) ?_ (fun a z => ?_) fun i a z => sub1 i a (sub2 i a z)
        · obtain ⟨u, h1, h2⟩ := S2.at_ i pv e
          exact ⟨u, h1, h2.imp fun a z => ⟨⟨z.1.1.1, fun hf => (List.mem_append.mp hf).elim z.1.1.2 z.1.2⟩, z.2⟩⟩
        · obtain ⟨o, q⟩ := S2.own i a z
          exact ⟨⟨o.1.1, fun hf => (List.mem_append.mp hf).elim o.1.2 o.2⟩, q⟩
        · have o := S2.fr a z
          exact ⟨o.1.1, fun hf => (List.mem_append.mp hf).elim o.1.2 o.2⟩
        · refine (r1.inD.imp fun a z => ⟨⟨z.1.1.1, fun j hj => z.1.1.2 j (sub2 j a hj)⟩, fun hf => ?_⟩).same s2
          rcases List.mem_append.mp hf with hf | hf
          · exact z.1.2 hf
          · rcases o2 a hf with ⟨j, q⟩ | q
            · exact z.1.1.2 j q
            · obtain ⟨u, hu⟩ := z.2
              rw [q] at hu
              cases hu
        · exact r2.imp fun a z => ⟨⟨z.1.1.1, z.1.2⟩, fun hf => (List.mem_append.mp hf).elim z.1.1.2 z.2⟩
        · exact List.nodup_append.mpr ⟨n1, n2, fun a h1 b h2 e => d12 a h1 (by rw [e]; exact h2)⟩
        · rcases List.mem_append.mp z with z | z
          · exact o1 a z
          · rcases o2 a z with ⟨j, q⟩ | q
            · exact .inl ⟨j, sub1 j a q⟩
            · exact .inr (s1.free q)
def lenM : Mes → Nat
  | .nil => 0
  | .cons _ es => lenM es + 1
theorem evMs_len : ∀ {es : Mes} {env : PEnv} {p : List PV × PEnv}, evMs cl env es = .ok p → p.1.length = lenM es
  | .nil, env, p, h => by cases h; rfl
  | .cons e es, env, p, h => by
    obtain ⟨q, h1, h⟩ := bind_ok (show (evM cl env e).bind _ = .ok p from h)
    obtain ⟨r, h2, h⟩ := bind_ok h
    cases h
    show r.1.length + 1 = lenM es + 1
    rw [evMs_len h2]
theorem m_tup {es : Mes} {xs : List Expr} {k : Nat} {p : Pos} (h : PA X xs (tMs X.K ca cl W es)) (hl : lenM es ≤ 1000) : PE X (.Tuple xs k p) (tM X.K ca cl W (.tup es)) := by
  refine PE.imp (pe_tup h) fun σ H Q hq => ?_
  obtain ⟨ok0, env, fps, S, hm⟩ := hq
  refine ⟨ok0, env, fps, S, ?_⟩
  replace hm : PostM X.K ca (WE W σ) ok0 fps σ H Q ((evMs cl env es).bind fun q => .ok (.tup q.1, q.2)) := hm
  cases e1 : evMs cl env es with
  | exc c => rw [e1] at hm; exact hm
  | bad => rw [e1] at hm; exact hm.elim
  | ok q =>
    rw [e1] at hm
    intro H1 vs f1 fps1 s1 S1 r1 n1 o1 sub1
    refine ⟨?_, fun q hq => hm _ _ f1 fps1 (s1.trans (same_upd hq)) (S1.same (same_upd hq)) (.tup (.of upd_same) (r1.same (same_upd hq))) n1 o1 sub1⟩
    rw [← r1.len, evMs_len e1]
    exact line1000 hl
theorem s_ret {e : Me} {py : Expr} {pos : Pos} (h : PE X py (tM X.K ca cl W e)) : PS X (.Return (some py) pos) (tS X.K ca cl w W (.ret e)) := by
  refine PS.imp (ps_ret h) fun D σ H hq => ?_
  obtain ⟨ok0, env, fps, S, hm⟩ := hq
  refine ⟨ok0, env, fps, S, ?_⟩
  replace hm : PostS X.K ca W ok0 fps H D (RS.of (evM cl env e) env fun v => .fl (.ret v.1)) := hm
  cases e1 : evM cl env e with
  | exc c => rw [e1] at hm; exact fun d H' s => hm d σ H' fps (S.same s) (Stp.same s)
  | bad => rw [e1] at hm; exact hm.elim
  | ok p =>
    rw [e1] at hm
    intro H1 v fp fps1 s1 S1 r1 n1 o1 sub1
    exact hm H1 v fp fps1 (r1.imp fun a z => ⟨z.1.1, z.2⟩) n1 o1 (Stp.of s1 fun i a z => .inl ⟨i, sub1 i a z⟩)
theorem s_retN {pos : Pos} : PS X (.Return none pos) (tS X.K ca cl w W (.ret (.ex .non))) := PS.imp ps_retN fun D σ H ⟨ok0, env, fps, S, hm⟩ =>
  hm H .non [] fps .non .nil (fun _ z => nomatch z) (Stp.same (Same.refl _))
end
end BW

namespace BW
open PySem PySem.Spec PyProof.Rows
open L2 hiding St
/-! ### lists of one's own, changed -/
section
variable {K : PySem.W.Frag} {H : Hp} {ok : Addr → Prop}
theorem Rps.inv_app {xs ys : List PV} {us : List V} {fp : List Addr} (h : Rps K H ok (xs ++ ys) us fp) : ∃ v1 v2 f1 f2, us = v1 ++ v2 ∧ fp = f1 ++ f2 ∧ Rps K H ok xs v1 f1 ∧ Rps K H ok ys v2 f2 := by
  induction xs generalizing us fp with
  | nil => exact ⟨[], us, [], fp, rfl, rfl, .nil, h⟩
  | cons x xs ih =>
    obtain ⟨v, vs, f, fs, e1, e2, r, rs⟩ := h.inv
    obtain ⟨v1, v2, f1, f2, e3, e4, r1, r2⟩ := ih rs
    exact ⟨v :: v1, v2, f ++ f1, f2, by rw [e1, e3]; rfl, by rw [e2, e4, List.append_assoc], .cons r r1, r2⟩
theorem Rps.revO {xs : List PV} {us : List V} {fp : List Addr} (h : Rps K H ok xs us fp) : ∃ f, Rps K H ok xs.reverse us.reverse f ∧ (fp.Nodup → f.Nodup) ∧ ∀ a, a ∈ f ↔ a ∈ fp := by
  induction xs generalizing us fp with
  | nil =>
    cases h
    exact ⟨[], .nil, id, fun a => Iff.rfl⟩
  | cons x xs ih =>
    obtain ⟨v, vs, f, fs, e1, e2, r, rs⟩ := h.inv
    subst e1 e2
    obtain ⟨g, r2, n2, m2⟩ := ih rs
    refine ⟨g ++ (f ++ []), by simp only [List.reverse_cons]; exact r2.app (.cons r .nil), fun n => ?_, fun a => ?_⟩
    · obtain ⟨n1, n3, d⟩ := List.nodup_append.mp n
      rw [List.append_nil]
      exact List.nodup_append.mpr ⟨n2 n3, n1, fun a h1 b h2 e => d b h2 a ((m2 a).mp h1) e.symm⟩
    · rw [List.append_nil, List.mem_append, List.mem_append, m2 a]
      exact Or.comm
end
section
variable {X : Cx} {ca fa : Nat → Addr} {cl : Cl} {W : WX} {tc : Tc} {n w : Nat}
def rExtendR : V → List V → Hp → VK → Prop := fun x vs H Q => ∃ l b xs zs, x = .ref l ∧ vs = [.ref b] ∧ H l = some (.lst xs) ∧ Rd H b (.lst zs) ∧ xs.length + zs.length ≤ sizeLine ∧ Q .non (upd H l (.lst (xs ++ zs)))
theorem mt_extendR : MtM X "list.extend" rExtendR := by
  intro pins s σ H x vs v us Q I rx rv h
  obtain ⟨l, b, xs, zs, rfl, rfl, hH, hB, hz, q⟩ := h
  cases rx
  obtain ⟨u, rfl, ru⟩ := rv.one
  cases ru
  obtain ⟨z, its, n, r, hl, e⟩ := I.lstM hH
  obtain ⟨z2, its2, n2, r2, e2⟩ := hB.ok I.hok
  have hl2 := r2.length
  have hsz : its.toArray.size + its2.toArray.size ≤ sizeLine := by rw [List.size_toArray, List.size_toArray]; omega
  have hlong : ¬ (!its.toArray.isEmpty && Builtin.List.listTooLong (its.toArray.size + its2.toArray.size)) = true := by
    rw [notLongL hsz, Bool.and_false]
    exact Bool.false_ne_true
  refine call_meets F.slot_list_extend ⟨_, e, rfl⟩ F.entry_list_extend (F.args_list_extend_2 _ _)
    (AutoSeq1.list_extend_list_list_0 l its.toArray n b its2.toArray n2 hlong (by rw [List.size_toArray]; omega) (by omega)) ⟨e, e2, ?_⟩
  refine ⟨.non, _, I.lset (its' := its ++ its2) hH e (by simp) (r.append r2) ?_, rfl, q⟩
  rw [List.length_append]
  omega
def rMu : Mu → V → List V → Hp → VK → Prop
  | .append => rAppend
  | .extend => rExtendR
  | .pop => rPop
  | .clear => rClear
  | .reverse => rReverse
/-- what a method does, in the two readings -/
theorem mu_do {K : PySem.W.Frag} {H : Hp} {ok : Addr → Prop} {okx : Addr → Prop} {m : Mu} {xs ys zs : List PV} {us vs : List V} {a : Addr} {fq fp : List Addr} {Q : VK} (e : muV m xs ys = some zs) (hH : H a = some (.lst us)) (rx : Rps K H (okn ok fp) xs us fq) (oq : ∀ b ∈ fq, ¬ ok b)
    (nq : fq.Nodup) (dq : ∀ b ∈ fp, b ∉ fq) (np : fp.Nodup) (ry : Rps K H okx ys vs fp) (ry2 : m = .append → Rps K H (okn ok fp) ys vs fp) (ry3 : m = .extend → ∀ o zs a us, ys = [.lst o zs] → vs = [.ref a] → Rd H a (.lst us) → Rps K H ok (frzs zs) us []) :
    ∃ us' fq', Rps K H (okn ok fq') zs us' fq' ∧ fq'.Nodup ∧ (∀ b ∈ fq', b ∈ fq ∨ (b ∈ fp ∧ m = .append)) ∧ ((∀ x, Q x (upd H a (.lst us'))) → rMu m (.ref a) vs H Q) := by
  cases m with
  | append =>
    match ys, e with
    | [y], e =>
      have e : (if xs.length < most then some (xs ++ [y]) else none) = some zs := e
      by_cases hl : xs.length < most
      · rw [if_pos hl] at e
        cases e
        have ry' := ry2 rfl
        obtain ⟨v, vs', f, fs, e1, e2, r, rs⟩ := ry.inv
        cases rs
        subst e1
        have k1 : Rps K H (okn ok (fq ++ fp)) xs us fq := rx.imp fun b z => ⟨z.1, fun hf => (List.mem_append.mp hf).elim (fun hf => oq b hf z.1) z.2⟩
        have k2 : Rps K H (okn ok (fq ++ fp)) [y] [v] fp := ry'.imp fun b z => ⟨z.1, fun hf => (List.mem_append.mp hf).elim (fun hf => oq b hf z.1) z.2⟩
        refine ⟨us ++ [v], fq ++ fp, k1.app k2, List.nodup_append.mpr ⟨nq, np, fun b h1 c h2 e => dq c h2 (by rw [← e]; exact h1)⟩, fun b z => (List.mem_append.mp z).imp (fun z => z) fun z => ⟨z, rfl⟩, fun q => ⟨a, us, v, rfl, rfl, hH, by rw [← rx.len, ← most_eq]; exact hl, q _⟩⟩
      · rw [if_neg hl] at e
        cases e
    | [], e => cases e
    | _ :: _ :: _, e => cases e
  | extend =>
    match ys, e with
    | [.lst o ys], e =>
      have e : (if xs.length + ys.length ≤ most then some (xs ++ frzs ys) else none) = some zs := e
      by_cases hl : xs.length + ys.length ≤ most
      · rw [if_pos hl] at e
        cases e
        obtain ⟨v, vs', f, fs, e1, e2, r, rs⟩ := ry.inv
        cases rs
        subst e1
        have go : ∀ b us2, v = .ref b → Rd H b (.lst us2) → ys.length = us2.length → ∃ us' fq', Rps K H (okn ok fq') (xs ++ frzs ys) us' fq' ∧ fq'.Nodup ∧ (∀ b ∈ fq', b ∈ fq ∨ (b ∈ fp ∧ Mu.extend = .append)) ∧ ((∀ x, Q x (upd H a (.lst us'))) → rMu .extend (.ref a) [v] H Q) := fun b us2 ev hb hlen => by
          subst ev
          have k := ry3 rfl o ys b us2 rfl rfl hb
          have k1 : Rps K H (okn ok fq) xs us fq := rx.imp fun b z => ⟨z.1, fun hf => oq b hf z.1⟩
          have k2 : Rps K H (okn ok fq) (frzs ys) us2 [] := k.imp fun b z => ⟨z, fun hf => oq b hf z⟩
          have k3 := k1.app k2
          rw [List.append_nil] at k3
          exact ⟨us ++ us2, fq, k3, nq, fun b z => .inl z, fun q => ⟨a, b, us, us2, rfl, rfl, hH, hb, by rw [← rx.len, ← hlen, ← most_eq]; exact hl, q _⟩⟩
        cases r with
        | lstF hr ho rs => exact go _ _ rfl hr rs.len
        | lstO hr rs => exact go _ _ rfl (.inl hr) rs.len
      · rw [if_neg hl] at e
        cases e
    | [], e => cases e
    | y :: _ :: _, e => cases y <;> cases e
    | [.non], e => cases e
    | [.bl _], e => cases e
    | [.int _], e => cases e
    | [.str _], e => cases e
    | [.tup _], e => cases e
    | [.dct _ _], e => cases e
    | [.exn _], e => cases e
  | pop =>
    match ys, e with
    | [], e =>
      have e : (if xs.length = 0 then none else some xs.dropLast) = some zs := e
      by_cases hl : xs.length = 0
      · rw [if_pos hl] at e
        cases e
      · rw [if_neg hl] at e
        cases e
        cases ry
        have ne : xs ≠ [] := fun z => hl (by rw [z]; rfl)
        obtain ⟨v1, v2, f1, f2, e1, e2, r1, r2⟩ := Rps.inv_app (by rw [List.dropLast_concat_getLast ne]; exact rx)
        obtain ⟨v, vs', f, fs, e3, e4, r, rs⟩ := r2.inv
        cases rs
        subst e3 e1
        rw [e2] at nq oq
        refine ⟨v1, f1, r1.imp fun b z => ⟨z.1, fun hf => oq b (List.mem_append_left _ hf) z.1⟩, (List.nodup_append.mp nq).1, fun b z => .inl (by rw [e2]; exact List.mem_append_left _ z), fun q => ⟨a, v1 ++ [v], v, rfl, rfl, hH, by simp, by rw [List.dropLast_concat]; exact q _⟩⟩
    | _ :: _, e => cases e
  | clear =>
    match ys, e with
    | [], e =>
      cases e
      cases ry
      exact ⟨[], [], .nil, .nil, (fun _ z => nomatch z), fun q => ⟨a, us, rfl, rfl, hH, q _⟩⟩
    | _ :: _, e => cases e
  | reverse =>
    match ys, e with
    | [], e =>
      cases e
      cases ry
      obtain ⟨f, r, n, mm⟩ := rx.revO
      exact ⟨us.reverse, f, r.imp fun b z => ⟨z.1, fun hf => oq b ((mm b).mp hf) z.1⟩, n nq, fun b z => .inl ((mm b).mp z), fun q => ⟨a, us, rfl, rfl, hH, q _⟩⟩
    | _ :: _, e => cases e
/-- a thing is told: what of the names' things stays one's own -/
theorem SR.aftG {K : PySem.W.Frag} {ok0 : Addr → Prop} {env : PEnv} {fps : Fps} {σ : L2.St} {H H1 : Hp} {is : List Nat} {fp : List Addr} (S : SR K ok0 env fps σ H) (s : Same H H1) (f : ∀ a ∈ fp, H a = none) (d : ∀ a ∈ fp, ∃ u, H1 a = some u ∧ isMu u = true) (c : PV) :
    ∃ fps2, SR K (okn ok0 fp) (BW.aft c is env) fps2 σ H1 ∧ (cls c = false → ∀ a, okE ok0 fps is a → okS ok0 fps2 a) ∧ (∀ i a, a ∈ fps2 i → a ∈ fps i) := by
  cases e : cls c with
  | true =>
    have e2 : BW.aft c is env = env := by
      unfold BW.aft
      rw [if_pos e]
    rw [e2]
    exact ⟨fps, S.avoid s f d, (fun z => nomatch z), fun _ _ z => z⟩
  | false =>
    have e2 : BW.aft c is env = frzV is env := by
      unfold BW.aft
      rw [if_neg (by rw [e]; decide)]
    rw [e2]
    exact ⟨frzF is fps, S.frz.avoid s f d, fun _ a z => okE_S S.dj z, fun i a z => (frzF_sub z).2⟩
/-- behind the arguments: the list is changed -/
theorem mut_core {m : Mu} {x : Nat} {env : PEnv} {is : List Nat} {ok0 : Addr → Prop} {fps : Fps} {σ : L2.St} {H H1 : Hp} {D : Ends} {ys : List PV} {vs : List V} {fp : List Addr} {v0 : V} (S : SR X.K ok0 env fps σ H) (s1 : Same H H1) (r1 : Rps X.K H1 (okn (okE ok0 fps is) fp) ys vs fp) (f1 : ∀ a ∈ fp, H a = none) (n1 : fp.Nodup)
    (hv : σ[x]? = some (some v0)) (q : PostS X.K ca W ok0 fps H D (muS x m ys (aft (.tup (kept m ys)) is env))) : rMu m v0 vs H1 fun _ H3 => D.nx σ H3 := by
  obtain ⟨fps2, S2, imp2, sub⟩ := S.aftG (is := is) s1 f1 r1.dom (.tup (kept m ys))
  have c2 : cls (.tup (kept m ys)) = clss (kept m ys) := rfl
  rw [c2] at imp2
  generalize he : aft (.tup (kept m ys)) is env = env2 at q S2
  unfold muS at q
  split at q
  · rename_i xs ex
    split at q
    · rename_i zs ez
      obtain ⟨v, e1, e2⟩ := S2.at_ x _ ex
      rw [hv] at e1
      cases e1
      generalize hf : fps2 x = fx at e2
      cases e2 with
      | lstO hH rx =>
        rename_i a us fq
        have nda := S2.nd x
        rw [hf] at nda
        have ax : a ∈ fps2 x := by rw [hf]; exact List.mem_cons_self
        have frf : ∀ b ∈ fp, ∀ j, b ∉ fps j := fun b hb j hj => by
          obtain ⟨_, u, hu, _⟩ := S.own j b hj
          rw [f1 b hb] at hu
          cases hu
        have dq : ∀ b ∈ fp, b ∉ fq := fun b hb hq => frf b hb x (sub x b (by rw [hf]; exact List.mem_cons_of_mem _ hq))
        have ry2 : m = .append → Rps X.K H1 (okn (okS ok0 fps2) fp) ys vs fp := fun e => by
          subst e
          cases c : clss ys with
          | true => exact r1.free c
          | false => exact r1.imp fun b z => ⟨imp2 c b z.1, z.2⟩
        have ry3 : m = .extend → ∀ o zs a us, ys = [.lst o zs] → vs = [.ref a] → Rd H1 a (.lst us) → Rps X.K H1 (okS ok0 fps2) (frzs zs) us [] := fun e o zs a us e1 e2 e3 => by
          subst e e1 e2
          have fz : Rps X.K H1 (okE ok0 fps is) (frzs zs) us [] := by
            obtain ⟨v, vs', f, fs, e4, e5, r, rs⟩ := r1.inv
            cases e4
            cases rs
            have ff : ∀ b ∈ f, H b = none := fun b hb => f1 b (by rw [e5]; exact List.mem_append_left _ hb)
            have fin : ∀ us2 f2, Rps X.K H1 (okn (okE ok0 fps is) fp) zs us2 f2 → (∀ b ∈ f2, b ∈ f) → us2 = us → Rps X.K H1 (okE ok0 fps is) (frzs zs) us [] := fun us2 f2 r sb e => by
              subst e
              exact r.frz (fun _ z => z.1) fun b hb => S.frE b (ff b (sb b hb))
            cases r with
            | lstF hr ho rs =>
              refine fin _ _ rs (fun _ z => nomatch z) ?_
              rcases hr with hr | ⟨o1, hr⟩ <;> rcases e3 with e3 | ⟨o2, e3⟩ <;> (rw [hr] at e3; cases e3 <;> rfl)
            | lstO hr rs =>
              refine fin _ _ rs (fun b z => List.mem_cons_of_mem _ z) ?_
              rcases e3 with e3 | ⟨o2, e3⟩ <;> (rw [hr] at e3; cases e3 <;> rfl)
          cases c : clss (frzs zs) with
          | true => exact fz.free c
          | false => exact fz.imp fun b z => imp2 c b z
        obtain ⟨us', fq', r2, n2, o2, d2⟩ := mu_do (K := X.K) (ok := okS ok0 fps2) (okx := okn (okE ok0 fps is) fp) (m := m) (fp := fp) (ys := ys) (vs := vs) (Q := fun _ H3 => D.nx σ H3) ez hH (fq := fq)
          (rx.imp fun b z => ⟨⟨z.1.1, z.2⟩, z.1.2⟩) (fun b hb z => z.2 x (by rw [hf]; exact List.mem_cons_of_mem _ hb)) (List.nodup_cons.mp nda).2 dq n1 r1 ry2 ry3
        refine d2 fun y => ?_
        have hp : ∀ b ∈ fp, ok0 b ∧ ∀ j, b ∉ fps2 j := fun b hb => ⟨S.fr b (f1 b hb), fun j hj => frf b hb j (sub j b hj)⟩
        refine q σ _ _ (S2.mut (fq := fq) (fq' := fq') (fp := fp) ex hf hH r2 n2 (fun b z => (o2 b z).imp (fun z => z) fun z => z.1) hp hv) ⟨fun b o hb hn => ?_, fun i b hb => ?_, fun b hb => ?_⟩
        · have : b ≠ a := fun e => hn x (sub x b (by rw [e]; exact ax))
          rw [upd_ne this]
          exact s1 b o hb
        · rcases updF_in hb with ⟨e, hb⟩ | ⟨e, hb⟩
          · rcases List.mem_cons.mp hb with e2 | hb
            · exact .inl ⟨x, sub x b (by rw [e2]; exact ax)⟩
            · rcases o2 b hb with hb | hb
              · exact .inl ⟨x, sub x b (by rw [hf]; exact List.mem_cons_of_mem _ hb)⟩
              · exact .inr (f1 b hb.1)
          · exact .inl ⟨i, sub i b hb⟩
        · by_cases e : b = a
          · rw [e, upd_same] at hb
            cases hb
          · rw [upd_ne e] at hb
            exact s1.free hb
    · exact q.elim
  · exact q.elim
/-- the list, then the arguments -/
theorem mut_imp {m : Mu} {x : Nat} {es : Exs} {D : Ends} {σ : L2.St} {H : Hp} (h : tS X.K ca cl w W (.mut x m es) D σ H) : ∃ v0, σ[x]? = some (some v0) ∧ tyV X.K "list" v0 H ∧ tAs X.K ca cl W es σ H fun vs H1 => rMu m v0 vs H1 fun _ H3 => D.nx σ H3 := by
  obtain ⟨ok0, env, fps, S, hm⟩ := h
  replace hm : PostS X.K ca W ok0 fps H D (if hasL env x = true then RS.of (evEs cl env es) env fun vs => muS x m vs (aft (.tup (kept m vs)) (vEs es) env) else .bad) := hm
  by_cases hx : hasL env x = true
  · rw [if_pos hx] at hm
    unfold hasL at hx
    split at hx
    · rename_i o xs ex
      obtain ⟨v0, e1, e2⟩ := S.at_ x _ ex
      generalize fps x = fx at e2
      refine ⟨v0, e1, ?_, env, okE ok0 fps (vEs es), S.ein, S.frE, PostS.posta S hm fun ys H1 vs fp _ s1 r1 f1 n1 q1 => mut_core S s1 r1 f1 n1 e1 q1⟩
      cases e2 with
      | lstF hr _ _ => exact .inl ⟨rfl, _, .inl hr⟩
      | lstO hr _ => exact .inl ⟨rfl, _, .inl (.inl hr)⟩
    · cases hx
  · rw [if_neg hx] at hm
    exact hm.elim
def muName : Mu → Str
  | .append => "append"
  | .extend => "extend"
  | .pop => "pop"
  | .clear => "clear"
  | .reverse => "reverse"
theorem name_of (C : Cok X W tc cl n ca fa) {i : Nat} {x : Str} {p : Pos} (h : nameB tc i x = true) : PE X (.Name x p) (tVar i) := by
  unfold nameB at h
  rw [Bool.and_eq_true, Bool.and_eq_true, decide_eq_true_eq] at h
  obtain ⟨h1, h2, h3⟩ := h
  have hv : Vis X.env.scope x := by
    rw [C.sc] at h2
    unfold visB at h2
    unfold Vis
    split at h2 <;> first | exact .inl (by assumption) | exact .inr (.inl (by assumption)) | exact .inr (.inr (by assumption)) | cases h2
  have ho : (x == ("__debug__" : Str)) = false ∧ (x == ("__classdict__" : Str)) = false := by
    unfold odd at h3
    rw [Bool.not_eq_true', Bool.or_eq_false_iff] at h3
    exact h3
  exact pe_var (by rw [← C.N]; exact h1) hv ho.1 ho.2
theorem few_of {e : Expr} {env : Env} {cpos : Pos} (h : plainX e = true) : ((backTo cpos (starEach [e] env)).all (fun x => !x.1) && (backToKw cpos (keywordEach [] env)).all (fun x => x.1.isSome)
      && decide (([e] : List Expr).length + ([] : List Keyword).length + (if ([] : List Keyword).isEmpty then 0 else 1) < 30)) = true := by
  rw [star_of h]
  rfl
/-- x.m(e), x.m() -/
theorem s_mut1 {m : Mu} {id : String} {x : Nat} {e : Ex} {y : Str} {py : Expr} {p apos cpos pos : Pos} (C : Cok X W tc cl n ca fa) (slot : Slot "list" (muName m) id) (hty : typeOf (.builtin id) = pure (.type "method_descriptor")) (hm : MtR X id (rMu m))
    (hn : nameB tc x y = true) (h : PA X [py] (tAs X.K ca cl W (.cons e .nil))) (hp : plainX py = true) (hl : (apos.endLine == cpos.line) = true) : PS X (.Expr (.Call (.Attribute (.Name y p) (muName m) apos) [py] [] cpos) pos) (tS X.K ca cl w W (.mut x m (.cons e .nil))) := by
  refine PS.imp (ps_expr (pe_bm PySem.F.plainAttrs_list slot hty hm (name_of C hn) h rfl (few_of hp) hl (star_of hp) rfl) (sw_no rfl)) fun D σ H hq => ?_
  obtain ⟨v0, e1, e2, e3⟩ := mut_imp hq
  exact ⟨v0, e1, e2, e3⟩
theorem s_mut0 {m : Mu} {id : String} {x : Nat} {y : Str} {p apos cpos pos : Pos} (C : Cok X W tc cl n ca fa) (slot : Slot "list" (muName m) id) (hty : typeOf (.builtin id) = pure (.type "method_descriptor")) (hm : MtR X id (rMu m))
    (hn : nameB tc x y = true) (hl : (apos.endLine == cpos.line) = true) : PS X (.Expr (.Call (.Attribute (.Name y p) (muName m) apos) [] [] cpos) pos) (tS X.K ca cl w W (.mut x m .nil)) := by
  refine PS.imp (ps_expr (pe_bm0 PySem.F.plainAttrs_list slot hty hm (name_of C hn) rfl hl) (sw_no rfl)) fun D σ H hq => ?_
  obtain ⟨v0, e1, e2, env, ok, hi, fr, hp⟩ := mut_imp hq
  exact ⟨v0, e1, e2, hp H [] [] (Same.refl _) .nil (fun _ z => nomatch z) .nil⟩
end
end BW

namespace BW
open PySem PySem.Spec PyProof.Rows
open L2 hiding St

abbrev Ecs := List (Str × Nat)
mutual
def ckM (tc : Tc) : Me → Expr → Bool
  | .mv i, py => (match py with
    | .Name x _ => nameB tc i x
    | _ => false)
  | .tup es, py => (match py with
    | .Tuple xs _ _ => decide (lenM es ≤ 1000) && ckMs tc es xs
    | _ => false)
  | .ex e, py => ckE tc e py
def ckMs (tc : Tc) : Mes → List Expr → Bool
  | .nil, py => (match py with
    | [] => true
    | _ => false)
  | .cons e es, py => (match py with
    | x :: xs => plainX x && (ckM tc e x && ckMs tc es xs)
    | _ => false)
end
/-- name = [..] on one line -/
def lcB (tc : Tc) (y : Str) (py : Pos) (e : Expr) : Bool := match e with
  | .ListComp _ _ scope pos => decide (tc.sc.names.lookup y = some .local) && ((py.line == pos.line) && !(scope.names.any fun (n, k) => n == y && (k == .local || k == .cell)))
  | _ => false
def nilB : Exs → List Expr → Bool
  | .nil, [] => true
  | _, _ => false
def muArg (tc : Tc) (m : Mu) (es : Exs) (xs : List Expr) : Bool := match m with
  | .append => decide (lenX es = 1) && ckEs tc es xs
  | .extend => decide (lenX es = 1) && ckEs tc es xs
  | _ => nilB es xs
mutual
def ckS (tc : Tc) (ec : Ecs) : Sm → Stmt → Bool
  | .asg t e, py => (match py with
    | .Assign [.Name y p] v _ => (match t with
      | [i] => decide (tc.N[i]? = some y) && (locB tc.sc y && (ckE tc e v && (noLc v || lcB tc y p v)))
      | _ => false)
    | .Assign [.Tuple ts k p] v _ => ckT tc t (.Tuple ts k p) && (ckE tc e v && (noLc v && noTup v))
    | _ => false)
  | .mut x m es, py => (match py with
    | .Expr (.Call (.Attribute (.Name y _) nm apos) xs [] cpos) _ => nameB tc x y && (decide (nm = muName m) && ((apos.endLine == cpos.line) && muArg tc m es xs))
    | _ => false)
  | .ifs c a b, py => (match py with
    | .If v pa pb _ => ckE tc c v && (ckSs tc ec a pa && ckSs tc ec b pb)
    | _ => false)
  | .whl c b, py => (match py with
    | .While v pb [] _ => ckE tc c v && ckSs tc ec b pb
    | _ => false)
  | .for_ t it b, py => (match py with
    | .For tg iter pb [] _ => plainX iter && (ckI tc it iter && (ckT tc t tg && ckSs tc ec b pb))
    | _ => false)
  | .ret e, py => (match py with
    | .Return (some v) _ => ckM tc e v
    | .Return none _ => (match e with
      | .ex .non => true
      | _ => false)
    | _ => false)
  | .ex e, py => (match py with
    | .Expr v _ => noLc v && ckE tc e v
    | _ => false)
  | .brk, py => (match py with
    | .Break _ => true
    | _ => false)
  | .cont, py => (match py with
    | .Continue _ => true
    | _ => false)
  | .pass, py => (match py with
    | .Pass _ => true
    | _ => false)
  | .raise c, py => (match py with
    | .Raise (some (.Call (.Name x _) [.Constant (.str _) _ _] [] _)) none _ => glB tc.sc x && (!odd x && decide (ec.lookup x = some c))
    | _ => false)
def ckSs (tc : Tc) (ec : Ecs) : Sms → List Stmt → Bool
  | .nil, py => (match py with
    | [] => true
    | _ => false)
  | .cons s ss, py => (match py with
    | x :: xs => ckS tc ec s x && ckSs tc ec ss xs
    | _ => false)
end
structure Sok (X : Cx) (W : WX) (tc : Tc) (cl : Cl) (n : Nat) (ca fa : Nat → Addr) (ec : Ecs) : Prop extends Cok X W tc cl n ca fa where
  own : PassesOwn (model X.prog X.w) X.A X.env X.xe
  takes : L2.Takes X W
  fnx : ∀ x, X.fn x = true
  kind : X.env.scope.kind = .function
  exs : ∀ x c, ec.lookup x = some c → X.mg x = some (.ref (ca c)) ∧ PySem.W.excIn X.K (ca c) [.type "ValueError", .type "Exception", .type "BaseException", .type "object"] "ValueError.__new__" = true ∧ PySem.W.keepIn X.K (.ref (ca c)) = true ∧
    PySem.W.subIn X.K (.ref (ca c)) (.type "BaseException") = some true ∧ PySem.W.typeIn X.K (.ref (ca c)) = some (.type "type")
section
variable {X : Cx} {ca fa : Nat → Addr} {cl : Cl} {W : WX} {tc : Tc} {n w : Nat} {ec : Ecs}
theorem loc_of (C : Sok X W tc cl n ca fa ec) {y : Str} (h : locB tc.sc y = true) : Loc X.env.scope y := by
  rw [C.sc] at h
  unfold locB at h
  split at h <;> first | exact .inl (by assumption) | exact .inr (by assumption) | cases h
mutual
theorem sM : ∀ (e : Me) (C : Cok X W tc cl n ca fa) (py : Expr), ckM tc e py = true → PE X py (tM X.K ca cl W e)
  | .mv i, C, py, h => by
    cases py <;> first | exact m_mv C h | cases h
  | .ex e, C, py, h => m_ex (sE e C py h)
  | .tup es, C, py, h => by
    cases py with
    | Tuple xs k p =>
      have h : (decide (lenM es ≤ 1000) && ckMs tc es xs) = true := h
      rw [Bool.and_eq_true, decide_eq_true_eq] at h
      exact m_tup (sMs es C xs h.2) h.1
    | _ => cases h
theorem sMs : ∀ (es : Mes) (C : Cok X W tc cl n ca fa) (pys : List Expr), ckMs tc es pys = true → PA X pys (tMs X.K ca cl W es)
  | .nil, C, pys, h => by
    cases pys with
    | nil => exact m_nil
    | cons _ _ => cases h
  | .cons e es, C, pys, h => by
    cases pys with
    | nil => cases h
    | cons y ys =>
      have h : (plainX y && (ckM tc e y && ckMs tc es ys)) = true := h
      rw [Bool.and_eq_true, Bool.and_eq_true] at h
      exact m_cons (sM e C y h.2.1) (sMs es C ys h.2.2) h.1
end
theorem a_set {i : Nat} {e : Ex} {y : Str} {v : Expr} {p pos : Pos} (C : Sok X W tc cl n ca fa ec) (h1 : tc.N[i]? = some y) (h2 : locB tc.sc y = true) (h3 : ckE tc e v = true) (h4 : (noLc v || lcB tc y p v) = true) : PS X (.Assign [.Name y p] v pos) (tS X.K ca cl w W (.asg [i] e)) := by
  by_cases hn : noLc v = true
  · exact PS.imp (ps_set C.nd (by rw [← C.N]; exact h1) (loc_of C h2) (sE e C.toCok v h3).pe (sw_no hn) (.inl (C.fnx _))) fun D σ H hq => asg_imp hq
  · have h4 : lcB tc y p v = true := by
      rcases Bool.or_eq_true _ _ ▸ h4 with z | z
      · exact absurd z hn
      · exact z
    cases v with
    | ListComp elt gs scope lp =>
      have h4 : (decide (tc.sc.names.lookup y = some .local) && ((p.line == lp.line) && !(scope.names.any fun (n, k) => n == y && (k == .local || k == .cell)))) = true := h4
      rw [Bool.and_eq_true, Bool.and_eq_true, decide_eq_true_eq, Bool.not_eq_true'] at h4
      obtain ⟨k1, k2, k3⟩ := h4
      rw [C.sc] at k1
      cases e with
      | lc t own it c e =>
        match gs, h3 with
        | [⟨tg, iter, ifs, z⟩], h =>
          have h : (decide (z = 0) && decide (t = own) && (blkC tc.N tc.sc scope (ownN tc.N own) && decide ((ownN tc.N own).map (·.2) = own) && (ckI tc it iter &&
            (ckT ⟨tc.N, scope, tc.fn, tc.gl⟩ t tg && decide (plainX iter = true) && (ckC ⟨tc.N, relS scope tc.sc, tc.fn, tc.gl⟩ c ifs && ckE ⟨tc.N, relS scope tc.sc, tc.fn, tc.gl⟩ e elt))))) = true := h
          rw [Bool.and_eq_true, Bool.and_eq_true, Bool.and_eq_true, Bool.and_eq_true, Bool.and_eq_true, Bool.and_eq_true, Bool.and_eq_true, Bool.and_eq_true, decide_eq_true_eq, decide_eq_true_eq, decide_eq_true_eq, decide_eq_true_eq] at h
          obtain ⟨⟨rfl, rfl⟩, ⟨h1', h2'⟩, h3, ⟨h4, h5⟩, h6, h7⟩ := h
          have D := C.toCok
          exact PS.imp (ps_setLc C.calm C.nd (by rw [← C.N]; exact h1) k1 (sw_true C.kind k1 k2 k3) (sI it D iter h3) (blkOk_by (by rw [← C.N, ← C.sc]; exact h1')) (pg_blk D (by rw [← C.N]; exact h4)) (fun s H Ca l fp => sC c (D.blk s H scope Ca l fp) ifs h6) (fun s H Ca l fp => (sE e (D.blk s H scope Ca l fp) elt h7).pe) (fold_of h5))
            fun D σ H hq => lc_imp h2' (asg_imp hq)
        | [], h => cases h
        | ⟨_, _, _, _⟩ :: _ :: _, h => cases h
      | _ => cases h3
    | _ => cases h4
theorem pg_def (C : Sok X W tc cl n ca fa ec) {t : List Nat} {tg : Expr} (h : ckT tc t tg = true) : PG X tg (tG X.K t) := by
  refine pg_of C.calm C.nd (sc := tc.sc) (fn := tc.fn) (gl := tc.gl) (fun x hx => ⟨loc_of C hx, .inl (C.fnx x)⟩) ?_
  rw [← C.N]
  exact h
theorem s_raise {c : Nat} {x m : Str} {j : Nat} {p p2 p3 pos : Pos} (C : Sok X W tc cl n ca fa ec) (h1 : glB tc.sc x = true) (h2 : odd x = false) (h3 : ec.lookup x = some c) : PS X (.Raise (some (.Call (.Name x p) [.Constant (.str m) j p2] [] p3)) none pos) (tS X.K ca cl w W (.raise c)) := by
  obtain ⟨m1, m2, m3, m4, m5⟩ := C.exs x c h3
  have hd : (x == ("__debug__" : Str)) = false := by
    unfold odd at h2
    rw [Bool.or_eq_false_iff] at h2
    exact h2.1
  refine PS.imp (ps_raise C.calm C.takes (pmk_own PySem.F.excBase_ValueError m2 m1 m3 (raises_own m4 m5) (gl_of C.toCok h1) hd)) fun D σ H hq => ?_
  obtain ⟨ok0, env, fps, S, hm⟩ := hq
  exact hm none σ H fps S (Stp.same (Same.refl _))
theorem s_mutA {m : Mu} {x : Nat} {es : Exs} {y : Str} {xs : List Expr} {p apos cpos pos : Pos} (C : Cok X W tc cl n ca fa) (hn : nameB tc x y = true) (hl : (apos.endLine == cpos.line) = true) (ha : muArg tc m es xs = true) :
    PS X (.Expr (.Call (.Attribute (.Name y p) (muName m) apos) xs [] cpos) pos) (tS X.K ca cl w W (.mut x m es)) := by
  have one : ∀ (h : (decide (lenX es = 1) && ckEs tc es xs) = true), ∃ e py, es = .cons e .nil ∧ xs = [py] ∧ plainX py = true ∧ PA X [py] (tAs X.K ca cl W (.cons e .nil)) := fun h => by
    rw [Bool.and_eq_true, decide_eq_true_eq] at h
    have q := sEs es C xs h.2
    match es, xs, h, q with
    | .cons e .nil, [py], h, q => exact ⟨e, py, rfl, rfl, q.2 py List.mem_cons_self, q.1⟩
    | .nil, _, h, _ => cases h.1
    | .cons _ (.cons _ _), _, h, _ => exact absurd h.1 (by simp [lenX])
    | .cons _ .nil, [], h, _ => cases h.2
    | .cons _ .nil, _ :: _ :: _, h, _ => have := h.2; simp [ckEs] at this
  have zero : nilB es xs = true → es = .nil ∧ xs = [] := fun h => by
    cases es <;> cases xs <;> first | exact ⟨rfl, rfl⟩ | cases h
  cases m with
  | append =>
    obtain ⟨e, py, rfl, rfl, hp, h⟩ := one ha
    exact s_mut1 C PySem.F.slot_list_append PySem.F.type_list_append mt_append hn h hp hl
  | extend =>
    obtain ⟨e, py, rfl, rfl, hp, h⟩ := one ha
    exact s_mut1 C PySem.F.slot_list_extend PySem.F.type_list_extend mt_extendR hn h hp hl
  | pop =>
    obtain ⟨rfl, rfl⟩ := zero ha
    exact s_mut0 C PySem.F.slot_list_pop PySem.F.type_list_pop mt_pop hn hl
  | clear =>
    obtain ⟨rfl, rfl⟩ := zero ha
    exact s_mut0 C PySem.F.slot_list_clear PySem.F.type_list_clear mt_clear hn hl
  | reverse =>
    obtain ⟨rfl, rfl⟩ := zero ha
    exact s_mut0 C PySem.F.slot_list_reverse PySem.F.type_list_reverse mt_reverse hn hl
mutual
theorem sS : ∀ (s : Sm) (C : Sok X W tc cl n ca fa ec) (py : Stmt), ckS tc ec s py = true → PS X py (tS X.K ca cl w W s)
  | .asg t e, C, py, h => by
    cases py with
    | Assign ts v pos =>
      match ts, h with
      | [.Name y p], h =>
        match t, h with
        | [i], h =>
          have h : (decide (tc.N[i]? = some y) && (locB tc.sc y && (ckE tc e v && (noLc v || lcB tc y p v)))) = true := h
          rw [Bool.and_eq_true, Bool.and_eq_true, Bool.and_eq_true, decide_eq_true_eq] at h
          exact a_set C h.1 h.2.1 h.2.2.1 h.2.2.2
        | [], h => cases h
        | _ :: _ :: _, h => cases h
      | [.Tuple ts k p], h =>
        have h : (ckT tc t (.Tuple ts k p) && (ckE tc e v && (noLc v && noTup v))) = true := h
        rw [Bool.and_eq_true, Bool.and_eq_true, Bool.and_eq_true] at h
        exact PS.imp (ps_asg (sE e C.toCok v h.2.1).pe (pg_def C h.1) (show swapsWithSole [Expr.Tuple ts k p] v pos.line X.env = pure false from sw_no (t := some (Expr.Tuple ts k p)) (l := pos.line) (env := X.env) h.2.2.1) (ss_no h.2.2.2) rfl) fun D σ H hq => asg_imp hq
      | [], h => cases h
      | .Name _ _ :: _ :: _, h => cases h
      | .Tuple _ _ _ :: _ :: _, h => cases h
    | _ => cases h
  | .mut x m es, C, py, h => by
    cases py with
    | Expr e pos =>
      cases e with
      | Call f xs ks cpos =>
        cases f with
        | Attribute o nm apos =>
          cases o with
          | Name y p =>
            cases ks with
            | nil =>
              have h : (nameB tc x y && (decide (nm = muName m) && ((apos.endLine == cpos.line) && muArg tc m es xs))) = true := h
              rw [Bool.and_eq_true, Bool.and_eq_true, Bool.and_eq_true, decide_eq_true_eq] at h
              obtain ⟨h1, rfl, h2, h3⟩ := h
              exact s_mutA C.toCok h1 h2 h3
            | cons _ _ => cases h
          | _ => cases h
        | _ => cases h
      | _ => cases h
    | _ => cases h
  | .ifs c a b, C, py, h => by
    cases py with
    | If v pa pb pos =>
      have h : (ckE tc c v && (ckSs tc ec a pa && ckSs tc ec b pb)) = true := h
      rw [Bool.and_eq_true, Bool.and_eq_true] at h
      exact s_if (sE c C.toCok v h.1) (sSs a C pa h.2.1) (sSs b C pb h.2.2)
    | _ => cases h
  | .whl c b, C, py, h => by
    cases py with
    | While v pb el pos =>
      cases el with
      | nil =>
        have h : (ckE tc c v && ckSs tc ec b pb) = true := h
        rw [Bool.and_eq_true] at h
        exact s_whl C.own (sE c C.toCok v h.1) (sSs b C pb h.2)
      | cons _ _ => cases h
    | _ => cases h
  | .for_ t it b, C, py, h => by
    cases py with
    | For tg iter pb el pos =>
      cases el with
      | nil =>
        have h : (plainX iter && (ckI tc it iter && (ckT tc t tg && ckSs tc ec b pb))) = true := h
        rw [Bool.and_eq_true, Bool.and_eq_true, Bool.and_eq_true] at h
        exact s_for C.own C.calm (sI it C.toCok iter h.2.1) (pg_def C h.2.2.1) (sSs b C pb h.2.2.2) h.1
      | cons _ _ => cases h
    | _ => cases h
  | .ret e, C, py, h => by
    cases py with
    | Return v pos =>
      cases v with
      | some v => exact s_ret (sM e C.toCok v h)
      | none =>
        cases e with
        | ex e =>
          cases e with
          | non => exact s_retN
          | _ => cases h
        | _ => cases h
    | _ => cases h
  | .ex e, C, py, h => by
    cases py with
    | Expr v pos =>
      have h : (noLc v && ckE tc e v) = true := h
      rw [Bool.and_eq_true] at h
      exact s_exps (sE e C.toCok v h.2) h.1
    | _ => cases h
  | .brk, C, py, h => by
    cases py <;> first | exact s_brk | cases h
  | .cont, C, py, h => by
    cases py <;> first | exact s_cont | cases h
  | .pass, C, py, h => by
    cases py <;> first | exact s_pass | cases h
  | .raise c, C, py, h => by
    unfold ckS at h
    split at h
    · rw [Bool.and_eq_true, Bool.and_eq_true, decide_eq_true_eq, Bool.not_eq_true'] at h
      exact s_raise C h.1 h.2.1 h.2.2
    · cases h
theorem sSs : ∀ (s : Sms) (C : Sok X W tc cl n ca fa ec) (pys : List Stmt), ckSs tc ec s pys = true → PSs X pys (tSs X.K ca cl w W s)
  | .nil, C, pys, h => by
    cases pys with
    | nil => exact s_nil
    | cons _ _ => cases h
  | .cons s ss, C, pys, h => by
    cases pys with
    | nil => cases h
    | cons y ys =>
      have h : (ckS tc ec s y && ckSs tc ec ss ys) = true := h
      rw [Bool.and_eq_true] at h
      exact s_cons (sS s C y h.1) (sSs ss C ys h.2)
end
end
end BW

/-! The defs of a table. -/
namespace BW
open PySem PySem.Spec PyProof.Rows
open L2 hiding St

structure Df where
  x : Str
  params : Arguments
  body : List Stmt
  scope : Scope
  N : List Str
  ps : List Str
  d : Fd
abbrev Df.Bn (D : Df) : Prop := ∀ (kV doc pm : Value) (an : Option Addr) (cdv ct : Value) (us : List Value), us.length = D.ps.length → bindArgs (PySem.W.fnOf D.x D.x D.params D.body D.scope .none kV doc pm an cdv ct) ⟨us, []⟩ = pure (D.ps.zip us)
structure Df.Ok (D : Df) (fn : List (Str × Nat)) (gl : List (Str × Gk)) (ec : Ecs) : Prop where
  S : FnScope D.N D.ps D.scope
  ck : ckSs ⟨D.N, D.scope, fn, gl⟩ ec D.d.body D.body = true
  np : D.d.np = D.ps.length
  ns : D.d.ns = D.N.length
  bn : D.Bn
def parB (sc : Scope) (x : Str) : Bool := match sc.names.lookup x with
  | some .local => true
  | some .cell => true
  | _ => false
def nofB (k : NameKind) : Bool := match k with
  | .free => false
  | _ => true
def kfB (k : ScopeKind) : Bool := match k with
  | .function => true
  | _ => false
/-- all of it but the binding, by running -/
def Df.okB (D : Df) (fn : List (Str × Nat)) (gl : List (Str × Gk)) (ec : Ecs) : Bool := kfB D.scope.kind && (!D.scope.isCoroutine && (!D.scope.isGenerator && (decide D.N.Nodup && (decide (D.N.take D.ps.length = D.ps) && (D.ps.all (parB D.scope) && (D.scope.names.all (fun y => nofB y.2) &&
  (ckSs ⟨D.N, D.scope, fn, gl⟩ ec D.d.body D.body && (decide (D.d.np = D.ps.length) && decide (D.d.ns = D.N.length)))))))))
theorem Df.ok_of {D : Df} {fn : List (Str × Nat)} {gl : List (Str × Gk)} {ec : Ecs} (h : D.okB fn gl ec = true) (b : D.Bn) : D.Ok fn gl ec := by
  unfold Df.okB at h
  simp only [Bool.and_eq_true, decide_eq_true_eq, Bool.not_eq_true', List.all_eq_true] at h
  obtain ⟨h1, h2, h3, h4, h5, h6, h7, h8, h9, h10⟩ := h
  refine ⟨⟨?_, h2, h3, h4, h5, fun x hx => ?_, fun y hy e => ?_⟩, h8, h9, h10, b⟩
  · unfold kfB at h1
    split at h1 <;> first | assumption | cases h1
  · have q := h6 x hx
    unfold parB at q
    split at q <;> first | exact .inl (by assumption) | exact .inr (by assumption) | cases q
  · have q := h7 y hy
    rw [e] at q
    cases q
def tabT (tab : List Df) : Nat → Option Fd := fun i => (tab[i]?).map (·.d)
/-- what a head tells of a table -/
structure Env1 (K : PySem.W.Frag) (mg : Str → Option Value) (tab : List Df) (fn : List (Str × Nat)) (gl : List (Str × Gk)) (ec : Ecs) (ca fa : Nat → Addr) : Prop where
  df : ∀ i D, tab[i]? = some D → D.Ok fn gl ec ∧ mg D.x = some (.ref (fa i)) ∧ ∃ fd, FunD K D.x D.x D.params D.body D.scope [] [] (fa i) fd
  fn : ∀ x f, fn.lookup x = some f → ∃ D, tab[f]? = some D ∧ D.x = x
  blt : ∀ x ∈ bnames, mg x = none
  gls : ∀ x g, gl.lookup x = some g → GlOk K (mg x) g
  exs : ∀ x c, ec.lookup x = some c → mg x = some (.ref (ca c)) ∧ PySem.W.excIn K (ca c) [.type "ValueError", .type "Exception", .type "BaseException", .type "object"] "ValueError.__new__" = true ∧ PySem.W.keepIn K (.ref (ca c)) = true ∧
    PySem.W.subIn K (.ref (ca c)) (.type "BaseException") = some true ∧ PySem.W.typeIn K (.ref (ca c)) = some (.type "type")
theorem start_sr {K : PySem.W.Frag} {ok : Addr → Prop} {xs : List PV} {vs : List V} {H : Hp} {N : List Str} {k : Nat} (f : Fre ok H) (r : Rps K H ok xs vs []) (hk : N.length - vs.length = k) : SR K ok (xs.map some ++ List.replicate k none) (fun _ => []) (L2.start N vs) H := by
  subst hk
  refine ⟨?_, fun i pv e => ?_, fun _ => .nil, fun _ _ _ z => (nomatch z), fun _ _ z => (nomatch z), f⟩
  · unfold L2.start
    simp [r.len]
  · by_cases hi : i < xs.length
    · rw [List.getElem?_append_left (by simpa using hi), List.getElem?_map] at e
      have e1 : xs[i]? = some pv := by
        cases q : xs[i]? with
        | none => rw [q] at e; cases e
        | some y => rw [q] at e; cases e; rfl
      obtain ⟨v, h1, h2⟩ := r.get e1
      refine ⟨v, ?_, h2.imp fun a z => ⟨z, fun _ z => nomatch z⟩⟩
      unfold L2.start
      rw [List.getElem?_append_left (by rw [List.length_map, ← r.len]; exact hi), List.getElem?_map, h1]
      rfl
    · rw [List.getElem?_append_right (by simpa using hi), List.getElem?_replicate] at e
      split at e <;> cases e
theorem callF_len {tab : List Df} {w n i : Nat} {xs : List PV} {D : Df} (e : tab[i]? = some D) (np : D.d.np = D.ps.length) (h : callF (tabT tab) w n i xs ≠ .bad) : xs.length = D.ps.length := by
  cases n with
  | zero => exact absurd rfl h
  | succ n =>
    have e2 : callF (tabT tab) w (n + 1) i xs = runB (callF (tabT tab) w n) w D.d xs := by
      show (match (tab[i]?).map (·.d) with | some d => runB (callF (tabT tab) w n) w d xs | none => .bad) = _
      rw [e]
      rfl
    rw [e2] at h
    unfold runB at h
    by_cases hl : xs.length = D.d.np
    · rw [hl, np]
    · rw [if_neg hl] at h
      exact absurd rfl h
theorem tab_ok {P : Program} {wd : World} {K : PySem.W.Frag} {mg : Str → Option Value} {base : Heap} {tab : List Df} {fn : List (Str × Nat)} {gl : List (Str × Gk)} {ec : Ecs} {ca fa : Nat → Addr} {w : Nat} (T : Env1 K mg tab fn gl ec ca fa) :
    ∀ n i D fd, tab[i]? = some D → FunD K D.x D.x D.params D.body D.scope [] [] (fa i) fd → FnOk P wd K mg base (L2.CX P wd) n (fa i) fd D.ps (spF K ca (callF (tabT tab) w n) D.ps.length i)
  | 0, i, D, fd, e, F => ⟨fun _ _ _ _ h => h.1, fun A outer s H args us vs Q E _ _ _ _ ⟨_, ok, xs, _, _, h⟩ => False.elim h⟩
  | n + 1, i, D, fd, e, F => by
    obtain ⟨O, m1, _⟩ := T.df i D e
    refine F.ok O.S (fun _ _ _ _ h => h.1) fun cdv A outer s H vs Q E hr hsp => ?_
    obtain ⟨hl, ok, xs, fr, r, hm⟩ := hsp
    have e2 : callF (tabT tab) w (n + 1) i xs = runB (callF (tabT tab) w n) w D.d xs := by
      show (match (tab[i]?).map (·.d) with | some d => runB (callF (tabT tab) w n) w d xs | none => .bad) = _
      rw [e]
      rfl
    rw [e2] at hm
    have hxl : xs.length = D.d.np := by rw [r.len, hl, O.np]
    unfold runB at hm
    rw [if_pos hxl] at hm
    let W : WX := fun cls d _ H => E cls d H
    have tk : L2.Takes (cxOf (L2.CX P wd) P wd K mg base D.N D.x D.scope (fa i) cdv A outer s H E) W := takes_of rfl rfl rfl rfl
    have C : Sok (cxOf (L2.CX P wd) P wd K mg base D.N D.x D.scope (fa i) cdv A outer s H E) W ⟨D.N, D.scope, fn, gl⟩ (callF (tabT tab) w n) n ca fa ec :=
      { calm := rfl
        nd := O.S.nd
        N := rfl
        sc := rfl
        room := hr
        pass := fun σ => passAt tk σ
        blt := T.blt
        gls := T.gls
        fns := fun x f hf => by
          obtain ⟨D', e', hx⟩ := T.fn x f hf
          obtain ⟨O', m', fd', F'⟩ := T.df f D' e'
          rw [hx] at m'
          refine ⟨m', F'.kp, fd', D'.ps, tab_ok T n f D' fd' e' F', F'.bindsN fun kV doc pm an cdv ct us hl => O'.bn kV doc pm an cdv ct us hl, fun xs h => callF_len e' O'.np h⟩
        own := passes_of rfl
        takes := tk
        fnx := fun _ => rfl
        kind := O.S.kind
        exs := T.exs }
    refine ⟨tSs K ca (callF (tabT tab) w n) w W D.d.body, sSs D.d.body C D.body O.ck, ok, _, fun _ => [], start_sr (k := D.d.ns - D.d.np) fr r (by rw [O.ns, O.np, hl]), ?_⟩
    cases q : evSs (callF (tabT tab) w n) w (xs.map some ++ List.replicate (D.d.ns - D.d.np) none) D.d.body with
    | fl f =>
      rw [q] at hm
      cases f with
      | next env => exact fun σ' H' fps' S st => hm H' .non [] (fun a o z => st.keep a o z fun _ z => nomatch z) .non (fun _ z => nomatch z) .nil
      | ret x => exact fun H' v fp fps' r n o st => hm H' v fp (fun a o z => st.keep a o z fun _ z => nomatch z) r (fun a z => (o a z).elim (fun ⟨_, z⟩ => nomatch z) fun z => z) n
      | brk env => exact hm.elim
      | cont env => exact hm.elim
    | exc c env =>
      rw [q] at hm
      exact fun d σ' H' fps' S st => hm d H' fun a o z => st.keep a o z fun _ z => nomatch z
    | bad => rw [q] at hm; exact hm.elim
end BW

/-! A law, from its table and what the little language says of it. -/
namespace BW
open PySem PySem.Spec PyProof.Rows
open L2 hiding St
theorem walk_bw {l : PySem.W.OpenLaw} {n k : Nat} {q : Program} {loose : List Str} {XP : (Str → Option Value) → Heap → Prop} {YP : World → Heap → Prop} {d : DefRec} {x : Str}
    (hn : l.most = some n) (hn2 : n ≤ sizeLine) (hdf : d.params.defaults = []) (hr : Room k callerA)
    (F : ∀ (w : World) (mg : Str → Option Value) (f : Addr) (h : Heap), YP w h → h.Ns mainGlobals mg → mg d.name = some (.ref f) →
      ∃ (K : PySem.W.Frag) (fd : FuncData) (sp : Sp), K.In h ∧ (∀ (s : Shared) (u : Value), BindsTo s fd ⟨[u], []⟩ [(x, u)]) ∧
        (∀ (H : Hp) (a : Addr) (ns : List Int), ns.length ≤ n → SqS K H a (ns.map V.int) → sp [.ref a] H (fun v _ => v = .bl true) fun _ _ _ => False) ∧
        ∀ base : Heap, K.In base → base.Ns mainGlobals mg → FnOk l.prog w K mg base (L2.CX l.prog w) k f fd [x] sp) :
    PySem.W.WalkO q loose XP YP l.row.toRowW d [] (fun f vs => PySem.call f vs) := by
  refine Att.attach_call hn hdf fun w s₀ s₁ mg mb f o pm cd doc a vs ns G Y ho hd hcd hmg hobj hints hlen hg => ?_
  obtain ⟨K, fd, sp, KX, hb, hsp, hF⟩ := F w mg f _ Y G.T.g hmg
  refine law_call KX G.T.g G.T.b G.T.builtins G.T.nolimit hg hobj hints (Nat.le_trans hlen hn2) hr hF hb (fun H hO hS => hsp H a ns hlen ?_) fun H e s' hx => ?_
  · rcases hS with (hS | hS) | hS
    · rcases hO a with z | ⟨o', xs, z⟩
      · rw [z] at hS
        cases hS
      · rw [z] at hS
        cases hS
    · exact .inl hS
    · exact .inr hS
  · obtain ⟨_, _, _, _, _, _, _, _, _, _, _, _, z⟩ := hx
    exact z
/-- the law's def at its place keeps its promise -/
theorem law_sp {K : PySem.W.Frag} {H : Hp} {ca : Nat → Addr} {tab : List Df} {w k i : Nat} {a : Addr} {ns : List Int} (hS : SqS K H a (ns.map V.int)) (P : callF (tabT tab) w k i [.scr (ns.map PV.int)] = .ok (.bl true)) :
    spF K ca (callF (tabT tab) w k) 1 i [.ref a] H (fun v _ => v = .bl true) fun _ _ _ => False := by
  refine ⟨rfl, fun _ => True, [.scr (ns.map PV.int)], fun _ _ => trivial, .cons0 (.scr hS) .nil, ?_⟩
  rw [P]
  exact fun H' v fp _ r _ _ => by cases r; rfl
/-! ### a table's facts in a head -/
def Df.toD (D : Df) : He.DefD := ⟨(D.x, none), D.x, D.x, D.params, D.body, D.scope, [], []⟩
def exF : List Str → List He.Fa
  | [] => []
  | x :: xs => .glo x :: .exc x :: exF xs
def faOf (tab : List Df) (ecs : List Str) : List He.Fa := tab.map (fun D => .glo D.x) ++ (bnames.map .free ++ exF ecs)
def numb : Nat → List Str → List (Str × Nat)
  | _, [] => []
  | n, x :: xs => (x, n) :: numb (n + 1) xs
theorem numb_at : ∀ {xs : List Str} {n : Nat} {x : Str} {f : Nat}, (numb n xs).lookup x = some f → n ≤ f ∧ xs[f - n]? = some x
  | [], _, _, _, h => by cases h
  | y :: xs, n, x, f, h => by
    unfold numb at h
    rw [List.lookup_cons] at h
    split at h
    · rename_i e
      cases h
      rw [Nat.sub_self]
      exact ⟨Nat.le_refl _, by rw [eq_of_beq e]; rfl⟩
    · obtain ⟨h1, h2⟩ := numb_at h
      refine ⟨by omega, ?_⟩
      have e : f - n = (f - (n + 1)) + 1 := by omega
      rw [e]
      exact h2
theorem exF_at : ∀ {xs : List Str} {i : Nat} {x : Str}, xs[i]? = some x → (exF xs)[2 * i]? = some (.glo x) ∧ (exF xs)[2 * i + 1]? = some (.exc x)
  | [], _, _, h => by simp at h
  | y :: xs, 0, x, h => by
    simp at h
    subst h
    exact ⟨rfl, rfl⟩
  | y :: xs, i + 1, x, h => by
    have q := exF_at (xs := xs) (i := i) (by simpa using h)
    have e : 2 * (i + 1) = 2 * i + 2 := by omega
    rw [e]
    exact q
def names (tab : List Df) : List Str := tab.map (·.x)
def adF (K : PySem.W.Frag) (xs : List Str) (i : Nat) : Addr := match xs[i]? with
  | some x => He.ga K x
  | none => default
theorem lookup_in {α β : Type} [BEq α] [LawfulBEq α] {x : α} {g : β} : ∀ {l : List (α × β)}, l.lookup x = some g → (x, g) ∈ l
  | [], h => by cases h
  | (y, z) :: l, h => by
    rw [List.lookup_cons] at h
    split at h
    · rename_i e
      cases h
      rw [eq_of_beq e]
      exact List.mem_cons_self
    · exact List.mem_cons_of_mem _ (lookup_in h)
def strsB : List Str → List Value → Bool
  | [], [] => true
  | x :: xs, .str y _ :: vs => decide (x = y) && (PyData.strOk x && strsB xs vs)
  | _, _ => false
theorem strsB_ok : ∀ {xs : List Str} {vs : List Value}, strsB xs vs = true → (∀ x ∈ xs, PyData.strOk x = true) ∧ Vals (xs.map V.str) vs
  | [], [], _ => ⟨fun _ z => (nomatch z), .nil⟩
  | x :: xs, v :: vs, h => by
    cases v with
    | str y t =>
      have h : (decide (x = y) && (PyData.strOk x && strsB xs vs)) = true := h
      rw [Bool.and_eq_true, Bool.and_eq_true, decide_eq_true_eq] at h
      obtain ⟨rfl, h2, h3⟩ := h
      have q := strsB_ok h3
      exact ⟨fun y hy => (List.mem_cons.mp hy).elim (fun e => by rw [e]; exact h2) (q.1 y), .cons ⟨t, rfl⟩ q.2⟩
    | _ => cases h
  | [], _ :: _, h => by cases h
  | _ :: _, [], h => by cases h
/-- a module's constant in the written part -/
def glKB (K : PySem.W.Frag) (x : Str) : Gk → Bool
  | .int i => (He.Fa.int x i).ok K
  | .str z => PyData.strOk z && (He.Fa.str x z).ok K
  | .txs xs => (He.Fa.glo x).ok K && (match K.lookup (He.ga K x) with
    | some ⟨.type c, none, .seq its _, _⟩ => decide (c = "tuple") && (decide (its.size ≤ sizeLine) && strsB xs its.toList)
    | _ => false)
theorem glKB_ok {K : PySem.W.Frag} {h : Heap} {mg : Str → Option Value} {x : Str} {g : Gk} (X : K.In h) (G : h.Ns mainGlobals mg) (c : glKB K x g = true) : GlOk K (mg x) g := by
  cases g with
  | int i => exact He.int_ok X G c
  | str z =>
    have c : (PyData.strOk z && (He.Fa.str x z).ok K) = true := c
    rw [Bool.and_eq_true] at c
    exact ⟨c.1, He.str_ok X G c.2⟩
  | txs xs =>
    unfold glKB at c
    rw [Bool.and_eq_true] at c
    obtain ⟨c1, c2⟩ := c
    split at c2
    · rename_i c its n sl e
      rw [Bool.and_eq_true, Bool.and_eq_true, decide_eq_true_eq, decide_eq_true_eq] at c2
      obtain ⟨rfl, c3, c4⟩ := c2
      obtain ⟨k1, k2⟩ := strsB_ok c4
      exact ⟨k1, He.ga K x, _, its, n, He.glo_ok X G c1, e, rfl, rfl, rfl, c3, k2⟩
    · cases c2
/-- a head's hook: facts, and the constants -/
def obsB (fa : List He.Fa) (fn : List He.DefD) (gl : List (Str × Gk)) (K : PySem.W.Frag) : He.AlD × Bool := (He.obsD fa fn K, gl.all fun q => glKB K q.1 q.2)
def obsBG (n : Nat) (fa : List He.Fa) (fn : List He.DefD) (gl : List (Str × Gk)) (g : Addr → Option Obj) : He.AlD × Bool := obsB fa fn gl (He.frG g (He.asD g n))
def hookB (n : Nat) (fa : List He.Fa) (fn : List He.DefD) (gl : List (Str × Gk)) : PySem.W.Hook where
  α := He.AlD × Bool
  obs := fun s => obsBG n fa fn gl s.heap.get?
  val := fun _ => (He.valD fn, true)
  says := fun _ h => ∃ K : PySem.W.Frag, K.In h ∧ obsB fa fn gl K = (He.valD fn, true)
  of := fun _ _ e => ⟨_, He.frG_in, e⟩
  keeps := fun _ _ _ ⟨K, hK, c⟩ k => ⟨K, PySem.W.Frag.In.keeps hK k, c⟩
theorem obsBG_eq {n : Nat} {fa : List He.Fa} {fn : List He.DefD} {gl : List (Str × Gk)} {g : Addr → Option Obj} {s : Shared} (h : ∀ a, g a = s.heap.get? a) : obsBG n fa fn gl g = (hookB n fa fn gl).obs s := by
  have e : g = s.heap.get? := funext h
  rw [e] <;> rfl
theorem env_of {K : PySem.W.Frag} {h : Heap} {mg : Str → Option Value} {tab : List Df} {ecs : List Str} {gl : List (Str × Gk)} (X : K.In h) (G : h.Ns mainGlobals mg) (c : He.SaysD (faOf tab ecs) (tab.map Df.toD) K) (cg : gl.all (fun q => glKB K q.1 q.2) = true) (ok : ∀ D ∈ tab, D.Ok (numb 0 (names tab)) gl (numb 0 ecs)) :
    Env1 K mg tab (numb 0 (names tab)) gl (numb 0 ecs) (adF K ecs) (adF K (names tab)) where
  df := fun i D e => by
    have hm := List.mem_of_getElem? e
    have e2 : adF K (names tab) i = He.ga K D.x := by
      unfold adF names
      rw [List.getElem?_map, e]
      rfl
    refine ⟨ok D hm, ?_, ?_⟩
    · rw [e2]
      refine He.glo_ok X G (c.fact i (f := .glo D.x) ?_)
      unfold faOf
      rw [List.getElem?_append_left (by rw [List.length_map]; exact (List.getElem?_eq_some_iff.mp e).1), List.getElem?_map, e]
      rfl
    · rw [e2]
      exact c.def_ i (d := D.toD) (by rw [List.getElem?_map, e]; rfl)
  fn := fun x f hf => by
    obtain ⟨_, h2⟩ := numb_at hf
    unfold names at h2
    rw [Nat.sub_zero, List.getElem?_map] at h2
    cases q : tab[f]? with
    | none => rw [q] at h2; cases h2
    | some D => rw [q] at h2; cases h2; exact ⟨D, rfl, rfl⟩
  blt := fun x hx => by
    obtain ⟨i, hi, e⟩ := List.getElem_of_mem hx
    refine He.free_ok X G (c.fact (tab.length + i) (f := .free x) ?_)
    unfold faOf
    rw [List.getElem?_append_right (by rw [List.length_map]; omega), List.length_map, Nat.add_sub_cancel_left, List.getElem?_append_left (by rw [List.length_map]; exact hi), List.getElem?_map, List.getElem?_eq_getElem hi, e]
    rfl
  gls := fun x g hl => glKB_ok X G (List.all_eq_true.mp cg (x, g) (lookup_in hl))
  exs := fun x k hk => by
    obtain ⟨_, h2⟩ := numb_at hk
    rw [Nat.sub_zero] at h2
    have e2 : adF K ecs k = He.ga K x := by
      unfold adF
      rw [h2]
    obtain ⟨p1, p2⟩ := exF_at h2
    have at_ : ∀ j, (faOf tab ecs)[tab.length + (bnames.length + j)]? = (exF ecs)[j]? := fun j => by
      unfold faOf
      rw [List.getElem?_append_right (by rw [List.length_map]; omega), List.length_map, Nat.add_sub_cancel_left, List.getElem?_append_right (by rw [List.length_map]; omega), List.length_map, Nat.add_sub_cancel_left]
    rw [e2]
    exact ⟨He.glo_ok X G (c.fact _ (f := .glo x) ((at_ _).trans p1)), He.exc_ok (c.fact _ (f := .exc x) ((at_ _).trans p2))⟩
/-- the end: behind the head -/
theorem end_of {l : PySem.W.OpenLaw} {n k w i : Nat} {q : Program} {loose : List Str} {XP : (Str → Option Value) → Heap → Prop} {d : DefRec} {tab : List Df} {ecs : List Str} {gl : List (Str × Gk)} {D : Df} {m : Nat}
    (hn : l.most = some n) (hn2 : n ≤ sizeLine) (hdf : d.params.defaults = []) (hr : Room k callerA) (hi : tab[i]? = some D) (hx : D.x = d.name) (hp : D.ps = [("script" : Str)]) (ok : ∀ D ∈ tab, D.Ok (numb 0 (names tab)) gl (numb 0 ecs))
    (P : ∀ ns : List Int, ns.length ≤ n → callF (tabT tab) w k i [.scr (ns.map PV.int)] = .ok (.bl true)) :
    PySem.W.WalkO q loose XP (fun _ h => ∃ K : PySem.W.Frag, K.In h ∧ obsB (faOf tab ecs) (tab.map Df.toD) gl K = (He.valD (tab.map Df.toD), true)) l.row.toRowW d [] (fun f vs => PySem.call f vs) := by
  refine walk_bw (n := n) (k := k) (x := "script") hn hn2 hdf hr fun wd mg f h Y G hmg => ?_
  obtain ⟨K, KX, c⟩ := Y
  have T := env_of KX G (congrArg (fun z : He.AlD × Bool => z.1) c) (congrArg (fun z : He.AlD × Bool => z.2) c) ok
  obtain ⟨O, m1, fd, F⟩ := T.df i D hi
  have e : f = adF K (names tab) i := by
    rw [← hx, m1] at hmg
    cases hmg
    rfl
  rw [e]
  refine ⟨K, fd, spF K (adF K ecs) (callF (tabT tab) w k) 1 i, KX, fun s v => ?_, fun H a ns hl hS => law_sp hS (P ns hl), fun base kb nb => ?_⟩
  · have b := FunD.bindsA (ps := D.ps) F (fun kV doc pm an cdv ct us hl => O.bn kV doc pm an cdv ct us hl) s [v] (by rw [hp]; rfl)
    rw [hp] at b
    exact b
  · have r := tab_ok (P := l.prog) (wd := wd) (base := base) (w := w) T k i D fd hi F
    rw [hp] at r
    exact r
end BW

/-! Lemmas for plain laws. -/
namespace BW
open PySem
/-- a loop that goes on to its end -/
theorem forL_all {t : List Nat} {b : PEnv → RS} (P : PEnv → Prop) : ∀ {xs : List PV} {env : PEnv}, P env → (∀ x ∈ xs, ∀ env, P env → ∃ env1, bindT t x env = .ok env1 ∧ ∃ env2, (b env1 = .fl (.next env2) ∨ b env1 = .fl (.cont env2)) ∧ P env2) →
    ∃ env', forL t b xs env = .fl (.next env') ∧ P env'
  | [], env, h, _ => ⟨env, rfl, h⟩
  | x :: xs, env, h, k => by
    obtain ⟨e1, h1, e2, h2, h3⟩ := k x List.mem_cons_self env h
    obtain ⟨e3, h4, h5⟩ := forL_all P (xs := xs) h3 fun y hy => k y (List.mem_cons_of_mem _ hy)
    refine ⟨e3, ?_, h5⟩
    show RS.of (bindT t x env) env _ = _
    rw [h1]
    rcases h2 with h2 | h2 <;> simp only [RS.of_ok, h2] <;> exact h4
/-- the same by place -/
theorem forL_ix {t : List Nat} {b : PEnv → RS} (P : Nat → PEnv → Prop) : ∀ {xs : List PV} {i : Nat} {env : PEnv}, P i env → (∀ j x env, xs[j]? = some x → P (i + j) env → ∃ env1, bindT t x env = .ok env1 ∧ ∃ env2, (b env1 = .fl (.next env2) ∨ b env1 = .fl (.cont env2)) ∧ P (i + j + 1) env2) →
    ∃ env', forL t b xs env = .fl (.next env') ∧ P (i + xs.length) env'
  | [], i, env, h, _ => ⟨env, rfl, h⟩
  | x :: xs, i, env, h, k => by
    obtain ⟨e1, h1, e2, h2, h3⟩ := k 0 x env rfl h
    obtain ⟨e3, h4, h5⟩ := forL_ix P (xs := xs) (i := i + 1) (env := e2) h3 fun j y env hy hp => by
      have e : i + 1 + j = i + (j + 1) := by omega
      rw [e] at hp ⊢
      exact k (j + 1) y env (by simpa using hy) hp
    refine ⟨e3, ?_, by rw [List.length_cons, ← Nat.add_assoc, Nat.add_right_comm]; exact h5⟩
    show RS.of (bindT t x env) env _ = _
    rw [h1]
    rcases h2 with h2 | h2 <;> simp only [RS.of_ok, h2] <;> exact h4
theorem frzs_ints : ∀ is : List Int, frzs (is.map PV.int) = is.map PV.int
  | [] => rfl
  | i :: is => by
    show PV.int i :: frzs (is.map PV.int) = _
    rw [frzs_ints is]
    rfl
theorem clss_ints : ∀ is : List Int, clss (is.map PV.int) = true
  | [] => rfl
  | i :: is => clss_ints is
/-! ### for simp -/
def mvS (env : PEnv) (i : Nat) : Option (Option PV) → Res (PV × PEnv)
  | some (some v) => .ok (v, env.set i none)
  | _ => .bad
@[simp] theorem mvS_some {env : PEnv} {i : Nat} {v : PV} : mvS env i (some (some v)) = .ok (v, env.set i none) := nr rfl
def goS (cl : Cl) (w : Nat) (ss : Sms) : PEnv → RS := fun env => evSs cl w env ss
def brS (cl : Cl) (w : Nat) (env : PEnv) (sa sb : Sms) : Bool → RS := fun k => if k = true then evSs cl w env sa else evSs cl w env sb
def anB (cl : Cl) (env : PEnv) (b : Ex) : PV → Res PV := fun x => (asB x).bind fun k => if k = true then evE cl env b else .ok (.bl false)
def orB (cl : Cl) (env : PEnv) (b : Ex) : PV → Res PV := fun x => (asB x).bind fun k => if k = true then .ok (.bl true) else evE cl env b
def chB (cl : Cl) (env : PEnv) (c : Ex) (co : Cop) (y : PV) : PV → Res PV := fun z => (asB z).bind fun k => if k = true then (evE cl env c).bind fun u => cmpop co (frz y) (frz u) else .ok (.bl false)
section
variable {cl : Cl} {w : Nat} {env : PEnv} {sa sb ss : Sms} {b : Ex} {k : Bool} {co : Cop} {y : PV}
@[simp] theorem goS_ap : goS cl w ss env = evSs cl w env ss := nr rfl
@[simp] theorem br_t : brS cl w env sa sb true = evSs cl w env sa := nr rfl
@[simp] theorem br_f : brS cl w env sa sb false = evSs cl w env sb := nr rfl
@[simp] theorem anB_bl : anB cl env b (.bl k) = if k = true then evE cl env b else .ok (.bl false) := nr rfl
@[simp] theorem orB_bl : orB cl env b (.bl k) = if k = true then .ok (.bl true) else evE cl env b := nr rfl
@[simp] theorem chB_bl : chB cl env b co y (.bl k) = if k = true then (evE cl env b).bind fun u => cmpop co (frz y) (frz u) else .ok (.bl false) := nr rfl
end
@[simp] theorem ite_and {p : Prop} [Decidable p] {m : Bool} : (if p then Res.ok (PV.bl m) else Res.ok (PV.bl false)) = Res.ok (.bl (decide p && m)) := by
  by_cases h : p <;> simp [h]
@[simp] theorem ite_or {p : Prop} [Decidable p] {m : Bool} : (if p then Res.ok (PV.bl true) else Res.ok (PV.bl m)) = Res.ok (.bl (decide p || m)) := by
  by_cases h : p <;> simp [h]
@[simp] theorem asB_bl {b : Bool} : asB (.bl b) = .ok b := nr rfl
@[simp] theorem peq_int {i j : Int} : peq (.int i) (.int j) = decide (i = j) := nr rfl
@[simp] theorem eqok_int {i j : Int} : eqok (.int i) (.int j) = true := nr rfl
@[simp] theorem peq_bl {i j : Bool} : peq (.bl i) (.bl j) = decide (i = j) := by cases i <;> cases j <;> rfl
@[simp] theorem eqok_bl {i j : Bool} : eqok (.bl i) (.bl j) = true := nr rfl
@[simp] theorem getE_0 {v : PV} {env : PEnv} : getE (some v :: env) 0 = .ok (frz v) := nr rfl
@[simp] theorem getE_S {o : Option PV} {env : PEnv} {n : Nat} : getE (o :: env) (n + 1) = getE env n := nr rfl
@[simp] theorem frz_int {i : Int} : frz (.int i) = .int i := nr rfl
@[simp] theorem frz_bl {i : Bool} : frz (.bl i) = .bl i := nr rfl
@[simp] theorem frz_str {i : Str} : frz (.str i) = .str i := nr rfl
@[simp] theorem frz_non : frz .non = .non := nr rfl
@[simp] theorem frz_scr {xs : List PV} : frz (.scr xs) = .scr xs := nr rfl
@[simp] theorem frz_lst {o : Bool} {xs : List PV} : frz (.lst o xs) = .lst false (frzs xs) := nr rfl
@[simp] theorem frz_tup {xs : List PV} : frz (.tup xs) = .tup (frzs xs) := nr rfl
@[simp] theorem frzs_nil : frzs [] = [] := nr rfl
@[simp] theorem frzs_cons {x : PV} {xs : List PV} : frzs (x :: xs) = frz x :: frzs xs := nr rfl
@[simp] theorem frzs_ints' (is : List Int) : frzs (is.map PV.int) = is.map PV.int := frzs_ints is
@[simp] theorem frzs_frzs' (xs : List PV) : frzs (frzs xs) = frzs xs := frzs_frzs xs
@[simp] theorem frz_frz' (x : PV) : frz (frz x) = frz x := frz_frz x
@[simp] theorem clss_ints' (is : List Int) : clss (is.map PV.int) = true := clss_ints is
@[simp] theorem bindT1 {i : Nat} {v : PV} {env : PEnv} : bindT [i] v env = .ok (env.set i (some v)) := nr rfl
theorem toDs_ints : ∀ is : List Int, toDs (is.map PV.int) = is.map PyData.int
  | [] => rfl
  | i :: is => by
    show PyData.int i :: toDs (is.map PV.int) = _
    rw [toDs_ints is]
    rfl
theorem okDs_ints {n : Nat} : ∀ is : List Int, okDs n (is.map PV.int) = true
  | [] => rfl
  | i :: is => by
    cases n <;> exact okDs_ints is
/-- is it the empty list -/
@[simp] theorem peq_nil {is : List Int} {o o' : Bool} : peq (.lst o (is.map PV.int)) (.lst o' []) = decide (is = []) := by
  cases is <;> rfl
@[simp] theorem eqok_nil {is : List Int} {o o' : Bool} : eqok (.lst o (is.map PV.int)) (.lst o' []) = true := by
  show (okDs 63 (is.map PV.int) && true) = true
  rw [okDs_ints]
  rfl
theorem cutP_map {α β : Type} {f : α → β} {xs : List α} {lo hi : Option Int} : cutP (xs.map f) lo hi = (cutP xs lo hi).map f := by
  unfold cutP
  rw [List.length_map, List.map_take, List.map_drop]
/-! ### the evaluator's rows, for simp -/
section
variable {cl : Cl} {w : Nat} {env : PEnv} {i : Nat} {a b c : Ex} {es : Exs} {op op' : Bop} {co co' : Cop} {m : Me} {ms : Mes} {s : Sm} {ss sa sb : Sms} {t : List Nat} {it : Iw} {lo hi cc : Exo}
@[simp] theorem vI_ex : vI (.ex a) = vE a := nr rfl
@[simp] theorem vI_rng : vI (.rng es) = vEs es := nr rfl
@[simp] theorem vI_rev : vI (.rev a) = vE a := nr rfl
@[simp] theorem vE_var : vE (.var i) = [i] := nr rfl
@[simp] theorem vEs_nil : vEs .nil = [] := nr rfl
@[simp] theorem vEs_cons : vEs (.cons a es) = vE a ++ vEs es := nr rfl
@[simp] theorem evE_var : evE cl env (.var i) = getE env i := nr rfl
@[simp] theorem evE_non : evE cl env .non = .ok .non := nr rfl
@[simp] theorem evE_bl {k : Bool} : evE cl env (.bl k) = .ok (.bl k) := nr rfl
@[simp] theorem evE_int {k : Int} : evE cl env (.int k) = .ok (.int k) := nr rfl
@[simp] theorem evE_str {k : Str} : evE cl env (.str k) = .ok (.str k) := nr rfl
@[simp] theorem evE_bin : evE cl env (.bin op a b) = (evE cl env a).bind fun x => (evE cl env b).bind fun y => binop op (frz x) (frz y) := nr rfl
@[simp] theorem evE_neg : evE cl env (.neg a) = (evE cl env a).bind fun x => match x with
  | .int i => .ok (.int (-i))
  | _ => .bad := nr rfl
@[simp] theorem evE_not : evE cl env (.not a) = (evE cl env a).bind fun x => (asB x).bind fun b => .ok (.bl (!b)) := nr rfl
@[simp] theorem evE_and : evE cl env (.and a b) = (evE cl env a).bind (anB cl env b) := nr rfl
@[simp] theorem evE_or : evE cl env (.or a b) = (evE cl env a).bind (orB cl env b) := nr rfl
@[simp] theorem evE_cmp : evE cl env (.cmp co a b) = (evE cl env a).bind fun x => (evE cl env b).bind fun y => cmpop co (frz x) (frz y) := nr rfl
@[simp] theorem evE_chn : evE cl env (.chn co co' a b c) = (evE cl env a).bind fun x => (evE cl env b).bind fun y => (cmpop co (frz x) (frz y)).bind (chB cl env c co' y) := nr rfl
@[simp] theorem evE_tup : evE cl env (.tup es) = (evEs cl env es).bind fun vs => .ok (.tup vs) := nr rfl
@[simp] theorem evE_lst : evE cl env (.lst es) = (evEs cl env es).bind fun vs => .ok (.lst true vs) := nr rfl
@[simp] theorem evE_idx : evE cl env (.idx a b) = (evE cl env a).bind fun x => (evE cl env b).bind fun y => idxop (frz x) (frz y) := nr rfl
@[simp] theorem evE_slc : evE cl env (.slc a lo hi) = (evE cl env a).bind fun x => (evO cl env lo).bind fun l => (evO cl env hi).bind fun h => slcop (frz x) l h := nr rfl
@[simp] theorem evE_call : evE cl env (.call i es) = (evEs cl env es).bind fun vs => cl i (frzs vs) := nr rfl
@[simp] theorem evE_bi {k : Bi} : evE cl env (.bi k es) = (evEs cl env es).bind fun vs => biV k (frzs vs) := nr rfl
@[simp] theorem evE_lc {own : List Nat} : evE cl env (.lc t own it cc a) = (evI cl env it).bind fun hx => (noX (lcL t (fun env => evC cl env cc) (fun env => evE cl env a) (wipeE own env) hx.2 [])).bind fun ys => .ok (.lst true ys) := nr rfl
@[simp] theorem evE_con {g : Gk} : evE cl env (.con g) = .ok g.pv := nr rfl
@[simp] theorem pv_int {k : Int} : (Gk.int k).pv = .int k := nr rfl
@[simp] theorem pv_str {k : Str} : (Gk.str k).pv = .str k := nr rfl
@[simp] theorem pv_txs {k : List Str} : (Gk.txs k).pv = .tup (k.map PV.str) := nr rfl
@[simp] theorem evEs_nil : evEs cl env .nil = .ok [] := nr rfl
@[simp] theorem evEs_cons : evEs cl env (.cons a es) = (evE cl env a).bind fun x => (evEs cl env es).bind fun xs => .ok (x :: xs) := nr rfl
@[simp] theorem evO_none : evO cl env .none = .ok none := nr rfl
@[simp] theorem evO_some : evO cl env (.some a) = (evE cl env a).bind fun x => intO x := nr rfl
@[simp] theorem evC_none : evC cl env .none = .ok true := nr rfl
@[simp] theorem evC_some : evC cl env (.some a) = (evE cl env a).bind fun x => asB x := nr rfl
@[simp] theorem evI_ex : evI cl env (.ex a) = (evE cl env a).bind fun x => (itemsV (frz x)).bind fun xs => .ok (x, xs) := nr rfl
@[simp] theorem evI_rng : evI cl env (.rng es) = (evEs cl env es).bind fun vs => (rngV (frzs vs)).bind fun xs => .ok (.non, xs) := nr rfl
@[simp] theorem evI_rev : evI cl env (.rev a) = (evE cl env a).bind fun x => (itemsV (frz x)).bind fun xs => .ok (x, xs.reverse) := nr rfl
@[simp] theorem evM_mv : evM cl env (.mv i) = mvS env i env[i]? := by
  unfold evM mvS
  cases env[i]? with
  | none => rfl
  | some o => cases o <;> rfl
@[simp] theorem evM_tup : evM cl env (.tup ms) = (evMs cl env ms).bind fun p => .ok (.tup p.1, p.2) := nr rfl
@[simp] theorem evM_ex : evM cl env (.ex a) = (evE cl env a).bind fun v => .ok (v, aft v (vE a) env) := nr rfl
@[simp] theorem evMs_nil : evMs cl env .nil = .ok ([], env) := nr rfl
@[simp] theorem evMs_cons : evMs cl env (.cons m ms) = (evM cl env m).bind fun p => (evMs cl p.2 ms).bind fun q => .ok (p.1 :: q.1, q.2) := nr rfl
@[simp] theorem evS_asg : evS cl w env (.asg t a) = RS.of (evE cl env a) env fun v => RS.of (bindT t v (aft v (vE a) env)) env fun env1 => .fl (.next env1) := nr rfl
@[simp] theorem evS_mut {x : Nat} {k : Mu} : evS cl w env (.mut x k es) = if hasL env x = true then RS.of (evEs cl env es) env fun vs => muS x k vs (aft (.tup (kept k vs)) (vEs es) env) else .bad := nr rfl
@[simp] theorem evS_ifs : evS cl w env (.ifs a sa sb) = RS.of ((evE cl env a).bind asB) env (brS cl w env sa sb) := nr rfl
@[simp] theorem evS_whl : evS cl w env (.whl a sa) = whlL (fun env => (evE cl env a).bind asB) (fun env => evSs cl w env sa) w env := nr rfl
@[simp] theorem evS_for : evS cl w env (.for_ t it sa) = RS.of (evI cl env it) env fun hx => forL t (fun env => evSs cl w env sa) hx.2 (aft hx.1 (vI it) env) := nr rfl
@[simp] theorem evS_ret : evS cl w env (.ret m) = RS.of (evM cl env m) env fun v => .fl (.ret v.1) := nr rfl
@[simp] theorem evS_ex : evS cl w env (.ex a) = RS.of (evE cl env a) env fun _ => .fl (.next env) := nr rfl
@[simp] theorem evS_brk : evS cl w env .brk = .fl (.brk env) := nr rfl
@[simp] theorem evS_cont : evS cl w env .cont = .fl (.cont env) := nr rfl
@[simp] theorem evS_pass : evS cl w env .pass = .fl (.next env) := nr rfl
@[simp] theorem evS_raise : evS cl w env (.raise i) = .exc i env := nr rfl
@[simp] theorem evSs_nil : evSs cl w env .nil = .fl (.next env) := nr rfl
@[simp] theorem evSs_cons : evSs cl w env (.cons s ss) = (evS cl w env s).seq (goS cl w ss) := nr rfl
end
section
variable {i j : Int} {a b : Bool} {xs ys : List PV} {x y : PV}
@[simp] theorem b_add : binop .add (.int i) (.int j) = .ok (.int (i + j)) := nr rfl
@[simp] theorem b_sub : binop .sub (.int i) (.int j) = .ok (.int (i - j)) := nr rfl
@[simp] theorem b_band : binop .band (.int i) (.int j) = .ok (.int (Builtin.bitAnd i j)) := nr rfl
@[simp] theorem b_bor : binop .bor (.int i) (.int j) = .ok (.int (Builtin.bitOr i j)) := nr rfl
@[simp] theorem b_bxor : binop .bxor (.int i) (.int j) = .ok (.int (Builtin.bitXor i j)) := nr rfl
theorem b_mul (h : (-(2 ^ 64) < i ∧ i < 2 ^ 64) ∨ (-(2 ^ 64) < j ∧ j < 2 ^ 64)) : binop .mul (.int i) (.int j) = .ok (.int (i * j)) := by
  show (if (decide _ || decide _) = true then _ else _) = _
  rw [if_pos (by rw [Bool.or_eq_true, decide_eq_true_eq, decide_eq_true_eq]; exact h)]
@[simp] theorem b_mulL (h : (-(2 ^ 64) < i ∧ i < 2 ^ 64)) : binop .mul (.int i) (.int j) = .ok (.int (i * j)) := b_mul (.inl h)
@[simp] theorem b_fdiv (h : 0 < j ∧ j < 1073741824) : binop .fdiv (.int i) (.int j) = .ok (.int (i / j)) := by
  show (if (decide _ && decide _) = true then _ else _) = _
  rw [if_pos (by rw [Bool.and_eq_true, decide_eq_true_eq, decide_eq_true_eq]; exact h)]
@[simp] theorem b_mod (h : 0 < j) : binop .mod (.int i) (.int j) = .ok (.int (i % j)) := by
  show (if decide _ = true then _ else _) = _
  rw [if_pos (decide_eq_true h)]
@[simp] theorem b_pow (h : (0 ≤ j ∧ j ≤ 1000000) ∧ i.natAbs < 2 ^ 64) : binop .pow (.int i) (.int j) = .ok (.int (i ^ j.toNat)) := by
  show (if (decide _ && decide _) = true then _ else _) = _
  rw [if_pos (by rw [Bool.and_eq_true, decide_eq_true_eq, decide_eq_true_eq]; exact h)]
@[simp] theorem b_shl (h : (0 ≤ j ∧ j ≤ 1000000) ∧ i.natAbs < 2 ^ 64) : binop .shl (.int i) (.int j) = .ok (.int (i * 2 ^ j.toNat)) := by
  show (if (decide _ && decide _) = true then _ else _) = _
  rw [if_pos (by rw [Bool.and_eq_true, decide_eq_true_eq, decide_eq_true_eq]; exact h)]
@[simp] theorem b_shr (h : 0 ≤ j) : binop .shr (.int i) (.int j) = .ok (.int (i / 2 ^ j.toNat)) := by
  show (if decide _ = true then _ else _) = _
  rw [if_pos (decide_eq_true h)]
@[simp] theorem c_lt : cmpop .lt (.int i) (.int j) = .ok (.bl (decide (i < j))) := nr rfl
@[simp] theorem c_le : cmpop .le (.int i) (.int j) = .ok (.bl (decide (i ≤ j))) := nr rfl
@[simp] theorem c_gt : cmpop .gt (.int i) (.int j) = .ok (.bl (decide (j < i))) := nr rfl
@[simp] theorem c_ge : cmpop .ge (.int i) (.int j) = .ok (.bl (decide (j ≤ i))) := nr rfl
theorem c_eq (h : eqok x y = true) : cmpop .eq x y = .ok (.bl (peq x y)) := by
  show (if _ = true then _ else _) = _
  rw [if_pos h]
theorem c_ne (h : eqok x y = true) : cmpop .ne x y = .ok (.bl (!peq x y)) := by
  show (if _ = true then _ else _) = _
  rw [if_pos h]
@[simp] theorem c_eqI : cmpop .eq (.int i) (.int j) = .ok (.bl (decide (i = j))) := nr rfl
@[simp] theorem c_neI : cmpop .ne (.int i) (.int j) = .ok (.bl (!decide (i = j))) := nr rfl
@[simp] theorem c_eqB : cmpop .eq (.bl a) (.bl b) = .ok (.bl (decide (a = b))) := by cases a <;> cases b <;> rfl
@[simp] theorem c_neB : cmpop .ne (.bl a) (.bl b) = .ok (.bl (!decide (a = b))) := by cases a <;> cases b <;> rfl
@[simp] theorem c_eq0 {is : List Int} {o o' : Bool} : cmpop .eq (.lst o (is.map PV.int)) (.lst o' []) = .ok (.bl (decide (is = []))) := by rw [c_eq eqok_nil, peq_nil]
@[simp] theorem c_eq00 {o o' : Bool} : cmpop .eq (.lst o []) (.lst o' []) = .ok (.bl true) := nr rfl
@[simp] theorem c_isnt : cmpop .isnt (.bl a) (.bl b) = .ok (.bl (a != b)) := nr rfl
@[simp] theorem len_lst {o : Bool} : biV .len [.lst o xs] = .ok (.int xs.length) := nr rfl
@[simp] theorem len_tup : biV .len [.tup xs] = .ok (.int xs.length) := nr rfl
@[simp] theorem len_scr : biV .len [.scr xs] = .ok (.int xs.length) := nr rfl
@[simp] theorem isI_int : biV .isInt [.int i] = .ok (.bl true) := nr rfl
@[simp] theorem isI_bl : biV .isInt [.bl a] = .ok (.bl true) := nr rfl
@[simp] theorem isB_int : biV .isBool [.int i] = .ok (.bl false) := nr rfl
@[simp] theorem isB_bl : biV .isBool [.bl a] = .ok (.bl true) := nr rfl
@[simp] theorem isL_lst {o : Bool} : biV .isList [.lst o xs] = .ok (.bl true) := nr rfl
@[simp] theorem isT_tup : biV .isTuple [.tup xs] = .ok (.bl true) := nr rfl
@[simp] theorem items_lst {o : Bool} : itemsV (.lst o xs) = .ok (frzs xs) := nr rfl
@[simp] theorem items_tup : itemsV (.tup xs) = .ok (frzs xs) := nr rfl
@[simp] theorem slc_lst {o : Bool} {lo hi : Option Int} : slcop (.lst o xs) lo hi = .ok (.lst true (frzs (cutP xs lo hi))) := nr rfl
@[simp] theorem slc_scr {lo hi : Option Int} : slcop (.scr xs) lo hi = .ok (.lst true (frzs (cutP xs lo hi))) := nr rfl
@[simp] theorem intO_int : intO (.int i) = .ok (some i) := nr rfl
@[simp] theorem aft_int {is : List Nat} {env : PEnv} : aft (.int i) is env = env := nr rfl
@[simp] theorem aft_bl {is : List Nat} {env : PEnv} : aft (.bl a) is env = env := nr rfl
@[simp] theorem aft_non {is : List Nat} {env : PEnv} : aft .non is env = env := nr rfl
@[simp] theorem aft_str {k : Str} {is : List Nat} {env : PEnv} : aft (.str k) is env = env := nr rfl
@[simp] theorem cls_int : cls (.int i) = true := nr rfl
@[simp] theorem cls_bl : cls (.bl a) = true := nr rfl
@[simp] theorem cls_str {k : Str} : cls (.str k) = true := nr rfl
@[simp] theorem cls_non : cls .non = true := nr rfl
@[simp] theorem cls_tup : cls (.tup xs) = clss xs := nr rfl
@[simp] theorem cls_lst {o : Bool} : cls (.lst o xs) = (o && clss xs) := nr rfl
@[simp] theorem clss_nil : clss [] = true := nr rfl
@[simp] theorem clss_cons : clss (x :: xs) = (cls x && clss xs) := nr rfl
@[simp] theorem aft_cls {is : List Nat} {env : PEnv} (h : cls x = true) : aft x is env = env := if_pos h
@[simp] theorem aft_lstF {is : List Nat} {env : PEnv} : aft (.lst false xs) is env = frzV is env := if_neg (by show ¬ (false && clss xs) = true; rw [Bool.false_and]; decide)
@[simp] theorem frzV_nil {env : PEnv} : frzV [] env = env := nr rfl
def fr1 (o : Option PV) : Option PV := o.map frz
@[simp] theorem fr1_some : fr1 (some x) = some (frz x) := nr rfl
@[simp] theorem fr1_none : fr1 none = none := nr rfl
def frAt : Nat → PEnv → PEnv
  | _, [] => []
  | 0, o :: env => fr1 o :: env
  | n + 1, o :: env => o :: frAt n env
@[simp] theorem frAt_0 {o : Option PV} {env : PEnv} : frAt 0 (o :: env) = fr1 o :: env := nr rfl
@[simp] theorem frAt_S {o : Option PV} {n : Nat} {env : PEnv} : frAt (n + 1) (o :: env) = o :: frAt n env := nr rfl
theorem frAt_eq : ∀ {i : Nat} {env : PEnv}, (match env[i]? with
    | some (some v) => env.set i (some (frz v))
    | _ => env) = frAt i env
  | _, [] => by cases ‹Nat› <;> rfl
  | 0, none :: env => rfl
  | 0, some x :: env => rfl
  | n + 1, o :: env => by
    have q := frAt_eq (i := n) (env := env)
    show _ = o :: frAt n env
    rw [← q, List.getElem?_cons_succ]
    cases env[n]? with
    | none => rfl
    | some u => cases u <;> rfl
@[simp] theorem frzV_cons {i : Nat} {is : List Nat} {env : PEnv} : frzV (i :: is) env = frzV is (frAt i env) := by
  show frzV is (match env[i]? with
    | some (some v) => env.set i (some (frz v))
    | _ => env) = _
  rw [frAt_eq]
@[simp] theorem aft_ints {ks : List Int} {is : List Nat} {env : PEnv} : aft (.lst true (ks.map PV.int)) is env = env := by
  unfold aft
  exact if_pos (show (true && clss (ks.map PV.int)) = true by rw [clss_ints]; rfl)
@[simp] theorem cutP_map' {α β : Type} {f : α → β} {xs : List α} {lo hi : Option Int} : cutP (xs.map f) lo hi = (cutP xs lo hi).map f := cutP_map
end
theorem small_nat {n : Nat} (h : n ≤ 1000000) : smallI (n : Int) = true := by
  have e : (2 : Int) ^ 62 = 4611686018427387904 := by decide
  have h1 : -((2 : Int) ^ 62) ≤ (n : Int) := by rw [e]; omega
  have h2 : (n : Int) < (2 : Int) ^ 62 := by rw [e]; omega
  exact decide_eq_true ⟨h1, h2⟩
theorem rng1 {n : Nat} (h : n ≤ 1000000) : rngV [.int (n : Int)] = .ok (rngI 0 (n : Int)) := by
  simp only [rngV]
  rw [if_pos (small_nat h)]
/-- over a range -/
theorem forL_rng {t : List Nat} {b : PEnv → RS} (P : Nat → PEnv → Prop) {n : Nat} {env : PEnv} (h0 : P 0 env) (k : ∀ i, i < n → ∀ env, P i env → ∃ env1, bindT t (.int (i : Int)) env = .ok env1 ∧ ∃ env2, (b env1 = .fl (.next env2) ∨ b env1 = .fl (.cont env2)) ∧ P (i + 1) env2) :
    ∃ env', forL t b (rngI 0 (n : Int)) env = .fl (.next env') ∧ P n env' := by
  obtain ⟨env', h1, h2⟩ := forL_ix (t := t) (b := b) P (xs := rngI 0 (n : Int)) (i := 0) h0 fun j x env hx hp => by
    have hl : (rngI 0 (n : Int)).length = n := by
      rw [rngI_len]
      omega
    have hj : j < n := by
      have := (List.getElem?_eq_some_iff.mp hx).1
      omega
    rw [rngI_at 0 (n : Int) (by omega)] at hx
    cases hx
    rw [Nat.zero_add] at hp ⊢
    have e : (0 : Int) + (j : Int) = (j : Int) := by omega
    rw [e]
    exact k j hj env hp
  refine ⟨env', h1, ?_⟩
  rw [rngI_len] at h2
  have e : 0 + ((n : Int) - 0).toNat = n := by omega
  rw [e] at h2
  exact h2
def appS (x : Nat) (v : PV) (env : PEnv) : Option (Option PV) → RS
  | some (some (.lst true xs)) => if xs.length < most then .fl (.next (env.set x (some (.lst true (xs ++ [v]))))) else .bad
  | _ => .bad
@[simp] theorem appS_lst {x : Nat} {v : PV} {env : PEnv} {xs : List PV} : appS x v env (some (some (.lst true xs))) = if xs.length < most then .fl (.next (env.set x (some (.lst true (xs ++ [v]))))) else .bad := nr rfl
@[simp] theorem muS_app {x : Nat} {v : PV} {env : PEnv} : muS x .append [v] env = appS x v env env[x]? := by
  unfold muS appS
  split
  · rename_i xs e
    show (match (if xs.length < most then some (xs ++ [v]) else none) with
      | some ys => RS.fl (.next (env.set x (some (.lst true ys))))
      | none => .bad) = _
    by_cases h : xs.length < most
    · rw [if_pos h]
      simp [h, e]
    · rw [if_neg h]
      simp [h, e]
  · rename_i h
    first
    | rfl
    | (split
       · rename_i xs e
         exact absurd e (h xs)
       · rfl)
theorem eqvAll_ints : ∀ as bs : List Int, PyData.eqvAll (as.map PyData.int) (bs.map PyData.int) = decide (as = bs)
  | [], [] => rfl
  | [], _ :: _ => rfl
  | _ :: _, [] => rfl
  | a :: as, b :: bs => by
    show ((a == b) && PyData.eqvAll (as.map PyData.int) (bs.map PyData.int)) = _
    rw [eqvAll_ints as bs, Bool.eq_iff_iff]
    simp
theorem peq_ints {o o' : Bool} {as bs : List Int} : peq (.lst o (as.map PV.int)) (.lst o' (bs.map PV.int)) = decide (as = bs) := by
  show PyData.eqvAll (toDs (as.map PV.int)) (toDs (bs.map PV.int)) = _
  rw [toDs_ints, toDs_ints, eqvAll_ints]
theorem eqok_ints {o o' : Bool} {as bs : List Int} : eqok (.lst o (as.map PV.int)) (.lst o' (bs.map PV.int)) = true := by
  show (okDs 63 (as.map PV.int) && okDs 63 (bs.map PV.int)) = true
  rw [okDs_ints, okDs_ints]
  rfl
@[simp] theorem c_eqL {o o' : Bool} {as bs : List Int} : cmpop .eq (.lst o (as.map PV.int)) (.lst o' (bs.map PV.int)) = .ok (.bl (decide (as = bs))) := by rw [c_eq eqok_ints, peq_ints]
@[simp] theorem c_neL {o o' : Bool} {as bs : List Int} : cmpop .ne (.lst o (as.map PV.int)) (.lst o' (bs.map PV.int)) = .ok (.bl (!decide (as = bs))) := by rw [c_ne eqok_ints, peq_ints]
@[simp] theorem list_lst {o : Bool} {xs : List PV} : biV .list [.lst o xs] = .ok (.lst true (frzs xs)) := nr rfl
/-- a comprehension without a test -/
theorem lcL_map {t : List Nat} {e : PEnv → Res PV} {env : PEnv} {g : PV → PV} : ∀ {xs acc : List PV}, (∀ x ∈ xs, ∃ env1, bindT t x env = .ok env1 ∧ e env1 = .ok (g x)) → acc.length + xs.length ≤ most → lcL t (fun _ => .ok true) e env xs acc = .ok (acc ++ xs.map g)
  | [], acc, _, _ => by
    rw [List.map_nil, List.append_nil]
    rfl
  | x :: xs, acc, h, hl => by
    obtain ⟨env1, h1, h2⟩ := h x List.mem_cons_self
    rw [List.length_cons] at hl
    unfold lcL
    rw [h1, Res.bind_ok, Res.bind_ok, if_pos rfl, h2, Res.bind_ok, if_pos (by omega), lcL_map (fun y hy => h y (List.mem_cons_of_mem _ hy)) (by rw [List.length_append, List.length_singleton]; omega), List.append_assoc]
    rfl
@[simp] theorem noX_okS {α : Type} {a : α} : noX (Res.ok a) = .ok a := nr rfl
@[simp] theorem wipeE_nil {env : PEnv} : wipeE [] env = env := nr rfl
@[simp] theorem wipeE_cons {i : Nat} {is : List Nat} {env : PEnv} : wipeE (i :: is) env = wipeE is (env.set i none) := nr rfl
theorem cut_len {α : Type} {xs : List α} {lo hi : Option Int} : (cutP xs lo hi).length ≤ xs.length := by
  unfold cutP
  rw [List.length_take, List.length_drop]
  omega
/-- a comprehension over whole numbers -/
theorem lcL_ints {i : Nat} {e : PEnv → Res PV} {env : PEnv} {g : Int → Int} {xs : List Int} (h : ∀ x ∈ xs, e (env.set i (some (.int x))) = .ok (.int (g x))) (hl : xs.length ≤ most) : lcL [i] (fun _ => .ok true) e env (xs.map PV.int) [] = .ok ((xs.map g).map PV.int) := by
  rw [lcL_map (g := fun v => match v with | .int x => .int (g x) | v => v) (fun v hv => by
    obtain ⟨x, hx, rfl⟩ := List.mem_map.mp hv
    exact ⟨_, bindT1, h x hx⟩) (by rw [List.length_map]; simpa using hl)]
  rw [List.nil_append, List.map_map, List.map_map]
  rfl
@[simp] theorem flat_str {x : Str} : flat (.str x) = true := nr rfl
@[simp] theorem flat_int {x : Int} : flat (.int x) = true := nr rfl
@[simp] theorem fin_nil {x : PV} : fin x [] = false := nr rfl
@[simp] theorem fin_cons {x y : PV} {ys : List PV} : fin x (y :: ys) = (feq y x || fin x ys) := nr rfl
@[simp] theorem feq_str {x y : Str} : feq (.str x) (.str y) = decide (x = y) := nr (by
  show (x == y) = _
  rw [Bool.eq_iff_iff]
  simp)
@[simp] theorem feq_int {x y : Int} : feq (.int x) (.int y) = decide (x = y) := nr (by
  show (x == y) = _
  rw [Bool.eq_iff_iff]
  simp)
@[simp] theorem feq_si {x : Str} {y : Int} : feq (.str x) (.int y) = false := nr rfl
@[simp] theorem feq_is {x : Str} {y : Int} : feq (.int y) (.str x) = false := nr rfl
@[simp] theorem c_inT {x : PV} {ys : List PV} (h : (flat x && ys.all flat) = true) : cmpop .isin x (.tup ys) = .ok (.bl (fin x ys)) := nr (by
  show (if _ = true then _ else _) = _
  rw [if_pos h]
  rfl)
@[simp] theorem c_ninT {x : PV} {ys : List PV} (h : (flat x && ys.all flat) = true) : cmpop .notin x (.tup ys) = .ok (.bl (!fin x ys)) := nr (by
  show (if _ = true then _ else _) = _
  rw [if_pos h]
  rfl)
theorem peqS {x y : Str} : peq (.str x) (.str y) = decide (x = y) := by
  show (x == y) = _
  rw [Bool.eq_iff_iff]
  simp
@[simp] theorem c_eqS {x y : Str} : cmpop .eq (.str x) (.str y) = .ok (.bl (decide (x = y))) := by rw [c_eq rfl, peqS]
@[simp] theorem c_neS {x y : Str} : cmpop .ne (.str x) (.str y) = .ok (.bl (!decide (x = y))) := by rw [c_ne rfl, peqS]
@[simp] theorem ofS_inj {a b : String} : Str.ofString a = Str.ofString b ↔ a = b := by
  constructor
  · intro h
    rw [Str.ofString_eq_toList, Str.ofString_eq_toList] at h
    have e : (a.toList.map Char.toNat) = (b.toList.map Char.toNat) := by
      have e := congrArg (fun z : Str => z.cps.toList) h
      simpa using e
    have inj : ∀ xs ys : List Char, xs.map Char.toNat = ys.map Char.toNat → xs = ys := fun xs => by
      induction xs with
      | nil => intro ys h; cases ys <;> first | rfl | cases h
      | cons x xs ih =>
        intro ys h
        cases ys with
        | nil => cases h
        | cons y ys =>
          simp only [List.map_cons, List.cons.injEq] at h
          have e1 : x = y := Char.ext (UInt32.toNat.inj h.1)
          rw [e1, ih ys h.2]
    exact String.ext (inj _ _ e)
  · exact fun h => by rw [h]
theorem cut_from {α : Type} {xs : List α} {k : Nat} (h : k ≤ xs.length) : cutP xs (some (k : Int)) none = xs.drop k := by
  unfold cutP
  rw [HT.sIx_nat, HT.sIx_none, Nat.min_eq_left h]
  exact List.take_of_length_le (by rw [List.length_drop]; omega)
theorem cut_to {α : Type} {xs : List α} {k : Nat} (h : k ≤ xs.length) : cutP xs none (some (k : Int)) = xs.take k := by
  unfold cutP
  rw [HT.sIx_nat, HT.sIx_none, Nat.min_eq_left h, Nat.sub_zero, List.drop_zero]
theorem b_addL {o o' : Bool} {xs ys : List PV} (h : xs.length + ys.length ≤ most) : binop .add (.lst o xs) (.lst o' ys) = .ok (.lst true (frzs xs ++ frzs ys)) := by
  have e : (decide (Bop.add = Bop.add) && decide (xs.length + ys.length ≤ most)) = true := by
    rw [decide_eq_true h]
    rfl
  exact if_pos e
theorem b_addT {xs ys : List PV} (h : xs.length + ys.length ≤ most) : binop .add (.tup xs) (.tup ys) = .ok (.tup (frzs xs ++ frzs ys)) := by
  have e : (decide (Bop.add = Bop.add) && decide (xs.length + ys.length ≤ most)) = true := by
    rw [decide_eq_true h]
    rfl
  exact if_pos e
theorem at_map {α : Type} {f : α → PV} {xs : List α} {i : Int} (h0 : 0 ≤ i) (h : i < xs.length) : ∃ x ∈ xs, L2.atI (xs.map f) i = some (f x) := by
  obtain ⟨j, rfl⟩ := Int.eq_ofNat_of_zero_le h0
  have hj : j < xs.length := by omega
  exact ⟨xs[j], List.getElem_mem hj, L2.atI_nat (by rw [List.getElem?_map, List.getElem?_eq_getElem hj]; rfl)⟩
@[simp] theorem max_int {i j : Int} : biV .max [.int i, .int j] = .ok (.int (if j > i then j else i)) := nr rfl
@[simp] theorem min_int {i j : Int} : biV .min [.int i, .int j] = .ok (.int (if j < i then j else i)) := nr rfl
@[simp] theorem tup_lst {o : Bool} {xs : List PV} : biV .tuple [.lst o xs] = .ok (.tup (frzs xs)) := nr rfl
theorem ix_at {o : Bool} {xs : List PV} {i : Int} {v : PV} (h : L2.atI xs i = some v) : idxop (.lst o xs) (.int i) = .ok (frz v) := by
  show (match L2.atI xs i with | some v => Res.ok (frz v) | none => .bad) = _
  rw [h]
theorem ix_atT {xs : List PV} {i : Int} {v : PV} (h : L2.atI xs i = some v) : idxop (.tup xs) (.int i) = .ok (frz v) := by
  show (match L2.atI xs i with | some v => Res.ok (frz v) | none => .bad) = _
  rw [h]
@[simp] theorem ixT0 {x : PV} {xs : List PV} : idxop (.tup (x :: xs)) (.int 0) = .ok (frz x) := ix_atT (L2.atI_nat (xs := x :: xs) (j := 0) rfl)
@[simp] theorem ixT1 {x y : PV} {xs : List PV} : idxop (.tup (x :: y :: xs)) (.int 1) = .ok (frz y) := ix_atT (L2.atI_nat (xs := x :: y :: xs) (j := 1) rfl)
@[simp] theorem ixT2 {x y z : PV} {xs : List PV} : idxop (.tup (x :: y :: z :: xs)) (.int 2) = .ok (frz z) := ix_atT (L2.atI_nat (xs := x :: y :: z :: xs) (j := 2) rfl)
@[simp] theorem ixT3 {x y z u : PV} {xs : List PV} : idxop (.tup (x :: y :: z :: u :: xs)) (.int 3) = .ok (frz u) := ix_atT (L2.atI_nat (xs := x :: y :: z :: u :: xs) (j := 3) rfl)
@[simp] theorem ixL0 {o : Bool} {x : PV} {xs : List PV} : idxop (.lst o (x :: xs)) (.int 0) = .ok (frz x) := ix_at (L2.atI_nat (xs := x :: xs) (j := 0) rfl)
@[simp] theorem ixL1 {o : Bool} {x y : PV} {xs : List PV} : idxop (.lst o (x :: y :: xs)) (.int 1) = .ok (frz y) := ix_at (L2.atI_nat (xs := x :: y :: xs) (j := 1) rfl)
@[simp] theorem frzs_append {xs ys : List PV} : frzs (xs ++ ys) = frzs xs ++ frzs ys := by
  induction xs with
  | nil => rfl
  | cons x xs ih => rw [List.cons_append, frzs_cons, ih, frzs_cons, List.cons_append]
@[simp] theorem clss_append {xs ys : List PV} : clss (xs ++ ys) = (clss xs && clss ys) := by
  induction xs with
  | nil => rfl
  | cons x xs ih => rw [List.cons_append, clss_cons, ih, clss_cons, Bool.and_assoc]
mutual
theorem okD_mono : ∀ {n m : Nat} {x : PV}, okD n x = true → n ≤ m → okD m x = true
  | n + 1, m + 1, .tup xs, h, l => okDs_mono (n := n) (xs := xs) h (by omega)
  | n + 1, m + 1, .lst _ xs, h, l => okDs_mono (n := n) (xs := xs) h (by omega)
  | 0, _, .tup xs, h, l => by cases h
  | 0, _, .lst _ xs, h, l => by cases h
  | _ + 1, 0, .tup xs, h, l => absurd l (by omega)
  | _ + 1, 0, .lst _ xs, h, l => absurd l (by omega)
  | n, _, .dct _ _, h, _ => by cases n <;> cases h
  | n, _, .exn _, h, _ => by cases n <;> cases h
  | n, _, .scr _, h, _ => by cases n <;> cases h
  | _, m, .non, _, _ => by cases m <;> rfl
  | _, m, .bl _, _, _ => by cases m <;> rfl
  | _, m, .int _, _, _ => by cases m <;> rfl
  | _, m, .str _, _, _ => by cases m <;> rfl
theorem okDs_mono : ∀ {n m : Nat} {xs : List PV}, okDs n xs = true → n ≤ m → okDs m xs = true
  | n, m, [], h, l => by cases m <;> rfl
  | n, m, x :: xs, h, l => by
    have h : (okD n x && okDs n xs) = true := h
    rw [Bool.and_eq_true] at h
    show (okD m x && okDs m xs) = true
    rw [okD_mono h.1 l, okDs_mono h.2 l]
    rfl
end
theorem okDs_all {n : Nat} : ∀ {xs : List PV}, (∀ x ∈ xs, okD n x = true) → okDs n xs = true
  | [], _ => by cases n <;> rfl
  | x :: xs, h => by
    show (okD n x && okDs n xs) = true
    rw [h x List.mem_cons_self, okDs_all fun y hy => h y (List.mem_cons_of_mem _ hy)]
    rfl
theorem okD_flat {n : Nat} {x : PV} (h : flat x = true) : okD n x = true := by
  cases x <;> first | (cases h; done) | (cases n <;> rfl)
/-- a comprehension with a test -/
theorem lcL_filter {t : List Nat} {c : PEnv → Res Bool} {e : PEnv → Res PV} {env : PEnv} {b : PV → Bool} {g : PV → PV} : ∀ {xs acc : List PV}, (∀ x ∈ xs, ∃ env1, bindT t x env = .ok env1 ∧ c env1 = .ok (b x) ∧ (b x = true → e env1 = .ok (g x))) → acc.length + xs.length ≤ most → lcL t c e env xs acc = .ok (acc ++ (xs.filter b).map g)
  | [], acc, _, _ => by
    rw [List.filter_nil, List.map_nil, List.append_nil]
    rfl
  | x :: xs, acc, h, hl => by
    obtain ⟨env1, h1, h2, h3⟩ := h x List.mem_cons_self
    rw [List.length_cons] at hl
    have ih := fun (acc : List PV) (z : acc.length + xs.length ≤ most) => lcL_filter (t := t) (c := c) (e := e) (env := env) (b := b) (g := g) (xs := xs) (acc := acc) (fun y hy => h y (List.mem_cons_of_mem _ hy)) z
    unfold lcL
    rw [h1, Res.bind_ok, h2, Res.bind_ok]
    cases q : b x with
    | true =>
      rw [if_pos rfl, h3 q, Res.bind_ok, if_pos (by omega), ih _ (by rw [List.length_append, List.length_singleton]; omega), List.append_assoc, List.filter_cons_of_pos q]
      rfl
    | false =>
      rw [if_neg (by decide), ih _ (by omega), List.filter_cons_of_neg (by rw [q]; decide)]
theorem c_nilL {o o' : Bool} {xs : List PV} (h : okDs 63 xs = true) : cmpop .eq (.lst o xs) (.lst o' []) = .ok (.bl (decide (xs = []))) := by
  rw [c_eq (show eqok (.lst o xs) (.lst o' []) = true from by
    show (okDs 63 xs && true) = true
    rw [h]
    rfl)]
  cases xs <;> rfl
end BW

namespace BW.Law
open PySem PySem.Spec PyProof.Rows
open L2 hiding St
def top (i : Nat) : Stmt := PySem.Challenge.pw_beatwright_k04_size_of_a_term.main.body.getD i (.Pass ⟨0, 0, 0, 0⟩)
abbrev f_inner : Nat := 0
abbrev f_size_of : Nat := 1
abbrev f__law_whole : Nat := 2
abbrev f__law_stream : Nat := 3
abbrev f__law_leaf : Nat := 4
abbrev f__law_over : Nat := 5
abbrev f_law : Nat := 6
def b_inner : Fd := ⟨1, 1, (.cons (.ifs (.cmp .isin (.idx (.var 0) (.int 0)) (.con (.txs ["num", "box", "late", "door"]))) (.cons (.ret (.ex (.lst .nil))) .nil) .nil) (.cons (.ifs (.cmp .eq (.idx (.var 0) (.int 0)) (.str "part")) (.cons (.ret (.ex (.lst (.cons (.idx (.var 0) (.int 1)) .nil)))) .nil) .nil) (.cons (.ret (.ex (.bi .list (.cons (.slc (.var 0) (.some (.int 1)) .none) .nil)))) .nil)))⟩
def d_inner : Df := ⟨"inner", defArgs (top 2), defBody (top 2), defScope (top 2), ["term"], ["term"], b_inner⟩
theorem n_inner : d_inner.Bn := fun _ _ _ _ _ _ us hl => match us, hl with | [_], _ => rfl
def l_size_of_0 : Sms := (.cons (.asg [4] (.call f_size_of (.cons (.var 3) .nil))) (.cons (.asg [1] (.bin .add (.var 1) (.idx (.var 4) (.int 0)))) (.cons (.asg [2] (.bi .max (.cons (.var 2) (.cons (.idx (.var 4) (.int 1)) .nil)))) .nil)))
def b_size_of : Fd := ⟨1, 5, (.cons (.asg [1] (.int 1)) (.cons (.asg [2] (.int 0)) (.cons (.for_ [3] (.ex (.call f_inner (.cons (.var 0) .nil))) l_size_of_0) (.cons (.ret (.tup (.cons (.mv 1) (.cons (.ex (.bin .add (.var 2) (.int 1))) .nil)))) .nil))))⟩
def d_size_of : Df := ⟨"size_of", defArgs (top 3), defBody (top 3), defScope (top 3), ["term", "parts", "deep", "one", "size"], ["term"], b_size_of⟩
theorem n_size_of : d_size_of.Bn := fun _ _ _ _ _ _ us hl => match us, hl with | [_], _ => rfl
def b__law_whole : Fd := ⟨1, 1, (.cons (.ret (.ex (.and (.bi .isInt (.cons (.var 0) .nil)) (.not (.bi .isBool (.cons (.var 0) .nil)))))) .nil)⟩
def d__law_whole : Df := ⟨"_law_whole", defArgs (top 5), defBody (top 5), defScope (top 5), ["found"], ["found"], b__law_whole⟩
theorem n__law_whole : d__law_whole.Bn := fun _ _ _ _ _ _ us hl => match us, hl with | [_], _ => rfl
def l__law_stream_0 : Sms := (.cons (.asg [3] (.bin .mod (.bin .add (.bin .add (.bin .add (.bin .mul (.var 3) (.var 3)) (.bin .mul (.int 48271) (.var 3))) (.var 4)) (.int 1)) (.int 2305843009213693951))) (.cons (.mut 2 .append (.cons (.var 3) .nil)) .nil))
def b__law_stream : Fd := ⟨2, 5, (.cons (.asg [2] (.lst .nil)) (.cons (.asg [3] (.bin .mod (.var 0) (.int 2305843009213693951))) (.cons (.for_ [4] (.rng (.cons (.bin .add (.var 1) (.int 3)) .nil)) l__law_stream_0) (.cons (.ret (.ex (.slc (.var 2) (.some (.int 3)) .none))) .nil))))⟩
def d__law_stream : Df := ⟨"_law_stream", defArgs (top 6), defBody (top 6), defScope (top 6), ["cell", "many", "found", "number", "k"], ["cell", "many"], b__law_stream⟩
theorem n__law_stream : d__law_stream.Bn := fun _ _ _ _ _ _ us hl => match us, hl with | [_, _], _ => rfl
def b__law_leaf : Fd := ⟨1, 2, (.cons (.asg [1] (.idx (.lst (.cons (.str "a") (.cons (.str "b") (.cons (.str "ab") (.cons (.str "num") (.cons (.str "") .nil)))))) (.bin .mod (.bin .fdiv (.var 0) (.int 4)) (.int 5)))) (.cons (.ifs (.cmp .eq (.bin .mod (.var 0) (.int 4)) (.int 0)) (.cons (.ret (.tup (.cons (.tup (.cons (.ex (.str "num")) (.cons (.ex (.bin .sub (.bin .mod (.bin .fdiv (.var 0) (.int 20)) (.int 200)) (.int 50))) (.cons (.ex (.bin .fdiv (.var 0) (.int 20))) .nil)))) (.cons (.ex (.int 1)) (.cons (.ex (.int 1)) .nil))))) .nil) .nil) (.cons (.ret (.tup (.cons (.tup (.cons (.ex (.idx (.lst (.cons (.str "box") (.cons (.str "late") (.cons (.str "door") .nil)))) (.bin .sub (.bin .mod (.var 0) (.int 4)) (.int 1)))) (.cons (.mv 1) .nil))) (.cons (.ex (.int 1)) (.cons (.ex (.int 1)) .nil))))) .nil)))⟩
def d__law_leaf : Df := ⟨"_law_leaf", defArgs (top 7), defBody (top 7), defScope (top 7), ["number", "name"], ["number"], b__law_leaf⟩
theorem n__law_leaf : d__law_leaf.Bn := fun _ _ _ _ _ _ us hl => match us, hl with | [_], _ => rfl
def l__law_over_0 : Sms := (.cons (.asg [5] (.bin .add (.var 5) (.idx (.var 4) (.int 1)))) (.cons (.asg [6] (.bi .max (.cons (.var 6) (.cons (.idx (.var 4) (.int 2)) .nil)))) .nil))
def b__law_over : Fd := ⟨3, 7, (.cons (.asg [3] (.bin .add (.tup (.cons (.var 0) .nil)) (.bi .tuple (.cons (.lc [4] [4] (.ex (.var 1)) .none (.idx (.var 4) (.int 0))) .nil)))) (.cons (.ifs (.cmp .eq (.var 0) (.str "part")) (.cons (.asg [3] (.bin .add (.var 3) (.tup (.cons (.bin .sub (.bin .mod (.var 2) (.int 70)) (.int 3)) (.cons (.bin .sub (.bin .mod (.bin .fdiv (.var 2) (.int 70)) (.int 70)) (.int 3)) .nil))))) .nil) .nil) (.cons (.asg [5] (.int 1)) (.cons (.asg [6] (.int 0)) (.cons (.for_ [4] (.ex (.var 1)) l__law_over_0) (.cons (.ret (.tup (.cons (.mv 3) (.cons (.mv 5) (.cons (.ex (.bin .add (.var 6) (.int 1))) .nil))))) .nil))))))⟩
def d__law_over : Df := ⟨"_law_over", defArgs (top 8), defBody (top 8), defScope (top 8), ["form", "some", "number", "term", "one", "parts", "deep"], ["form", "some", "number"], b__law_over⟩
theorem n__law_over : d__law_over.Bn := fun _ _ _ _ _ _ us hl => match us, hl with | [_, _, _], _ => rfl
def i_law_0 : Sm := (.ifs (.and (.cmp .eq (.bin .mod (.var 3) (.int 14)) (.int 2)) (.cmp .gt (.bi .len (.cons (.var 2) .nil)) (.int 0))) (.cons (.asg [6] (.idx (.var 2) (.bin .sub (.bin .sub (.bi .len (.cons (.var 2) .nil)) (.int 1)) (.bin .mod (.var 4) (.bi .min (.cons (.int 2) (.cons (.bi .len (.cons (.var 2) .nil)) .nil))))))) .nil) .nil)
def i_law_1 : Sm := (.ifs (.and (.cmp .gt (.var 5) (.int 0)) (.cmp .le (.var 5) (.bi .len (.cons (.var 2) .nil)))) (.cons (.asg [6] (.call f__law_over (.cons (.idx (.var 1) (.bin .mod (.var 3) (.int 14))) (.cons (.slc (.var 2) (.some (.bin .sub (.bi .len (.cons (.var 2) .nil)) (.var 5))) .none) (.cons (.var 4) .nil))))) (.cons (.asg [2] (.slc (.var 2) .none (.some (.bin .sub (.bi .len (.cons (.var 2) .nil)) (.var 5))))) .nil)) .nil)
def i_law_2 : Sm := (.ifs (.or (.cmp .gt (.idx (.var 6) (.int 1)) (.int 1000)) (.cmp .gt (.idx (.var 6) (.int 2)) (.int 60))) (.cons (.asg [6] (.call f__law_leaf (.cons (.var 4) .nil))) .nil) .nil)
def l_law_0 : Sms := (.cons (.asg [4] (.idx (.call f__law_stream (.cons (.bin .fdiv (.var 3) (.int 14)) (.cons (.int 1) .nil))) (.int 0))) (.cons (.asg [5] (.idx (.lst (.cons (.int 0) (.cons (.int 0) (.cons (.int 0) (.cons (.int 1) (.cons (.int 1) (.cons (.int 2) (.cons (.int 2) (.cons (.int 2) (.cons (.int 2) (.cons (.int 2) (.cons (.int 2) (.cons (.int 2) (.cons (.int 2) (.cons (.int 3) .nil))))))))))))))) (.bin .mod (.var 3) (.int 14)))) (.cons (.asg [6] (.call f__law_leaf (.cons (.var 4) .nil))) (.cons i_law_0 (.cons i_law_1 (.cons i_law_2 (.cons (.asg [2] (.bin .add (.var 2) (.lst (.cons (.var 6) .nil)))) .nil)))))))
def i_law_3 : Sm := (.ifs (.cmp .eq (.var 2) (.lst .nil)) (.cons (.asg [2] (.lst (.cons (.call f__law_leaf (.cons (.int 0) .nil)) .nil))) .nil) .nil)
def i_law_4 : Sm := (.ifs (.or (.not (.bi .isTuple (.cons (.var 8) .nil))) (.or (.cmp .ne (.bi .len (.cons (.var 8) .nil)) (.int 2)) (.or (.not (.call f__law_whole (.cons (.idx (.var 8) (.int 0)) .nil))) (.not (.call f__law_whole (.cons (.idx (.var 8) (.int 1)) .nil)))))) (.cons (.ret (.ex (.bl false))) .nil) .nil)
def i_law_5 : Sm := (.ifs (.cmp .ne (.var 8) (.tup (.cons (.idx (.var 6) (.int 1)) (.cons (.idx (.var 6) (.int 2)) .nil)))) (.cons (.ret (.ex (.bl false))) .nil) .nil)
def l_law_1 : Sms := (.cons (.asg [8] (.call f_size_of (.cons (.idx (.var 6) (.int 0)) .nil))) (.cons i_law_4 (.cons i_law_5 .nil)))
def b_law : Fd := ⟨1, 9, (.cons (.asg [1] (.lst (.cons (.str "") (.cons (.str "") (.cons (.str "") (.cons (.str "not") (.cons (.str "part") (.cons (.str "and") (.cons (.str "or") (.cons (.str "xor") (.cons (.str "plus") (.cons (.str "minus") (.cons (.str "less") (.cons (.str "same") (.cons (.str "join") (.cons (.str "pick") .nil)))))))))))))))) (.cons (.asg [2] (.lst .nil)) (.cons (.for_ [3] (.ex (.slc (.var 0) .none (.some (.int 60)))) l_law_0) (.cons i_law_3 (.cons (.for_ [6] (.ex (.bin .add (.lst (.cons (.idx (.var 2) (.neg (.int 1))) .nil)) (.lc [7] [7] (.ex (.var 2)) (.some (.cmp .lt (.idx (.var 7) (.int 1)) (.int 51))) (.var 7)))) l_law_1) (.cons (.ret (.ex (.bl true))) .nil))))))⟩
def d_law : Df := ⟨"law", defArgs (top 9), defBody (top 9), defScope (top 9), ["script", "forms", "heap", "cell", "number", "takes", "one", "that", "found"], ["script"], b_law⟩
theorem n_law : d_law.Bn := fun _ _ _ _ _ _ us hl => match us, hl with | [_], _ => rfl
def gls : List (Str × Gk) := [("LEAVES", (.txs ["num", "box", "late", "door"]))]
def tab : List Df := [d_inner, d_size_of, d__law_whole, d__law_stream, d__law_leaf, d__law_over, d_law]
theorem t_inner (w n : Nat) (vs : List PV) : callF (tabT tab) w (n + 1) f_inner vs = runB (callF (tabT tab) w n) w b_inner vs := rfl
theorem t_size_of (w n : Nat) (vs : List PV) : callF (tabT tab) w (n + 1) f_size_of vs = runB (callF (tabT tab) w n) w b_size_of vs := rfl
theorem t__law_whole (w n : Nat) (vs : List PV) : callF (tabT tab) w (n + 1) f__law_whole vs = runB (callF (tabT tab) w n) w b__law_whole vs := rfl
theorem t__law_stream (w n : Nat) (vs : List PV) : callF (tabT tab) w (n + 1) f__law_stream vs = runB (callF (tabT tab) w n) w b__law_stream vs := rfl
theorem t__law_leaf (w n : Nat) (vs : List PV) : callF (tabT tab) w (n + 1) f__law_leaf vs = runB (callF (tabT tab) w n) w b__law_leaf vs := rfl
theorem t__law_over (w n : Nat) (vs : List PV) : callF (tabT tab) w (n + 1) f__law_over vs = runB (callF (tabT tab) w n) w b__law_over vs := rfl
theorem t_law (w n : Nat) (vs : List PV) : callF (tabT tab) w (n + 1) f_law vs = runB (callF (tabT tab) w n) w b_law vs := rfl
def ecs : List Str := []
theorem tab_ck : tab.all (fun D => D.okB (numb 0 (names tab)) gls (numb 0 ecs)) = true := by decide +kernel
theorem tab_bn : ∀ D ∈ tab, D.Bn := by
  intro D h
  unfold tab at h
  rcases List.mem_cons.mp h with rfl | h
  · exact n_inner
  rcases List.mem_cons.mp h with rfl | h
  · exact n_size_of
  rcases List.mem_cons.mp h with rfl | h
  · exact n__law_whole
  rcases List.mem_cons.mp h with rfl | h
  · exact n__law_stream
  rcases List.mem_cons.mp h with rfl | h
  · exact n__law_leaf
  rcases List.mem_cons.mp h with rfl | h
  · exact n__law_over
  rcases List.mem_cons.mp h with rfl | h
  · exact n_law
  cases h
theorem tab_okay : ∀ D ∈ tab, D.Ok (numb 0 (names tab)) gls (numb 0 ecs) := fun D h => Df.ok_of (List.all_eq_true.mp tab_ck D h) (tab_bn D h)
end BW.Law
-- levels 1 63
-- measure 4000
-- ifs law
namespace BW.Law
open PySem
variable {m : Nat}
theorem w_whole (x : Int) : callF (tabT tab) 1 (m + 1) f__law_whole [.int x] = .ok (.bl true) := by
  rw [t__law_whole]
  simp only [b__law_whole, runB]
  simp
abbrev It := PV × Int × Int
def it (x : It) : PV := .tup [x.1, .int x.2.1, .int x.2.2]
def acc (a : Int × Int) (x : It) : Int × Int := (a.1 + x.2.1, if x.2.2 > a.2 then x.2.2 else a.2)
abbrev lv : List Str := ["num", "box", "late", "door"]
def Pl (x : PV) : Prop := frz x = x ∧ cls x = true
def Pls (x : List PV) : Prop := frzs x = x ∧ clss x = true
theorem Pls.cons {x : PV} {xs : List PV} (h : Pl x) (k : Pls xs) : Pls (x :: xs) := ⟨by rw [frzs_cons, h.1, k.1], by rw [clss_cons, h.2, k.2]; rfl⟩
theorem Pls.nil : Pls [] := ⟨rfl, rfl⟩
theorem Pl.tup {xs : List PV} (k : Pls xs) : Pl (.tup xs) := ⟨by rw [frz_tup, k.1], k.2⟩
theorem Pl.str (x : Str) : Pl (.str x) := ⟨rfl, rfl⟩
theorem Pl.int (x : Int) : Pl (.int x) := ⟨rfl, rfl⟩
inductive G : PV → Int → Int → Prop where
  | leaf {s : Str} {rest : List PV} : s ∈ lv → Pls rest → rest.all flat = true → G (.tup (.str s :: rest)) 1 1
  | part {t : PV} {p d a b : Int} : G t p d → G (.tup [.str "part", t, .int a, .int b]) (acc (1, 0) (t, p, d)).1 ((acc (1, 0) (t, p, d)).2 + 1)
  | over {f : Str} {ts : List It} : f ∉ lv → f ≠ "part" → (∀ x ∈ ts, G x.1 x.2.1 x.2.2) → G (.tup (.str f :: ts.map (·.1))) (ts.foldl acc (1, 0)).1 ((ts.foldl acc (1, 0)).2 + 1)
theorem pls_map : ∀ {ts : List It}, (∀ x ∈ ts, Pl x.1) → Pls (ts.map (·.1))
  | [], _ => .nil
  | x :: xs, h => .cons (h x List.mem_cons_self) (pls_map fun y hy => h y (List.mem_cons_of_mem _ hy))
theorem G.pl {t : PV} {p d : Int} (h : G t p d) : Pl t := by
  induction h with
  | leaf _ k _ => exact .tup (.cons (.str _) k)
  | part _ ih => exact .tup (.cons (.str _) (.cons ih (.cons (.int _) (.cons (.int _) .nil))))
  | over _ _ _ ih =>
    rename_i f ts _ _ _
    exact .tup (.cons (.str _) (pls_map ih))
theorem acc_le (ts : List It) : ∀ a : Int × Int, a.2 ≤ (ts.foldl acc a).2 ∧ ∀ x ∈ ts, x.2.2 ≤ (ts.foldl acc a).2 := by
  induction ts with
  | nil => exact fun a => ⟨Int.le_refl _, fun _ z => nomatch z⟩
  | cons x xs ih =>
    intro a
    have q := ih (acc a x)
    have k : a.2 ≤ (acc a x).2 ∧ x.2.2 ≤ (acc a x).2 := by
      unfold acc
      dsimp only
      split <;> omega
    refine ⟨Int.le_trans k.1 q.1, fun y hy => ?_⟩
    rcases List.mem_cons.mp hy with e | hy
    · rw [e]
      exact Int.le_trans k.2 q.1
    · exact q.2 y hy
theorem cut_tail {x : PV} {xs : List PV} : cutP (x :: xs) (some 1) none = xs := by
  simp [cutP, HT.sIx]
/-- the terms within -/
theorem in_leaf {s : Str} {rest : List PV} (hs : s ∈ lv) (h : Pls rest) : callF (tabT tab) 1 (m + 1) f_inner [.tup (.str s :: rest)] = .ok (.lst true []) := by
  rw [t_inner]
  simp only [b_inner, runB]
  have e0 : L2.atI (PV.str s :: rest) 0 = some (.str s) := L2.atI_nat (xs := PV.str s :: rest) (j := 0) rfl
  simp only [List.mem_cons, List.not_mem_nil, or_false] at hs
  rcases hs with rfl | rfl | rfl | rfl <;> simp [h.1, idxop, e0]
theorem in_part {t : PV} {a b : Int} (h : Pl t) : callF (tabT tab) 1 (m + 1) f_inner [.tup [.str "part", t, .int a, .int b]] = .ok (.lst true [t]) := by
  rw [t_inner]
  simp only [b_inner, runB]
  have e0 : L2.atI [PV.str "part", t, .int a, .int b] 0 = some (.str "part") := L2.atI_nat (xs := [PV.str "part", t, .int a, .int b]) (j := 0) rfl
  have e1 : L2.atI [PV.str "part", t, .int a, .int b] 1 = some t := L2.atI_nat (xs := [PV.str "part", t, .int a, .int b]) (j := 1) rfl
  simp [h.1, idxop, e0, e1]
theorem in_over {f : Str} {ts : List PV} (h1 : f ∉ lv) (h2 : f ≠ "part") (h : Pls ts) : callF (tabT tab) 1 (m + 1) f_inner [.tup (.str f :: ts)] = .ok (.lst true ts) := by
  rw [t_inner]
  simp only [b_inner, runB]
  have e0 : L2.atI (PV.str f :: ts) 0 = some (.str f) := L2.atI_nat (xs := PV.str f :: ts) (j := 0) rfl
  simp only [List.mem_cons, List.not_mem_nil, or_false, not_or] at h1
  obtain ⟨n1, n2, n3, n4⟩ := h1
  have sl : slcop (.tup (.str f :: ts)) (some 1) none = .ok (.tup ts) := by
    show Res.ok (PV.tup (frzs (cutP (PV.str f :: ts) (some 1) none))) = _
    rw [cut_tail, h.1]
  have li : biV .list [.tup ts] = .ok (.lst true ts) := by
    show Res.ok (PV.lst true (frzs ts)) = _
    rw [h.1]
  simp [h.1, idxop, e0, Ne.symm n1, Ne.symm n2, Ne.symm n3, Ne.symm n4, h2, sl, li]
/-- the loop over what is within -/
theorem size_go (k : Nat) : ∀ (ts : List It) (a : Int × Int) (s x y : Option PV), (∀ z ∈ ts, Pl z.1 ∧ callF (tabT tab) 1 (k + 1) f_size_of [z.1] = .ok (.tup [.int z.2.1, .int z.2.2])) →
    ∃ x' y', forL [3] (fun env => evSs (callF (tabT tab) 1 (k + 1)) 1 env l_size_of_0) (ts.map (·.1)) [s, some (.int a.1), some (.int a.2), x, y] = .fl (.next [s, some (.int (ts.foldl acc a).1), some (.int (ts.foldl acc a).2), x', y'])
  | [], a, s, x, y, _ => ⟨x, y, rfl⟩
  | z :: ts, a, s, x, y, h => by
    obtain ⟨hp, hz⟩ := h z List.mem_cons_self
    obtain ⟨x', y', q⟩ := size_go k ts (acc a z) s (some z.1) (some (.tup [.int z.2.1, .int z.2.2])) fun w hw => h w (List.mem_cons_of_mem _ hw)
    refine ⟨x', y', ?_⟩
    have e0 : L2.atI [PV.int z.2.1, .int z.2.2] 0 = some (.int z.2.1) := L2.atI_nat (xs := [PV.int z.2.1, .int z.2.2]) (j := 0) rfl
    have e1 : L2.atI [PV.int z.2.1, .int z.2.2] 1 = some (.int z.2.2) := L2.atI_nat (xs := [PV.int z.2.1, .int z.2.2]) (j := 1) rfl
    have e : evSs (callF (tabT tab) 1 (k + 1)) 1 [s, some (.int a.1), some (.int a.2), some z.1, y] l_size_of_0 = .fl (.next [s, some (.int (acc a z).1), some (.int (acc a z).2), some z.1, some (.tup [.int z.2.1, .int z.2.2])]) := by
      simp only [l_size_of_0]
      simp [hp.1, hz, idxop, e0, e1, acc]
    show RS.of (bindT [3] z.1 _) _ _ = _
    simp [e, q]
theorem size_node {t : PV} {ts : List It} (k : Nat) (ht : Pl t) (hin : callF (tabT tab) 1 (k + 1) f_inner [t] = .ok (.lst true (ts.map (·.1)))) (hp : Pls (ts.map (·.1)))
    (h : ∀ z ∈ ts, Pl z.1 ∧ callF (tabT tab) 1 (k + 1) f_size_of [z.1] = .ok (.tup [.int z.2.1, .int z.2.2])) : callF (tabT tab) 1 (k + 2) f_size_of [t] = .ok (.tup [.int (ts.foldl acc (1, 0)).1, .int ((ts.foldl acc (1, 0)).2 + 1)]) := by
  rw [t_size_of]
  simp only [b_size_of, runB]
  obtain ⟨x', y', q⟩ := size_go k ts (1, 0) (some t) none none h
  simp [ht.1, hin, hp.1, hp.2, q]
theorem w_size {t : PV} {p d : Int} (h : G t p d) : ∀ n : Nat, d ≤ n → callF (tabT tab) 1 (n + 1) f_size_of [t] = .ok (.tup [.int p, .int d]) := by
  induction h with
  | leaf hs hr hf =>
    intro n hn
    obtain ⟨k, rfl⟩ : ∃ k, n = k + 1 := ⟨n - 1, by omega⟩
    exact size_node (ts := []) k (G.leaf hs hr hf).pl (in_leaf hs hr) .nil fun _ z => nomatch z
  | part hg ih =>
    rename_i t p d a b
    intro n hn
    have q := acc_le [(t, p, d)] (1, 0)
    have q1 : (0 : Int) ≤ (acc (1, 0) (t, p, d)).2 := q.1
    have q2 : d ≤ (acc (1, 0) (t, p, d)).2 := q.2 (t, p, d) List.mem_cons_self
    obtain ⟨k, rfl⟩ : ∃ k, n = k + 1 := ⟨n - 1, by omega⟩
    exact size_node (ts := [(t, p, d)]) k (G.part hg).pl (in_part hg.pl) (.cons hg.pl .nil) fun z hz => by
      rw [List.mem_singleton.mp hz]
      exact ⟨hg.pl, ih k (by push_cast at hn; omega)⟩
  | over h1 h2 h3 ih =>
    rename_i f ts
    intro n hn
    have q := acc_le ts (1, 0)
    have q1 : (0 : Int) ≤ (ts.foldl acc (1, 0)).2 := q.1
    obtain ⟨k, rfl⟩ : ∃ k, n = k + 1 := ⟨n - 1, by omega⟩
    have hp := pls_map fun x hx => (h3 x hx).pl
    exact size_node k (G.over h1 h2 h3).pl (in_over h1 h2 hp) hp fun z hz => ⟨(h3 z hz).pl, ih z hz k (by have := q.2 z hz; push_cast at hn; omega)⟩
/-- a drawn number -/
theorem w_stream (c : Int) : ∃ (x : Int), 0 ≤ x ∧ x < 2305843009213693951 ∧ ∃ xs : List Int, callF (tabT tab) 1 (m + 1) f__law_stream [.int c, .int 1] = .ok (.lst true ((x :: xs).map PV.int)) := by
  rw [t__law_stream]
  simp only [b__law_stream, runB]
  obtain ⟨env', h1, xs, b, p, rfl, hl, hx, hb⟩ := forL_rng (t := [4]) (b := fun env => evSs (callF (tabT tab) 1 m) 1 env l__law_stream_0) (fun i env => ∃ (xs : List Int) (b : Int) (p : Option PV), env = [some (.int c), some (.int 1), some (.lst true (xs.map PV.int)), some (.int b), p] ∧ xs.length = i ∧ (∀ x ∈ xs, 0 ≤ x ∧ x < 2305843009213693951) ∧ 0 ≤ b ∧ b < 2305843009213693951) (n := 4) (env := [some (.int c), some (.int 1), some (.lst true []), some (.int (c % 2305843009213693951)), none]) ⟨[], _, none, rfl, rfl, (fun _ z => nomatch z), by omega, by omega⟩ (fun i hi env ⟨xs, b, p, e, hl, hx, hb⟩ => by
    subst e
    have b0 := Int.emod_nonneg (b * b + 48271 * b + (i : Int) + 1) (show (2305843009213693951 : Int) ≠ 0 by decide)
    have b1 := Int.emod_lt_of_pos (b * b + 48271 * b + (i : Int) + 1) (show (0 : Int) < 2305843009213693951 by decide)
    have hm1 : binop .mul (.int b) (.int b) = .ok (.int (b * b)) := b_mul (.inl ⟨by omega, by omega⟩)
    have hm : xs.length < most := by unfold most; omega
    refine ⟨_, bindT1, [some (.int c), some (.int 1), some (.lst true ((xs ++ [(b * b + 48271 * b + (i : Int) + 1) % 2305843009213693951]).map PV.int)), some (.int ((b * b + 48271 * b + (i : Int) + 1) % 2305843009213693951)), some (.int (i : Int))], .inl ?_, _, _, _, rfl, by simp [hl], fun x hx' => ?_, b0, b1⟩
    · simp only [l__law_stream_0]
      simp [hm1, hm, hasL, kept]
    · rcases List.mem_append.mp hx' with h | h
      · exact hx x h
      · rw [List.mem_singleton.mp h]
        exact ⟨b0, b1⟩)
  match xs, hl with
  | [a0, a1, a2, a3], _ =>
    have q := hx a3 (by simp)
    refine ⟨a3, q.1, q.2, [], ?_⟩
    have h2 : rngV [.int (4 : Int)] = .ok (rngI 0 (4 : Int)) := rng1 (n := 4) (by decide)
    rw [show ((4 : Nat) : Int) = 4 from rfl] at h1
    simp [h2, h1, cutP, HT.sIx]
/-- a leaf -/
theorem w_leaf (n : Int) : ∃ t : PV, G t 1 1 ∧ callF (tabT tab) 1 (m + 1) f__law_leaf [.int n] = .ok (it (t, 1, 1)) := by
  rw [t__law_leaf]
  simp only [b__law_leaf, runB]
  obtain ⟨nm, _, e1⟩ := at_map (f := PV.str) (xs := (["a", "b", "ab", "num", ""] : List Str)) (i := n / 4 % 5) (by omega) (by simp; omega)
  simp only [List.map] at e1
  by_cases q : n % 4 = 0
  · refine ⟨.tup [.str "num", .int (n / 20 % 200 - 50), .int (n / 20)], .leaf (by simp) (.cons (.int _) (.cons (.int _) .nil)) rfl, ?_⟩
    simp [ix_at e1, q, it]
  · obtain ⟨w, hw, e2⟩ := at_map (f := PV.str) (xs := (["box", "late", "door"] : List Str)) (i := n % 4 - 1) (by omega) (by simp; omega)
    simp only [List.map] at e2
    refine ⟨.tup [.str w, .str nm], .leaf (List.mem_cons_of_mem _ hw) (.cons (.str _) .nil) rfl, ?_⟩
    simp [ix_at e1, ix_at e2, q, it]
theorem over_go (k : Nat) : ∀ (ts : List It) (a : Int × Int) (x0 x1 x2 x3 x4 : Option PV), (∀ z ∈ ts, Pl z.1) →
    ∃ x', forL [4] (fun env => evSs (callF (tabT tab) 1 k) 1 env l__law_over_0) (ts.map it) [x0, x1, x2, x3, x4, some (.int a.1), some (.int a.2)] = .fl (.next [x0, x1, x2, x3, x', some (.int (ts.foldl acc a).1), some (.int (ts.foldl acc a).2)])
  | [], a, x0, x1, x2, x3, x4, _ => ⟨x4, rfl⟩
  | z :: ts, a, x0, x1, x2, x3, x4, h => by
    obtain ⟨x', q⟩ := over_go k ts (acc a z) x0 x1 x2 x3 (some (it z)) fun w hw => h w (List.mem_cons_of_mem _ hw)
    refine ⟨x', ?_⟩
    have e : evSs (callF (tabT tab) 1 k) 1 [x0, x1, x2, x3, some (it z), some (.int a.1), some (.int a.2)] l__law_over_0 = .fl (.next [x0, x1, x2, x3, some (it z), some (.int (acc a z).1), some (.int (acc a z).2)]) := by
      simp only [l__law_over_0]
      simp [it, acc]
    show RS.of (bindT [4] (it z) _) _ _ = _
    simp [e, q]
theorem it_pl {x : It} (h : Pl x.1) : Pl (it x) := .tup (.cons h (.cons (.int _) (.cons (.int _) .nil)))
theorem its_pl : ∀ {ts : List It}, (∀ x ∈ ts, Pl x.1) → Pls (ts.map it)
  | [], _ => .nil
  | x :: xs, h => .cons (it_pl (h x List.mem_cons_self)) (its_pl fun y hy => h y (List.mem_cons_of_mem _ hy))
/-- a form over some -/
theorem w_over (f : Str) (ts : List It) (n : Int) (hp : ∀ x ∈ ts, Pl x.1) (hl : ts.length ≤ 3) : callF (tabT tab) 1 (m + 1) f__law_over [.str f, .lst false (ts.map it), .int n] =
    .ok (it (if f = "part" then .tup (.str f :: ts.map (·.1) ++ [.int (n % 70 - 3), .int (n / 70 % 70 - 3)]) else .tup (.str f :: ts.map (·.1)), (ts.foldl acc (1, 0)).1, (ts.foldl acc (1, 0)).2 + 1)) := by
  rw [t__law_over]
  simp only [b__law_over, runB]
  have hi := its_pl hp
  have hq := pls_map hp
  have hm : most = 16777216 := rfl
  have e1 : ∀ q r s t u v w : Option PV, lcL [4] (fun _ => .ok true) (fun env => (getE env 4).bind fun x => idxop (frz x) (.int 0)) [q, r, s, t, u, v, w] (ts.map it) [] = .ok (ts.map (·.1)) := fun q r s t u v w => by
    rw [lcL_map (g := fun v => match v with | .tup (t :: _) => t | v => v) (fun v hv => by
      obtain ⟨x, hx, rfl⟩ := List.mem_map.mp hv
      refine ⟨_, bindT1, ?_⟩
      simp [it, (hp x hx).1]) (by rw [List.length_map, hm]; simp; omega)]
    rw [List.nil_append, List.map_map]
    rfl
  have e2 : binop .add (.tup [.str f]) (.tup (ts.map (·.1))) = .ok (.tup (.str f :: ts.map (·.1))) := by
    rw [b_addT (by rw [List.length_map, hm]; simp; omega), hq.1]
    rfl
  have e3 : binop .add (.tup (.str f :: ts.map (·.1))) (.tup [.int (n % 70 - 3), .int (n / 70 % 70 - 3)]) = .ok (.tup (.str f :: ts.map (·.1) ++ [.int (n % 70 - 3), .int (n / 70 % 70 - 3)])) := by
    rw [b_addT (by rw [List.length_cons, List.length_map, hm]; simp; omega), frzs_cons, hq.1]
    rfl
  by_cases q : f = "part"
  · obtain ⟨x', g⟩ := over_go m ts (1, 0) (some (.str f)) (some (.lst false (ts.map it))) (some (.int n)) (some (.tup (.str f :: ts.map (·.1) ++ [.int (n % 70 - 3), .int (n / 70 % 70 - 3)]))) none hp
    subst q
    simp at e2 e3 g
    simp [hi.1, hi.2, hq.1, hq.2, e1, e2, e3, g, it]
  · obtain ⟨x', g⟩ := over_go m ts (1, 0) (some (.str f)) (some (.lst false (ts.map it))) (some (.int n)) (some (.tup (.str f :: ts.map (·.1)))) none hp
    simp at e2 e3 g
    simp [hi.1, hi.2, hq.1, hq.2, e1, e2, q, g, it]
def Ok1 (x : It) : Prop := G x.1 x.2.1 x.2.2 ∧ x.2.2 ≤ 60
abbrev forms : List Str := ["", "", "", "not", "part", "and", "or", "xor", "plus", "minus", "less", "same", "join", "pick"]
abbrev takesL : List Int := [0, 0, 0, 1, 1, 2, 2, 2, 2, 2, 2, 2, 2, 3]
section
variable {s0 x7 x8 : Option PV} {hs : List It} {cell n : Int}
/-- one of those ahead -/
theorem st0 {x : It} {tk : Int} (hx : G x.1 x.2.1 x.2.2) (hinv : ∀ y ∈ hs, Ok1 y) (n0 : 0 ≤ n) : ∃ y : It, G y.1 y.2.1 y.2.2 ∧ evS (callF (tabT tab) 1 62) 1 [s0, some (.lst true (forms.map PV.str)), some (.lst true (hs.map it)), some (.int cell), some (.int n), some (.int tk), some (it x), x7, x8] i_law_0 = .fl (.next [s0, some (.lst true (forms.map PV.str)), some (.lst true (hs.map it)), some (.int cell), some (.int n), some (.int tk), some (it y), x7, x8]) := by
  have hpl := its_pl fun y hy => (hinv y hy).1.pl
  by_cases q : cell % 14 = 2 ∧ 0 < hs.length
  · obtain ⟨q1, q2⟩ := q
    have mn : ∃ w : Int, 0 < w ∧ w ≤ hs.length ∧ (if (hs.length : Int) < 2 then (hs.length : Int) else 2) = w := by
      by_cases z : (hs.length : Int) < 2
      · exact ⟨hs.length, by omega, by omega, if_pos z⟩
      · exact ⟨2, by omega, by omega, if_neg z⟩
    obtain ⟨w, w0, w1, w2⟩ := mn
    have m0 := Int.emod_nonneg n (show w ≠ 0 by omega)
    have m1 := Int.emod_lt_of_pos n w0
    obtain ⟨y, hy, e⟩ := at_map (f := it) (xs := hs) (i := (hs.length : Int) - 1 - n % w) (by omega) (by omega)
    have py := it_pl (hinv y hy).1.pl
    refine ⟨y, (hinv y hy).1, ?_⟩
    simp only [i_law_0]
    simp [hpl.1, q1, q2, w2, w0, ix_at e, py.1, py.2]
  · refine ⟨x, hx, ?_⟩
    simp only [i_law_0]
    by_cases q1 : cell % 14 = 2
    · have e : hs = [] := by
        cases hs with
        | nil => rfl
        | cons y ys => exact absurd ⟨q1, by simp⟩ q
      subst e
      simp [q1]
    · simp [hpl.1, q1]
/-- a form over the last ones -/
theorem st1 {x : It} {tk : Nat} {f : Str} (hx : G x.1 x.2.1 x.2.2) (hinv : ∀ y ∈ hs, Ok1 y) (hf : idxop (.lst false (forms.map PV.str)) (.int (cell % 14)) = .ok (.str f)) (ht : tk ≤ 3) (h1 : 0 < tk → f ∉ lv) (h2 : f = "part" → tk = 1) :
    ∃ (y : It) (hs' : List It), G y.1 y.2.1 y.2.2 ∧ (∀ y ∈ hs', Ok1 y) ∧ hs'.length ≤ hs.length ∧ evS (callF (tabT tab) 1 62) 1 [s0, some (.lst true (forms.map PV.str)), some (.lst true (hs.map it)), some (.int cell), some (.int n), some (.int tk), some (it x), x7, x8] i_law_1 = .fl (.next [s0, some (.lst true (forms.map PV.str)), some (.lst true (hs'.map it)), some (.int cell), some (.int n), some (.int tk), some (it y), x7, x8]) := by
  have hpl := its_pl fun y hy => (hinv y hy).1.pl
  by_cases q1 : 0 < tk
  · by_cases q2 : tk ≤ hs.length
    · have e0 : (hs.length : Int) - (tk : Int) = ((hs.length - tk : Nat) : Int) := by omega
      have hd : ∀ y ∈ hs.drop (hs.length - tk), Ok1 y := fun y hy => hinv y (List.mem_of_mem_drop hy)
      have htk : ∀ y ∈ hs.take (hs.length - tk), Ok1 y := fun y hy => hinv y (List.mem_of_mem_take hy)
      have hdl : (hs.drop (hs.length - tk)).length = tk := by rw [List.length_drop]; omega
      have wo := w_over (m := 61) f (hs.drop (hs.length - tk)) n (fun y hy => (hd y hy).1.pl) (by omega)
      have c1 : cutP hs (some ((hs.length - tk : Nat) : Int)) none = hs.drop (hs.length - tk) := cut_from (by omega)
      have c2 : cutP hs none (some ((hs.length - tk : Nat) : Int)) = hs.take (hs.length - tk) := cut_to (by omega)
      have hg : ∃ t : PV, G t ((hs.drop (hs.length - tk)).foldl acc (1, 0)).1 (((hs.drop (hs.length - tk)).foldl acc (1, 0)).2 + 1) ∧ (if f = "part" then PV.tup (.str f :: (hs.drop (hs.length - tk)).map (·.1) ++ [.int (n % 70 - 3), .int (n / 70 % 70 - 3)]) else .tup (.str f :: (hs.drop (hs.length - tk)).map (·.1))) = t := by
        by_cases qf : f = "part"
        · rw [if_pos qf]
          have := h2 qf
          match hs.drop (hs.length - tk), hdl, hd with
          | [y], _, hd => exact ⟨_, .part (hd y List.mem_cons_self).1, by rw [qf]; rfl⟩
          | [], hl, _ => simp at hl; omega
          | _ :: _ :: _, hl, _ => simp at hl; omega
        · rw [if_neg qf]
          exact ⟨_, .over (h1 q1) qf fun y hy => (hd y hy).1, rfl⟩
      obtain ⟨t, hg, et⟩ := hg
      rw [et] at wo
      have pd := its_pl fun y hy => (hd y hy).1.pl
      have pt := its_pl fun y hy => (htk y hy).1.pl
      have py := it_pl (x := (t, ((hs.drop (hs.length - tk)).foldl acc (1, 0)).1, ((hs.drop (hs.length - tk)).foldl acc (1, 0)).2 + 1)) hg.pl
      refine ⟨(t, ((hs.drop (hs.length - tk)).foldl acc (1, 0)).1, ((hs.drop (hs.length - tk)).foldl acc (1, 0)).2 + 1), hs.take (hs.length - tk), hg, htk, by rw [List.length_take]; omega, ?_⟩
      generalize hD : hs.drop (hs.length - tk) = D at *
      generalize hT : hs.take (hs.length - tk) = Tk at *
      simp only [Nat.reduceAdd] at wo
      simp only [i_law_1]
      simp only [List.map] at hf
      simp [hpl.1, q1, q2, hf, e0, c1, c2, pd.1, pt.1, pt.2, wo, py.1, py.2]
    · exact ⟨x, hs, hx, hinv, Nat.le_refl _, by
        simp only [i_law_1]
        simp [hpl.1, q1, q2]⟩
  · exact ⟨x, hs, hx, hinv, Nat.le_refl _, by
      simp only [i_law_1]
      simp [hpl.1, q1]⟩
/-- not too deep -/
theorem st2 {x : It} {tk : Int} (hx : G x.1 x.2.1 x.2.2) : ∃ y : It, Ok1 y ∧ evS (callF (tabT tab) 1 62) 1 [s0, some (.lst true (forms.map PV.str)), some (.lst true (hs.map it)), some (.int cell), some (.int n), some (.int tk), some (it x), x7, x8] i_law_2 = .fl (.next [s0, some (.lst true (forms.map PV.str)), some (.lst true (hs.map it)), some (.int cell), some (.int n), some (.int tk), some (it y), x7, x8]) := by
  have hpl := it_pl hx.pl
  obtain ⟨t, ht, e⟩ := w_leaf (m := 61) n
  simp only [Nat.reduceAdd] at e
  have pt := it_pl (x := (t, 1, 1)) ht.pl
  by_cases q : 1000 < x.2.1 ∨ 60 < x.2.2
  · refine ⟨(t, 1, 1), ⟨ht, (by decide : (1 : Int) ≤ 60)⟩, ?_⟩
    simp only [i_law_2]
    simp only [it] at e
    rcases q with q | q <;> simp [it, hx.pl.1, q, e, ht.pl.2]
  · refine ⟨x, ⟨hx, by omega⟩, ?_⟩
    simp only [i_law_2]
    simp [it, hx.pl.1, show ¬ 1000 < x.2.1 by omega, show ¬ 60 < x.2.2 by omega]
end
/-- a turn -/
theorem turn (s0 x4 x5 x6 x7 x8 : Option PV) (hs : List It) (cell : Int) (hinv : ∀ y ∈ hs, Ok1 y) (hl : hs.length ≤ 100) : ∃ (hs' : List It) (y4 y5 y6 : Option PV), (∀ y ∈ hs', Ok1 y) ∧ hs'.length ≤ hs.length + 1 ∧ 0 < hs'.length ∧
    evSs (callF (tabT tab) 1 62) 1 [s0, some (.lst true (forms.map PV.str)), some (.lst true (hs.map it)), some (.int cell), x4, x5, x6, x7, x8] l_law_0 = .fl (.next [s0, some (.lst true (forms.map PV.str)), some (.lst true (hs'.map it)), some (.int cell), y4, y5, y6, x7, x8]) := by
  obtain ⟨n, n0, n1, xs, e1⟩ := w_stream (m := 61) (cell / 14)
  obtain ⟨t, ht, e2⟩ := w_leaf (m := 61) n
  simp only [Nat.reduceAdd, List.map_cons] at e1 e2
  have pt := it_pl (x := (t, 1, 1)) ht.pl
  have c0 := Int.emod_nonneg cell (show (14 : Int) ≠ 0 by decide)
  have c1 := Int.emod_lt_of_pos cell (show (0 : Int) < 14 by decide)
  have tf : ∃ (tk : Nat) (f : Str), tk ≤ 3 ∧ L2.atI (takesL.map PV.int) (cell % 14) = some (.int tk) ∧ idxop (.lst false (forms.map PV.str)) (.int (cell % 14)) = .ok (.str f) ∧ (0 < tk → f ∉ lv) ∧ (f = "part" → tk = 1) := by
    generalize cell % 14 = c at c0 c1
    have : c = 0 ∨ c = 1 ∨ c = 2 ∨ c = 3 ∨ c = 4 ∨ c = 5 ∨ c = 6 ∨ c = 7 ∨ c = 8 ∨ c = 9 ∨ c = 10 ∨ c = 11 ∨ c = 12 ∨ c = 13 := by omega
    rcases this with rfl | rfl | rfl | rfl | rfl | rfl | rfl | rfl | rfl | rfl | rfl | rfl | rfl | rfl
    · exact ⟨0, "", by decide, rfl, rfl, by decide, by decide⟩
    · exact ⟨0, "", by decide, rfl, rfl, by decide, by decide⟩
    · exact ⟨0, "", by decide, rfl, rfl, by decide, by decide⟩
    · exact ⟨1, "not", by decide, rfl, rfl, by decide, by decide⟩
    · exact ⟨1, "part", by decide, rfl, rfl, by decide, by decide⟩
    · exact ⟨2, "and", by decide, rfl, rfl, by decide, by decide⟩
    · exact ⟨2, "or", by decide, rfl, rfl, by decide, by decide⟩
    · exact ⟨2, "xor", by decide, rfl, rfl, by decide, by decide⟩
    · exact ⟨2, "plus", by decide, rfl, rfl, by decide, by decide⟩
    · exact ⟨2, "minus", by decide, rfl, rfl, by decide, by decide⟩
    · exact ⟨2, "less", by decide, rfl, rfl, by decide, by decide⟩
    · exact ⟨2, "same", by decide, rfl, rfl, by decide, by decide⟩
    · exact ⟨2, "join", by decide, rfl, rfl, by decide, by decide⟩
    · exact ⟨3, "pick", by decide, rfl, rfl, by decide, by decide⟩
  obtain ⟨tk, f, t3, e3, e4, f1, f2⟩ := tf
  obtain ⟨y0, g0, a0⟩ := st0 (s0 := s0) (x7 := x7) (x8 := x8) (hs := hs) (cell := cell) (n := n) (x := (t, 1, 1)) (tk := tk) ht hinv n0
  obtain ⟨y1, hs1, g1, i1, l1, a1⟩ := st1 (s0 := s0) (x7 := x7) (x8 := x8) (hs := hs) (cell := cell) (n := n) (x := y0) (tk := tk) (f := f) g0 hinv e4 t3 f1 f2
  obtain ⟨y2, g2, a2⟩ := st2 (s0 := s0) (x7 := x7) (x8 := x8) (hs := hs1) (cell := cell) (n := n) (x := y1) (tk := tk) g1
  have p1 := its_pl fun y hy => (i1 y hy).1.pl
  have p2 := it_pl g2.1.pl
  have ad : binop .add (.lst false (hs1.map it)) (.lst false [it y2]) = .ok (.lst true ((hs1 ++ [y2]).map it)) := by
    rw [b_addL (by rw [List.length_map]; simp; unfold most; omega), p1.1, frzs_cons, p2.1, List.map_append]
    rfl
  have pn := its_pl (ts := hs1 ++ [y2]) fun y hy => (List.mem_append.mp hy).elim (fun hy => (i1 y hy).1.pl) fun hy => by rw [List.mem_singleton.mp hy]; exact g2.1.pl
  refine ⟨hs1 ++ [y2], some (.int n), some (.int tk), some (it y2), fun y hy => (List.mem_append.mp hy).elim (i1 y) fun hy => by rw [List.mem_singleton.mp hy]; exact g2, by simp; omega, by simp, ?_⟩
  simp only [l_law_0]
  simp only [List.map, takesL] at e3 e4 a0 a1 a2
  have e5 : L2.atI (PV.int n :: xs.map PV.int) 0 = some (.int n) := L2.atI_nat (xs := PV.int n :: xs.map PV.int) (j := 0) rfl
  simp [e1, ix_at e3, e2, a0, a1, a2, ad, p1.1, p2.1, p2.2, pn.1, pn.2, pt.2, -List.map_append]
theorem build (s0 x7 x8 : Option PV) : ∀ (cells : List Int) (hs : List It) (x3 x4 x5 x6 : Option PV), (∀ y ∈ hs, Ok1 y) → hs.length + cells.length ≤ 100 → ∃ (hs' : List It) (y3 y4 y5 y6 : Option PV), (∀ y ∈ hs', Ok1 y) ∧ hs'.length ≤ 100 ∧
    forL [3] (fun env => evSs (callF (tabT tab) 1 62) 1 env l_law_0) (cells.map PV.int) [s0, some (.lst true (forms.map PV.str)), some (.lst true (hs.map it)), x3, x4, x5, x6, x7, x8] = .fl (.next [s0, some (.lst true (forms.map PV.str)), some (.lst true (hs'.map it)), y3, y4, y5, y6, x7, x8])
  | [], hs, x3, x4, x5, x6, h, hl => ⟨hs, x3, x4, x5, x6, h, by simp at hl; omega, rfl⟩
  | c :: cs, hs, x3, x4, x5, x6, h, hl => by
    rw [List.length_cons] at hl
    obtain ⟨hs1, y4, y5, y6, h1, l1, _, e⟩ := turn s0 x4 x5 x6 x7 x8 hs c h (by omega)
    obtain ⟨hs2, z3, z4, z5, z6, h2, l2, e2⟩ := build s0 x7 x8 cs hs1 (some (.int c)) y4 y5 y6 h1 (by omega)
    refine ⟨hs2, z3, z4, z5, z6, h2, l2, ?_⟩
    show RS.of (bindT [3] (.int c) _) _ _ = _
    rw [bindT1, RS.of_ok]
    show (match evSs (callF (tabT tab) 1 62) 1 [s0, some (.lst true (forms.map PV.str)), some (.lst true (hs.map it)), some (.int c), x4, x5, x6, x7, x8] l_law_0 with
      | .fl (.next env2) => forL [3] (fun env => evSs (callF (tabT tab) 1 62) 1 env l_law_0) (cs.map PV.int) env2
      | .fl (.cont env2) => forL [3] (fun env => evSs (callF (tabT tab) 1 62) 1 env l_law_0) (cs.map PV.int) env2
      | .fl (.brk env2) => .fl (.next env2)
      | .fl (.ret v) => .fl (.ret v)
      | .exc e env2 => .exc e env2
      | .bad => .bad) = _
    rw [e]
    exact e2
/-- each told size is right -/
theorem asked (s0 x1 x2 x3 x4 x5 x7 : Option PV) (ys : List It) (h : ∀ y ∈ ys, Ok1 y) (x6 x8 : Option PV) : ∃ env', forL [6] (fun env => evSs (callF (tabT tab) 1 62) 1 env l_law_1) (ys.map it) [s0, x1, x2, x3, x4, x5, x6, x7, x8] = .fl (.next env') := by
  obtain ⟨env', e, _⟩ := forL_all (t := [6]) (b := fun env => evSs (callF (tabT tab) 1 62) 1 env l_law_1) (fun env => ∃ x6 x8, env = [s0, x1, x2, x3, x4, x5, x6, x7, x8]) (xs := ys.map it) (env := [s0, x1, x2, x3, x4, x5, x6, x7, x8]) ⟨_, _, rfl⟩ (fun v hv env ⟨x6, x8, e⟩ => by
    subst e
    obtain ⟨y, hy, rfl⟩ := List.mem_map.mp hv
    have hy := h y hy
    have q := w_size hy.1 61 (by have := hy.2; omega)
    simp only [Nat.reduceAdd] at q
    refine ⟨_, bindT1, [s0, x1, x2, x3, x4, x5, some (it y), x7, some (.tup [.int y.2.1, .int y.2.2])], .inl ?_, _, _, rfl⟩
    have e2 : cmpop .ne (.tup [.int y.2.1, .int y.2.2]) (.tup [.int y.2.1, .int y.2.2]) = .ok (.bl false) := by
      rw [c_ne rfl]
      show Res.ok (PV.bl (!((y.2.1 == y.2.1) && ((y.2.2 == y.2.2) && true)))) = _
      simp
    simp only [l_law_1, i_law_4, i_law_5]
    simp [it, hy.1.pl.1, q, w_whole, e2])
  exact ⟨env', e⟩
theorem G.okd {t : PV} {p d : Int} (h : G t p d) : 1 ≤ d ∧ okD d.toNat t = true := by
  induction h with
  | leaf hs hr hf =>
    refine ⟨by decide, okDs_all (n := 0) fun x hx => okD_flat ?_⟩
    rcases List.mem_cons.mp hx with e | hx
    · rw [e]; rfl
    · exact List.all_eq_true.mp hf x hx
  | part hg ih =>
    rename_i t p d a b
    have q := acc_le [(t, p, d)] (1, 0)
    have q2 : d ≤ (acc (1, 0) (t, p, d)).2 := q.2 (t, p, d) List.mem_cons_self
    refine ⟨by omega, ?_⟩
    have e : ((acc (1, 0) (t, p, d)).2 + 1).toNat = (acc (1, 0) (t, p, d)).2.toNat + 1 := by omega
    rw [e]
    refine okDs_all (n := (acc (1, 0) (t, p, d)).2.toNat) fun x hx => ?_
    simp only [List.mem_cons, List.not_mem_nil, or_false] at hx
    rcases hx with rfl | rfl | rfl | rfl
    · exact okD_flat rfl
    · exact okD_mono ih.2 (by omega)
    · exact okD_flat rfl
    · exact okD_flat rfl
  | over h1 h2 h3 ih =>
    rename_i f ts
    have q := acc_le ts (1, 0)
    have q1 : (0 : Int) ≤ (ts.foldl acc (1, 0)).2 := q.1
    refine ⟨by omega, ?_⟩
    have e : ((ts.foldl acc (1, 0)).2 + 1).toNat = (ts.foldl acc (1, 0)).2.toNat + 1 := by omega
    rw [e]
    refine okDs_all (n := (ts.foldl acc (1, 0)).2.toNat) fun x hx => ?_
    rcases List.mem_cons.mp hx with e | hx
    · rw [e]; exact okD_flat rfl
    · obtain ⟨y, hy, rfl⟩ := List.mem_map.mp hx
      exact okD_mono (ih y hy).2 (by have := q.2 y hy; omega)
theorem its_okd {hs : List It} (h : ∀ y ∈ hs, Ok1 y) : okDs 63 (hs.map it) = true := okDs_all fun x hx => by
  obtain ⟨y, hy, rfl⟩ := List.mem_map.mp hx
  obtain ⟨g, l⟩ := h y hy
  show (okD 62 y.1 && (true && (true && true))) = true
  rw [okD_mono g.okd.2 (by omega)]
  rfl
theorem plain (ns : List Int) (h : ns.length ≤ 63) : callF (tabT tab) 1 63 f_law [.scr (ns.map PV.int)] = .ok (.bl true) := by
  rw [t_law]
  simp only [b_law, runB]
  have hl := cut_len (xs := ns) (lo := none) (hi := some 60)
  obtain ⟨hs, y3, y4, y5, y6, h1, l1, e1⟩ := build (some (.scr (ns.map PV.int))) none none (cutP ns none (some 60)) [] none none none none (fun _ z => nomatch z) (by simp; omega)
  simp only [List.map] at e1
  have e2 : ∃ hs2 : List It, (∀ y ∈ hs2, Ok1 y) ∧ 0 < hs2.length ∧ hs2.length ≤ 100 ∧ evS (callF (tabT tab) 1 62) 1 [some (.scr (ns.map PV.int)), some (.lst true (forms.map PV.str)), some (.lst true (hs.map it)), y3, y4, y5, y6, none, none] i_law_3 = .fl (.next [some (.scr (ns.map PV.int)), some (.lst true (forms.map PV.str)), some (.lst true (hs2.map it)), y3, y4, y5, y6, none, none]) := by
    have hp := its_pl fun y hy => (h1 y hy).1.pl
    have c0 := fun o o' => c_nilL (o := o) (o' := o') (its_okd h1)
    by_cases q : hs = []
    · obtain ⟨t, ht, e⟩ := w_leaf (m := 61) 0
      simp only [Nat.reduceAdd] at e
      have pt := it_pl (x := (t, 1, 1)) ht.pl
      refine ⟨[(t, 1, 1)], fun y hy => by rw [List.mem_singleton.mp hy]; exact ⟨ht, (by decide : (1 : Int) ≤ 60)⟩, by simp, by simp, ?_⟩
      subst q
      simp only [i_law_3]
      simp [e, pt.2]
    · refine ⟨hs, h1, List.length_pos_iff.mpr q, l1, ?_⟩
      simp only [i_law_3]
      simp [hp.1, c0, q]
  obtain ⟨hs2, h2, l2, l3, e2⟩ := e2
  simp only [List.map] at e2
  have hp2 := its_pl fun y hy => (h2 y hy).1.pl
  obtain ⟨hs0, last, rfl⟩ : ∃ (a : List It) (b : It), hs2 = a ++ [b] := ⟨hs2.dropLast, hs2.getLast (List.length_pos_iff.mp l2), (List.dropLast_concat_getLast _).symm⟩
  have at1 : L2.atI ((hs0 ++ [last]).map it) (-1) = some (it last) := by
    rw [List.map_append]
    exact L2.atI_last _ _
  have pl := it_pl (h2 last (by simp)).1.pl
  generalize hD : hs0 ++ [last] = D at *
  have hm : most = 16777216 := rfl
  have e3 : ∀ a0 a1 a2 a3 a4 a5 a6 a7 a8 : Option PV, lcL [7] (fun env => (((getE env 7).bind fun x => idxop (frz x) (.int 1)).bind fun x => cmpop .lt (frz x) (.int 51)).bind fun x => asB x) (fun env => getE env 7) [a0, a1, a2, a3, a4, a5, a6, a7, a8] (D.map it) [] = .ok ((D.filter fun x => decide (x.2.1 < 51)).map it) := fun a0 a1 a2 a3 a4 a5 a6 a7 a8 => by
    rw [lcL_filter (b := fun v => match v with | .tup [_, .int p, _] => decide (p < 51) | _ => false) (g := fun v => v) (fun v hv => by
      obtain ⟨x, hx, rfl⟩ := List.mem_map.mp hv
      have px := it_pl (h2 x hx).1.pl
      refine ⟨_, bindT1, ?_, fun _ => ?_⟩
      · simp [it, (h2 x hx).1.pl.1]
      · simp [px.1]) (by rw [List.length_map, hm]; simp; omega)]
    rw [List.nil_append, List.map_id', List.filter_map]
    rfl
  generalize hF : D.filter (fun x => decide (x.2.1 < 51)) = F at e3
  have hFm : ∀ y ∈ last :: F, Ok1 y := fun y hy => by
    rcases List.mem_cons.mp hy with e | hy
    · rw [e]; exact h2 last (by rw [← hD]; simp)
    · rw [← hF] at hy
      exact h2 y (List.mem_filter.mp hy).1
  have hFl : F.length ≤ 100 := by
    rw [← hF]
    exact Nat.le_trans (List.length_filter_le _ _) l3
  have pF := its_pl fun y hy => (hFm y hy).1.pl
  have pF2 := its_pl fun y hy => (hFm y (List.mem_cons_of_mem _ hy)).1.pl
  have ad : binop .add (.lst false [it last]) (.lst false (F.map it)) = .ok (.lst true ((last :: F).map it)) := by
    rw [b_addL (by rw [List.length_map, hm]; simp; omega), pF2.1, frzs_cons, pl.1]
    rfl
  have hq : ∀ a0 a1 a2 a3 a4 a5 a6 a7 a8, ∃ env', forL [6] (fun env => evSs (callF (tabT tab) 1 62) 1 env l_law_1) ((last :: F).map it) [a0, a1, a2, a3, a4, a5, a6, a7, a8] = .fl (.next env') := fun a0 a1 a2 a3 a4 a5 a6 a7 a8 => asked a0 a1 a2 a3 a4 a5 a7 (last :: F) hFm a6 a8
  generalize (last :: F).map it = Z at *
  obtain ⟨env', e4⟩ := hq (some (.scr (ns.map PV.int))) (some (.lst true (forms.map PV.str))) (some (.lst true (D.map it))) y3 y4 y5 y6 none none
  simp only [List.map] at e4
  simp [e1, e2, hp2.1, ix_at at1, pl.1, e3, pF2.1, ad, pF.1, pF.2, e4]
end BW.Law

namespace BW.Law
open PySem PySem.Spec PyProof.Rows
open L2 hiding St
abbrev R : PySem.W.OpenRow := PySem.W.OpenLaw.row PySem.Challenge.rw_beatwright_k04_size_of_a_term
abbrev fa : List He.Fa := faOf tab ecs
abbrev fn : List He.DefD := tab.map Df.toD
abbrev hk : PySem.W.Hook := hookB 4 fa fn gls
def ob (s : PySem.W.SharedT) : He.AlD × Bool := obsBG 4 fa fn gls (HandSHeadRun.getT s)
theorem ob_eq (s : PySem.W.SharedT) : ob s = hk.obs s.abs := obsBG_eq (HandSHeadRun.getT_eq s)
def lo : List Str := (["inner", "size_of", "_law_whole", "_law_stream", "_law_leaf", "_law_over", "LEAVES"] : List Str)
theorem run (w : World) : HandSHeadRun.RunEq R (PySem.W.view R.prog [9]) hk ob 4000 lo w := by
  intro os
  kernel_rfl
end BW.Law
open PySem PySem.W PySem.Calls PyProof.Rows
theorem PySem.Challenge.cw_beatwright_k04_size_of_a_term_holds : PySem.Challenge.rw_beatwright_k04_size_of_a_term.Holds := by
  w_on; o_law
  refine HandSHeadRun.head_any (r := OpenLaw.row PySem.Challenge.rw_beatwright_k04_size_of_a_term) (q := view (OpenLaw.row PySem.Challenge.rw_beatwright_k04_size_of_a_term).prog [9]) (H := BW.Law.hk) (ob := BW.Law.ob) (M := 4000) (loose := BW.Law.lo) (d := HandSHeadRun.topDef (OpenLaw.row PySem.Challenge.rw_beatwright_k04_size_of_a_term).prog 9) (kwd := []) BW.Law.ob_eq
    (by kernel_rfl) (fun s => by kernel_rfl) BW.Law.run (by kernel_rfl) (by kernel_rfl) (by kernel_rfl) (by rfl) (by first | assumption | decide +kernel) (by decide +kernel) ⟨rfl, rfl, rfl, rfl, rfl, by decide +kernel⟩ ?hw ?hc
  case hw => w_witness2
  case hc =>
    exact BW.end_of (l := PySem.Challenge.rw_beatwright_k04_size_of_a_term) (n := 63) (k := 63) (w := 1) (i := BW.Law.f_law) (D := BW.Law.d_law) (m := 0) rfl (by decide) (by kernel_rfl) ⟨rfl, by decide, by decide⟩ rfl (by kernel_rfl) rfl BW.Law.tab_okay fun ns hl => BW.Law.plain ns hl

