import PyProof.Rows.All
import Wide.All
import OpenK.AllK
import Wide.FinOn
import HandS.ForExc
import HandS.IsInst
import HandS.Rev
import HandS.RevRange
import HandS.ForMost
import HandS.ExcOwn
import HandS.ExcBuiltin
import HandS.Defaults
import HandS.Head0
import HandS.Head1
import HandS.Head2
import HandS.HeadEnd
import HandS.HeadHook1
import HandS.HeadHook2
import PySem.Challenge.RW_beatwright_k21_half_known_worths
import HandS.Text
import HandS.TupAny
import HandS.Dict
import HandS.More
import HandS.WordsDict
import HandS.Flt
import KE.KEqNest
import KE.KDictLaw
import HandS.SortInts
import KE.KSortTup
import PyProof.Rows.SortKeyStr
import HandS.SortOrd
import HandS.SortRule
import PyProof.NeKinds
import HandS.Deep
import HandS.Wide
import HandS.TupSets
import HandS.SetTxt0
import PyProof.Rows.SortShellAny
import HandS.ListItems
import HandS.Zip
import HandS.Strs
import HandS.TryOnly
import HandS.Conv
import HandS.WideBits
import HandS.SetKeys
import PyProof.DictUpdate
import HandS.Finally
import HandS.Exc
import HandS.ExcIs
set_option Elab.async false
set_option linter.all false
set_option maxRecDepth 100000
set_option maxHeartbeats 0
/-! What a head looks at. -/
namespace BW
open PySem PySem.Spec PyProof.Rows
open L2 hiding St
/-- a module's constant -/
inductive Gk where
  | int (i : Int)
  | str (x : Str)
  | txs (xs : List Str)
  deriving DecidableEq
def caught (c x : Nat) : Bool := c == x || x == 0
def bnames : List Str := ["len", "int", "list", "min", "max", "isinstance", "bool", "tuple", "dict", "str", "range", "reversed", "sum", "all", "sorted", "zip", "set", "enumerate", "ValueError"]
def exF : List Str → List He.Fa
  | [] => []
  | x :: xs => .glo x :: .exc x :: exF xs
def adF (K : PySem.W.Frag) (xs : List Str) (i : Nat) : Addr := match xs[i]? with
  | some x => He.ga K x
  | none => default
def strsB : List Str → List Value → Bool
  | [], [] => true
  | x :: xs, .str y _ :: vs => decide (x = y) && (PyData.strOk x && strsB xs vs)
  | _, _ => false
/-- a module's constant in the written part -/
def glKB (K : PySem.W.Frag) (x : Str) : Gk → Bool
  | .int i => (He.Fa.int x i).ok K
  | .str z => PyData.strOk z && (He.Fa.str x z).ok K
  | .txs xs => (He.Fa.glo x).ok K && (match K.lookup (He.ga K x) with
    | some ⟨.type c, none, .seq its _, _⟩ => decide (c = "tuple") && (decide (its.size ≤ sizeLine) && strsB xs its.toList)
    | _ => false)
/-- the exceptions: class 0 takes all, the others themselves alone -/
def exB (K : PySem.W.Frag) (xs : List Str) : Bool :=
  ((List.range xs.length).all fun c => ((List.range xs.length).all fun x => decide (PySem.W.exmOne K (.ref (adF K xs c)) (.ref (adF K xs x)) = some (caught c x)) && decide (PySem.W.kitOne K (.ref (adF K xs c)) (.ref (adF K xs x)) = some (caught c x))) &&
    (decide (PySem.W.kitOne K (.ref (adF K xs c)) (.type "ValueError") = some true) && (He.eqO (PySem.W.findIn K (.ref (adF K xs c)) "__getattribute__") (some (some (.builtin "BaseException.__getattribute__"))) && (He.eqO (PySem.W.findIn K (.ref (adF K xs c)) "__getattr__") (some none) &&
      (decide (PySem.W.subIn K (.ref (adF K xs c)) (.type "BaseException") = some true) && (PySem.W.hasDictIn K (adF K xs c) && (He.eqO (PySem.W.findIn K (.ref (adF K xs c)) "__class__") (some (some (.builtin "object.__class__"))) &&
        decide (PySem.W.mroIn K (adF K xs c) (.type "object") = some true)))))))) &&
  (xs.isEmpty || (He.eqO (PySem.W.specialIn K (.builtin "object.__class__") "__get__") (some (some (.builtin "getset_descriptor.__get__"))) && decide (PySem.W.takesIn K (.builtin "object.__class__") = some true)))
/-- a head's hook: facts, and the constants -/
def obsB (fa : List He.Fa) (fn : List He.DefD) (gl : List (Str × Gk)) (xs : List Str) (K : PySem.W.Frag) : He.AlD × Bool := (He.obsD fa fn K, (gl.all fun q => glKB K q.1 q.2) && exB K xs)
def obsBG (n : Nat) (fa : List He.Fa) (fn : List He.DefD) (gl : List (Str × Gk)) (xs : List Str) (g : Addr → Option Obj) : He.AlD × Bool := obsB fa fn gl xs (He.frG g (He.asD g n))
def hookB (n : Nat) (fa : List He.Fa) (fn : List He.DefD) (gl : List (Str × Gk)) (xs : List Str) : PySem.W.Hook where
  α := He.AlD × Bool
  obs := fun s => obsBG n fa fn gl xs s.heap.get?
  val := fun _ => (He.valD fn, true)
  says := fun _ h => ∃ K : PySem.W.Frag, K.In h ∧ obsB fa fn gl xs K = (He.valD fn, true)
  of := fun _ _ e => ⟨_, He.frG_in, e⟩
  keeps := fun _ _ _ ⟨K, hK, c⟩ k => ⟨K, PySem.W.Frag.In.keeps hK k, c⟩
theorem obsBG_eq {n : Nat} {fa : List He.Fa} {fn : List He.DefD} {gl : List (Str × Gk)} {xs : List Str} {g : Addr → Option Obj} {s : Shared} (h : ∀ a, g a = s.heap.get? a) : obsBG n fa fn gl xs g = (hookB n fa fn gl xs).obs s := by
  have e : g = s.heap.get? := funext h
  rw [e] <;> rfl
theorem map3 {α β γ δ : Type} {o : Option α} {f : α → β} {g : α → γ} {h : α → δ} {a : β} {b : γ} {c : δ} (x : o.map f = some a) (y : o.map g = some b) (z : o.map h = some c) : o.map (fun s => (f s, g s, h s)) = some (a, b, c) := by
  cases o with
  | none => cases x
  | some s =>
    cases x
    cases y
    cases z
    rfl
end BW

namespace BW.Law
open PySem PySem.Spec PyProof.Rows
open L2 hiding St
def top (i : Nat) : Stmt := PySem.Challenge.pw_beatwright_k21_half_known_worths.main.body.getD i (.Pass ⟨0, 0, 0, 0⟩)
def gls : List (Str × Gk) := []
def ecs : List Str := []
def fn : List He.DefD := [⟨("bits_of", none), "bits_of", "bits_of", defArgs (top 1), defBody (top 1), defScope (top 1), [], []⟩, ⟨("dim", none), "dim", "dim", defArgs (top 3), defBody (top 3), defScope (top 3), [], []⟩, ⟨("two_dims", none), "two_dims", "two_dims", defArgs (top 4), defBody (top 4), defScope (top 4), [], []⟩, ⟨("turned", none), "turned", "turned", defArgs (top 5), defBody (top 5), defScope (top 5), [], []⟩, ⟨("and_mark", none), "and_mark", "and_mark", defArgs (top 6), defBody (top 6), defScope (top 6), [], []⟩, ⟨("or_mark", none), "or_mark", "or_mark", defArgs (top 7), defBody (top 7), defScope (top 7), [], []⟩, ⟨("xor_mark", none), "xor_mark", "xor_mark", defArgs (top 8), defBody (top 8), defScope (top 8), [], []⟩, ⟨("carried", none), "carried", "carried", defArgs (top 9), defBody (top 9), defScope (top 9), [], []⟩, ⟨("summed", none), "summed", "summed", defArgs (top 10), defBody (top 10), defScope (top 10), [], []⟩, ⟨("same_mark", none), "same_mark", "same_mark", defArgs (top 11), defBody (top 11), defScope (top 11), [], []⟩, ⟨("picked", none), "picked", "picked", defArgs (top 12), defBody (top 12), defScope (top 12), [], []⟩, ⟨("_law_cell", none), "_law_cell", "_law_cell", defArgs (top 14), defBody (top 14), defScope (top 14), [], []⟩, ⟨("_law_mix", none), "_law_mix", "_law_mix", defArgs (top 15), defBody (top 15), defScope (top 15), [], []⟩, ⟨("_law_names", none), "_law_names", "_law_names", defArgs (top 16), defBody (top 16), defScope (top 16), [], []⟩, ⟨("_law_word", none), "_law_word", "_law_word", defArgs (top 17), defBody (top 17), defScope (top 17), [], []⟩, ⟨("_law_marks", none), "_law_marks", "_law_marks", defArgs (top 18), defBody (top 18), defScope (top 18), [], []⟩, ⟨("_law_told", none), "_law_told", "_law_told", defArgs (top 19), defBody (top 19), defScope (top 19), [], []⟩, ⟨("_law_sum", none), "_law_sum", "_law_sum", defArgs (top 20), defBody (top 20), defScope (top 20), [], []⟩, ⟨("_law_two", none), "_law_two", "_law_two", defArgs (top 21), defBody (top 21), defScope (top 21), [], []⟩, ⟨("_law_mark", none), "_law_mark", "_law_mark", defArgs (top 22), defBody (top 22), defScope (top 22), [], []⟩, ⟨("law", none), "law", "law", defArgs (top 23), defBody (top 23), defScope (top 23), [], []⟩]
def fa : List He.Fa := [.glo "bits_of", .glo "dim", .glo "two_dims", .glo "turned", .glo "and_mark", .glo "or_mark", .glo "xor_mark", .glo "carried", .glo "summed", .glo "same_mark", .glo "picked", .glo "_law_cell", .glo "_law_mix", .glo "_law_names", .glo "_law_word", .glo "_law_marks", .glo "_law_told", .glo "_law_sum", .glo "_law_two", .glo "_law_mark", .glo "law"] ++ (bnames.map .free ++ exF ecs)
abbrev R : PySem.W.OpenRow := PySem.W.OpenLaw.row PySem.Challenge.rw_beatwright_k21_half_known_worths
abbrev hk : PySem.W.Hook := hookB 2 fa fn gls ecs
def ob (s : PySem.W.SharedT) : He.AlD × Bool := obsBG 2 fa fn gls ecs (HandSHeadRun.getT s)
theorem ob_eq (s : PySem.W.SharedT) : ob s = hk.obs s.abs := obsBG_eq (HandSHeadRun.getT_eq s)
def lo : List Str := (["bits_of", "dim", "two_dims", "turned", "and_mark", "or_mark", "xor_mark", "carried", "summed", "same_mark", "picked", "_law_cell", "_law_mix", "_law_names", "_law_word", "_law_marks", "_law_told", "_law_sum", "_law_two", "_law_mark"] : List Str)
section
open PySem.W PySem.Calls
theorem headA (w : World) : ∀ os, (HandSHeadRun.endF (HandSHeadRun.stepQ (HandSHeadRun.denQ HandSHeadRun.tabQ) R.prog w) 8000 R.prog w os).map (fun s => HandSHeadRun.looksF R.prog (PySem.W.boot_heap w.params) s.abs) = some true := by
  intro os
  kernel_rfl
theorem headB (w : World) : ∀ os, (HandSHeadRun.endF (HandSHeadRun.stepQ (HandSHeadRun.denQ HandSHeadRun.tabQ) R.prog w) 8000 R.prog w os).map (fun s => HandSHeadRun.seenQ (PySem.W.view R.prog [23]) lo (importedModules R.prog.main.body) (fun s => PySem.W.xlAt (PySem.W.view R.prog [23]) [] s && PySem.W.recOk R.toRowW.records s) s.abs) = some (PySem.W.openGood (PySem.W.view R.prog [23]) lo) := by
  intro os
  kernel_rfl
theorem headC (w : World) : ∀ os, (HandSHeadRun.endF (HandSHeadRun.stepQ (HandSHeadRun.denQ HandSHeadRun.tabQ) R.prog w) 8000 R.prog w os).map ob = some (hk.val w) := by
  intro os
  kernel_rfl
theorem run (w : World) : HandSHeadRun.RunEq R (PySem.W.view R.prog [23]) hk ob 8000 lo w := fun os => BW.map3 (headA w os) (headB w os) (headC w os)
end
end BW.Law
/-! The little language: values without a heap, an evaluator. -/
namespace BW
open PySem

/-- (so simp keeps a proof, and the kernel need not find one) -/
theorem nr {α : Type} {a b : α} (h : a = b) : a = b := h
abbrev DKey := Sum Int Str
/-- values; the mark o of a list, a dict: it is nobody else's -/
inductive PV where
  | non
  | bl (b : Bool)
  | int (i : Int)
  | str (x : Str)
  | tup (xs : List PV)
  | lst (o : Bool) (xs : List PV)
  | dct (o : Bool) (ks : List DKey) (xs : List PV)
  | exn (c : Nat)
  | scr (xs : List PV)
  | ftp (xs : List PV)
  deriving Inhabited

mutual
/-- no longer one's own -/
def frz : PV → PV
  | .tup xs => .tup (frzs xs)
  | .lst _ xs => .lst false (frzs xs)
  | .dct _ ks xs => .dct false ks (frzs xs)
  | .non => .non
  | .bl b => .bl b
  | .int i => .int i
  | .str x => .str x
  | .exn c => .exn c
  | .scr xs => .scr xs
  | .ftp xs => .ftp (frzs xs)
def frzs : List PV → List PV
  | [] => []
  | x :: xs => frz x :: frzs xs
end

mutual
/-- holds nothing that can change and may be someone else's -/
def cls : PV → Bool
  | .tup xs => clss xs
  | .lst o xs => o && clss xs
  | .dct o _ xs => o && clss xs
  | .non => true
  | .bl _ => true
  | .int _ => true
  | .str _ => true
  | .exn _ => true
  | .scr _ => true
  | .ftp xs => clss xs
def clss : List PV → Bool
  | [] => true
  | x :: xs => cls x && clss xs
end

mutual
/-- as plain data -/
def toD : PV → PyData
  | .non => .none
  | .bl b => .bool b
  | .int i => .int i
  | .str x => .str x
  | .tup xs => .tuple (toDs xs)
  | .lst _ xs => .list (toDs xs)
  | .dct _ _ _ => .none
  | .exn _ => .none
  | .scr _ => .none
  | .ftp xs => .tuple (toDs xs)
def toDs : List PV → List PyData
  | [] => []
  | x :: xs => toD x :: toDs xs
end
mutual
/-- plain data, so deep at most -/
def okD : Nat → PV → Bool
  | n + 1, .tup xs => okDs n xs
  | n + 1, .lst _ xs => okDs n xs
  | n + 1, .ftp xs => okDs n xs
  | 0, .ftp _ => false
  | 0, .tup _ => false
  | 0, .lst _ _ => false
  | _, .dct _ _ _ => false
  | _, .exn _ => false
  | _, .scr _ => false
  | _, .non => true
  | _, .bl _ => true
  | _, .int _ => true
  | _, .str _ => true
def okDs : Nat → List PV → Bool
  | _, [] => true
  | n, x :: xs => okD n x && okDs n xs
end
def peq (x y : PV) : Bool := PyData.eqv (toD x) (toD y)
def eqok (x y : PV) : Bool := okD 64 x && okD 64 y

inductive Res (α : Type) where
  | ok (a : α)
  | exc (c : Nat)
  | bad
  deriving Inhabited
def Res.bind {α β : Type} (x : Res α) (f : α → Res β) : Res β := match x with
  | .ok a => f a
  | .exc c => .exc c
  | .bad => .bad
@[simp] theorem Res.bind_ok {α β : Type} (a : α) (f : α → Res β) : (Res.ok a).bind f = f a := nr rfl
@[simp] theorem Res.bind_exc {α β : Type} (c : Nat) (f : α → Res β) : (Res.exc c).bind f = .exc c := nr rfl
@[simp] theorem Res.bind_bad {α β : Type} (f : α → Res β) : (Res.bad : Res α).bind f = .bad := nr rfl

def Gk.pv : Gk → PV
  | .int i => .int i
  | .str x => .str x
  | .txs xs => .tup (xs.map PV.str)
abbrev PEnv := List (Option PV)

inductive Bop where
  | add | sub | mul | fdiv | mod | pow | shl | shr | band | bor | bxor
  deriving DecidableEq
inductive Cop where
  | eq | ne | lt | le | gt | ge | isN | isnt | isin | notin
  deriving DecidableEq
inductive Bi where
  | len | int | str | list | tuple | ftup | sum | min | max | all | isInt | isBool | isList | isTuple | isDict | isStr | sorted | dict
  deriving DecidableEq

/-- methods that change nothing -/
inductive Mth where
  | count | index | join
  deriving DecidableEq
mutual
/-- expressions -/
inductive Ex where
  | var (i : Nat)
  | non
  | bl (b : Bool)
  | int (i : Int)
  | str (x : Str)
  | bin (op : Bop) (a b : Ex)
  | neg (a : Ex)
  | not (a : Ex)
  | and (a b : Ex)
  | or (a b : Ex)
  | cmp (op : Cop) (a b : Ex)
  | chn (op op' : Cop) (a b c : Ex)
  | tup (es : Exs)
  | lst (es : Exs)
  | idx (a i : Ex)
  | slc (a : Ex) (lo hi : Exo)
  | call (f : Nat) (es : Exs)
  | bi (b : Bi) (es : Exs)
  | lc (t : List Nat) (own : List Nat) (it : Iw) (c : Exo) (e : Ex)
  | con (g : Gk)
  | dnew
  | meth (m : Mth) (o : Ex) (es : Exs)
  | sset (e : Ex)
  | items (e : Ex)
  | dsp (es : Exs)
  | lrg (e : Ex)
  | get (o k d : Ex)
  | bitl (e : Ex)
inductive Exs where
  | nil
  | cons (e : Ex) (es : Exs)
inductive Exo where
  | none
  | some (e : Ex)
/-- what is walked -/
inductive Iw where
  | ex (e : Ex)
  | rng (es : Exs)
  | rev (e : Ex)
  | revr (es : Exs)
  | zip (es : Exs)
end

/-! ### operators -/
def mulOk (i j : Int) : Bool := decide (i.natAbs < 2 ^ 400000 ∧ j.natAbs < 2 ^ 400000)
def binI (op : Bop) (i j : Int) : Res PV := match op with
  | .add => .ok (.int (i + j))
  | .sub => .ok (.int (i - j))
  | .mul => if (decide (-(2 ^ 64) < i ∧ i < 2 ^ 64) || decide (-(2 ^ 64) < j ∧ j < 2 ^ 64)) = true then .ok (.int (i * j)) else .bad
  | .fdiv => if (decide (0 < j) && decide (j < 2 ^ 128)) = true then .ok (.int (i / j)) else .bad
  | .mod => if decide (0 < j) = true then .ok (.int (i % j)) else .bad
  | .pow => if (decide (0 ≤ j ∧ j ≤ 1000000) && decide (i.natAbs < 2 ^ 64)) = true then .ok (.int (i ^ j.toNat)) else .bad
  | .shl => if (decide (0 ≤ j ∧ j ≤ 1000000) && decide (i.natAbs < 2 ^ 64)) = true then .ok (.int (i * 2 ^ j.toNat)) else .bad
  | .shr => if decide (0 ≤ j) = true then .ok (.int (i / 2 ^ j.toNat)) else .bad
  | .band => .ok (.int (Builtin.bitAnd i j))
  | .bor => .ok (.int (Builtin.bitOr i j))
  | .bxor => .ok (.int (Builtin.bitXor i j))
def most : Nat := 16777216
/-- a text, so many times -/
def repS (a : Str) (j : Int) : Str := ⟨((List.replicate j.toNat a.cps.toList).flatten).toArray⟩
def binop (op : Bop) (x y : PV) : Res PV := match x, y with
  | .int i, .int j => binI op i j
  | .lst _ xs, .lst _ ys => if (decide (op = .add) && decide (xs.length + ys.length ≤ most)) = true then .ok (.lst true (frzs xs ++ frzs ys)) else .bad
  | .tup xs, .tup ys => if (decide (op = .add) && decide (xs.length + ys.length ≤ most)) = true then .ok (.tup (frzs xs ++ frzs ys)) else .bad
  | .str a, .str b => if (decide (op = .add) && decide (a.length + b.length ≤ most)) = true then .ok (.str (a ++ b)) else .bad
  | .str a, .int j => if (decide (op = .mul) && decide (a.length ≤ 4000 ∧ -1000 ≤ j ∧ j ≤ 4000)) = true then .ok (.str (repS a j)) else .bad
  | _, _ => .bad
/-- dicts: parallel lists of keys and things -/
def dlook : List DKey → List PV → DKey → Option PV
  | k :: ks, x :: xs, j => if k = j then some x else dlook ks xs j
  | _, _, _ => none
def dset : List DKey → List PV → DKey → PV → List PV
  | k :: ks, x :: xs, j, y => (if k = j then y else x) :: dset ks xs j y
  | _, xs, _, _ => xs
def keyV : PV → Option DKey
  | .int i => some (.inl i)
  | .str x => some (.inr x)
  | _ => none
def keyP : DKey → PV
  | .inl i => .int i
  | .inr x => .str x
def kB : DKey → Bool
  | .inr x => PyData.strOk x
  | .inl _ => true
def ksB (ks : List DKey) : Bool := ks.all kB && decide ks.Nodup
/-- flat values -/
def flat : PV → Bool
  | .non => true
  | .bl _ => true
  | .int _ => true
  | .str _ => true
  | _ => false
def feq : PV → PV → Bool
  | .non, .non => true
  | .bl a, .bl b => a == b
  | .bl a, .int b => (if a then 1 else 0) == b
  | .int a, .bl b => a == (if b then 1 else 0)
  | .int a, .int b => a == b
  | .str a, .str b => a == b
  | _, _ => false
/-- x in xs, flat values -/
def fin (x : PV) (xs : List PV) : Bool := xs.any fun y => feq y x
/-- x in xs, plain data -/
def din (x : PV) (xs : List PV) : Bool := xs.any fun y => peq y x
def inop (neg : Bool) (x y : PV) : Res PV := match y with
  | .lst _ ys => if (flat x && ys.all flat) = true then .ok (.bl (if neg then !fin x ys else fin x ys)) else if (okD 63 x && okDs 63 ys) = true then .ok (.bl (if neg then !din x ys else din x ys)) else .bad
  | .tup ys => if (flat x && ys.all flat) = true then .ok (.bl (if neg then !fin x ys else fin x ys)) else if (okD 63 x && okDs 63 ys) = true then .ok (.bl (if neg then !din x ys else din x ys)) else .bad
  | .ftp ys => if (flat x && ys.all flat) = true then .ok (.bl (if neg then !fin x ys else fin x ys)) else if (okD 63 x && okDs 63 ys) = true then .ok (.bl (if neg then !din x ys else din x ys)) else .bad
  | .dct _ ks xs => (match keyV x with
    | some j => .ok (.bl (if neg then !(dlook ks xs j).isSome else (dlook ks xs j).isSome))
    | none => .bad)
  | .str z => (match x with
    | .str a => (match a.cps.toList with
      | [c] => .ok (.bl (if neg then !decide (c ∈ z.cps.toList) else decide (c ∈ z.cps.toList)))
      | _ => .bad)
    | _ => .bad)
  | _ => .bad
def allO : List (Option Bool) → Option Bool
  | [] => some true
  | none :: _ => none
  | some b :: r => (allO r).map fun c => b && c
/-- == of lists, tuples, dicts of what may hold dicts -/
def eqG : Nat → PV → PV → Option Bool
  | 0, _, _ => none
  | n + 1, x, y => if eqok x y = true then some (peq x y) else (match x, y with
    | .lst _ xs, .lst _ ys => if xs.length = ys.length then allO (List.zipWith (eqG n) xs ys) else some false
    | .tup xs, .tup ys => (allO (List.zipWith (eqG n) xs ys)).map fun b => b && decide (xs.length = ys.length)
    | .dct _ ks xs, .dct _ ls ys => (allO (List.zipWith (fun k x => match dlook ls ys k with
      | some y => eqG n x y
      | none => some false) ks xs)).map fun b => decide (ks.length = ls.length) && b
    | _, _ => none)
/-- of two sorts that are never the same -/
def dif (x y : PV) : Bool := match x, y with
  | .dct .., .str _ => true
  | .str _, .dct .. => true
  | _, _ => false
def cmpop (op : Cop) (x y : PV) : Res PV := match op with
  | .eq => if eqok x y = true then .ok (.bl (peq x y)) else (match eqG 8 x y with | some b => .ok (.bl b) | none => if dif x y = true then .ok (.bl false) else .bad)
  | .ne => if eqok x y = true then .ok (.bl (!peq x y)) else (match eqG 8 x y with | some b => .ok (.bl (!b)) | none => if dif x y = true then .ok (.bl true) else .bad)
  | .lt => match x, y with
    | .int i, .int j => .ok (.bl (decide (i < j)))
    | _, _ => .bad
  | .le => match x, y with
    | .int i, .int j => .ok (.bl (decide (i ≤ j)))
    | _, _ => .bad
  | .gt => match x, y with
    | .int i, .int j => .ok (.bl (decide (j < i)))
    | _, _ => .bad
  | .ge => match x, y with
    | .int i, .int j => .ok (.bl (decide (j ≤ i)))
    | _, _ => .bad
  | .isN => match y with
    | .non => .ok (.bl (match x with | .non => true | _ => false))
    | _ => .bad
  | .isnt => match y with
    | .non => .ok (.bl (match x with | .non => false | _ => true))
    | .bl b => (match x with | .bl a => .ok (.bl (a != b)) | _ => .bad)
    | _ => .bad
  | .isin => inop false x y
  | .notin => inop true x y
def idxop (x y : PV) : Res PV := match x, y with
  | .lst _ xs, .int i => (match L2.atI xs i with | some v => .ok (frz v) | none => .bad)
  | .tup xs, .int i => (match L2.atI xs i with | some v => .ok (frz v) | none => .bad)
  | .scr xs, .int i => (match L2.atI xs i with | some v => .ok (frz v) | none => .bad)
  | .ftp xs, .int i => (match L2.atI xs i with | some v => .ok (frz v) | none => .bad)
  | .dct _ ks xs, k => (match keyV k with
    | some j => (match dlook ks xs j with | some v => .ok (frz v) | none => .bad)
    | none => .bad)
  | .str z, .int i => (match L2.atI z.cps.toList i with | some c => if decide (z.length ≤ most) = true then .ok (.str ⟨#[c]⟩) else .bad | none => .bad)
  | _, _ => .bad
def cutP {α : Type} (xs : List α) (lo hi : Option Int) : List α := (xs.drop (HT.sIx xs.length 0 lo)).take (HT.sIx xs.length xs.length hi - HT.sIx xs.length 0 lo)
def intO : PV → Res (Option Int)
  | .int i => .ok (some i)
  | _ => .bad
def slcop (x : PV) (lo hi : Option Int) : Res PV := match x with
  | .lst _ xs => .ok (.lst true (frzs (cutP xs lo hi)))
  | .scr xs => .ok (.lst true (frzs (cutP xs lo hi)))
  | .tup xs => .ok (.tup (frzs (cutP xs lo hi)))
  | .ftp xs => .ok (.tup (frzs (cutP xs lo hi)))
  | .str z => if decide (z.length ≤ most) = true then .ok (.str (L2.cutS z lo hi)) else .bad
  | _ => .bad
def asB : PV → Res Bool
  | .bl b => .ok b
  | _ => .bad
def allI : List PV → Option (List Int)
  | [] => some []
  | .int i :: r => (allI r).map (i :: ·)
  | _ :: _ => none
def lenV : PV → Res PV
  | .lst _ xs => .ok (.int xs.length)
  | .tup xs => .ok (.int xs.length)
  | .scr xs => .ok (.int xs.length)
  | .ftp xs => .ok (.int xs.length)
  | .dct _ ks _ => .ok (.int ks.length)
  | .str z => if decide (z.length ≤ most) = true then .ok (.int z.length) else .bad
  | _ => .bad
def intV : PV → Res PV
  | .int i => .ok (.int i)
  | .bl k => .ok (.int (if k then 1 else 0))
  | _ => .bad
def listV : PV → Res PV
  | .dct _ ks _ => .ok (.lst true (ks.map keyP))
  | .lst _ xs => .ok (.lst true (frzs xs))
  | .tup xs => .ok (.lst true (frzs xs))
  | .ftp xs => .ok (.lst true (frzs xs))
  | _ => .bad
def putD (ks : List DKey) (xs : List PV) (k : DKey) (v : PV) : List DKey × List PV := if (dlook ks xs k).isSome = true then (ks, dset ks xs k v) else (ks ++ [k], xs ++ [v])
def mrg : List DKey → List PV → List DKey → List PV → List DKey × List PV
  | ks, xs, l :: ls, y :: ys => mrg (putD ks xs l y).1 (putD ks xs l y).2 ls ys
  | ks, xs, _, _ => (ks, xs)
/-- a list of pairs: keys, things -/
def prsV : List PV → Option (List DKey × List PV)
  | [] => some ([], [])
  | .tup [k, v] :: r => (keyV k).bind fun j => (prsV r).map fun p => (j :: p.1, frz v :: p.2)
  | _ :: _ => none
def dctV : PV → Res PV
  | .dct _ ks xs => .ok (.dct true ks (frzs xs))
  | .lst _ xs => (match prsV xs with
    | some p => .ok (.dct true (mrg [] [] p.1 p.2).1 (mrg [] [] p.1 p.2).2)
    | none => .bad)
  | _ => .bad
def tupV : PV → Res PV
  | .lst _ xs => .ok (.tup (frzs xs))
  | .tup xs => .ok (.tup (frzs xs))
  | _ => .bad
/-- a tuple made of a list -/
def ftpV : PV → Res PV
  | .lst _ xs => .ok (.ftp (frzs xs))
  | _ => .bad
def min2 (x y : PV) : Res PV := match x with
  | .int i => (match y with
    | .int j => .ok (.int (if j < i then j else i))
    | _ => .bad)
  | _ => .bad
def max2 (x y : PV) : Res PV := match x with
  | .int i => (match y with
    | .int j => .ok (.int (if j > i then j else i))
    | _ => .bad)
  | _ => .bad
/-- all texts -/
def allS : List PV → Option (List Str)
  | [] => some []
  | .str i :: r => (allS r).map (i :: ·)
  | _ :: _ => none
def allB : List PV → Option (List Bool)
  | [] => some []
  | .bl i :: r => (allB r).map (i :: ·)
  | _ :: _ => none
def ins1 {α : Type} (le : α → α → Bool) (x : α) : List α → List α
  | [] => [x]
  | y :: ys => if le x y = true then x :: y :: ys else y :: ins1 le x ys
def srt {α : Type} (le : α → α → Bool) : List α → List α
  | [] => []
  | x :: xs => ins1 le x (srt le xs)
def leT (a b : Str) : Bool := !PySem.Spec.ltCps b.cps.toList a.cps.toList
def leI (a b : Int) : Bool := decide (a ≤ b)
/-- each once -/
def ddp : List Str → List Str
  | [] => []
  | x :: xs => if x ∈ xs then ddp xs else x :: ddp xs
def ssetV : PV → Res PV
  | .lst _ xs => (match allS xs with
    | some ys => if decide (ys.length < 4000) = true then .ok (.lst true ((srt leT (ddp ys)).map PV.str)) else .bad
    | none => .bad)
  | _ => .bad
/-- all names -/
def allK : List DKey → Option (List Str)
  | [] => some []
  | .inr i :: r => (allK r).map (i :: ·)
  | .inl _ :: _ => none
/-- the least, the greatest -/
def mnI : Int → List Int → Int
  | i, [] => i
  | i, j :: r => mnI (if j < i then j else i) r
def mxI : Int → List Int → Int
  | i, [] => i
  | i, j :: r => mxI (if i < j then j else i) r
def mnV : PV → Res PV
  | .lst _ xs => (match allI xs with
    | some (i :: r) => .ok (.int (mnI i r))
    | _ => .bad)
  | _ => .bad
def mxV : PV → Res PV
  | .lst _ xs => (match allI xs with
    | some (i :: r) => .ok (.int (mxI i r))
    | _ => .bad)
  | _ => .bad
/-- keys in order -/
def isI : DKey → Bool
  | .inl _ => true
  | .inr _ => false
def ltK : DKey → DKey → Bool
  | .inl i, .inl j => decide (i < j)
  | .inr a, .inr b => decide (a.cps.toList < b.cps.toList)
  | .inl _, .inr _ => true
  | .inr _, .inl _ => false
def lexK : List DKey → List DKey → Bool
  | [], [] => false
  | [], _ :: _ => true
  | _ :: _, [] => false
  | x :: xs, y :: ys => if x = y then lexK xs ys else ltK x y
def leL (a b : List DKey) : Bool := !lexK b a
def allP : List PV → Option (List DKey)
  | [] => some []
  | x :: r => (keyV x).bind fun k => (allP r).map (k :: ·)
/-- all tuples of ints and texts -/
def allT : List PV → Option (List (List DKey))
  | [] => some []
  | .tup xs :: r => (allP xs).bind fun ks => (allT r).map (ks :: ·)
  | _ :: _ => none
/-- of one shape -/
def shpB : List (List DKey) → Bool
  | [] => true
  | ks :: r => !ks.isEmpty && r.all fun ls => decide (ls.map isI = ks.map isI)
def keyT (ks : List DKey) : PV := .tup (ks.map keyP)
def sortT (xs : List PV) : Res PV := match allT xs with
  | some kss => if shpB kss = true then .ok (.lst true ((srt leL kss).map keyT)) else .bad
  | none => .bad
def sortV : PV → Res PV
  | .lst _ xs => (match allS xs with
    | some ys => if decide (ys.length < 64) = true then .ok (.lst true ((srt leT ys).map PV.str)) else .bad
    | none => (match allI xs with
      | some is => .ok (.lst true ((srt leI is).map PV.int))
      | none => sortT xs))
  | .dct _ ks _ => (match allK ks with
    | some ys => if decide (ys.length < 64) = true then .ok (.lst true ((srt leT ys).map PV.str)) else .bad
    | none => .bad)
  | _ => .bad
def sumV : PV → Res PV
  | .lst _ xs => (match allI xs with
    | some is => .ok (.int is.sum)
    | none => .bad)
  | _ => .bad
def allV : PV → Res PV
  | .lst _ xs => (match allB xs with
    | some bs => .ok (.bl (bs.all id))
    | none => .bad)
  | _ => .bad
/-- list(d.items()) -/
def itmV : PV → Res PV
  | .dct _ ks xs => .ok (.lst true ((ks.zip xs).map fun p => .tup [keyP p.1, frz p.2]))
  | _ => .bad
def seqOf : PV → Option (List PV)
  | .lst _ xs => some xs
  | .tup xs => some xs
  | _ => none
def cntV (x y : PV) : Res PV := match x with
  | .lst _ xs => if (xs.all flat && flat y) = true then .ok (.int ((xs.countP fun z => feq z y : Nat) : Int)) else .bad
  | _ => .bad
def ixV (x y : PV) : Res PV := match x with
  | .lst _ xs => if (xs.all flat && flat y) = true then (match xs.findIdx? fun z => feq z y with
    | some j => .ok (.int ((j : Nat) : Int))
    | none => .bad) else .bad
  | .ftp xs => (match allS xs with
    | some ys => (match y with
      | .str z => (match ys.findIdx? fun u => u == z with
        | some j => .ok (.int ((j : Nat) : Int))
        | none => .bad)
      | _ => .bad)
    | none => .bad)
  | _ => .bad
def joinV (x y : PV) : Res PV := match x with
  | .str a => (match seqOf y with
    | some xs => (match allS xs with
      | some ys => if decide ((ys.map (·.length)).sum + ys.length * a.length ≤ most) = true then .ok (.str (PySem.Txt.join a ys)) else .bad
      | none => .bad)
    | none => .bad)
  | _ => .bad
def mthV (m : Mth) (x : PV) (vs : List PV) : Res PV := match vs with
  | [y] => (match m with
    | .count => cntV x y
    | .index => ixV x y
    | .join => joinV x y)
  | _ => .bad
/-- what has it -/
def mthOk : Mth → PV → Bool
  | .count, .lst _ _ => true
  | .index, .lst _ _ => true
  | .index, .ftp _ => true
  | .join, .str _ => true
  | _, _ => false
/-- zip: both lists, or both tuples -/
def zipV (vs : List PV) : Res (List PV) := match vs with
  | [.lst _ xs, .lst _ ys] => .ok (List.zipWith (fun x y => PV.tup [x, y]) (frzs xs) (frzs ys))
  | [.tup xs, .tup ys] => .ok (List.zipWith (fun x y => PV.tup [x, y]) (frzs xs) (frzs ys))
  | _ => .bad
/-- isinstance: where the answer is told -/
def isV (b : Bi) (x : PV) : Option Bool := match x with
  | .non => (match b with
    | .isInt => some false
    | .isBool => some false
    | .isList => some false
    | .isTuple => some false
    | .isStr => some false
    | .isDict => some false
    | _ => none)
  | .int _ => (match b with
    | .isInt => some true
    | .isBool => some false
    | .isList => some false
    | .isTuple => some false
    | .isStr => some false
    | .isDict => some false
    | _ => none)
  | .bl _ => (match b with
    | .isInt => some true
    | .isBool => some true
    | .isList => some false
    | .isTuple => some false
    | .isStr => some false
    | .isDict => some false
    | _ => none)
  | .str _ => (match b with
    | .isInt => some false
    | .isBool => some false
    | .isList => some false
    | .isTuple => some false
    | .isStr => some true
    | .isDict => some false
    | _ => none)
  | .lst _ _ => (match b with
    | .isInt => some false
    | .isBool => some false
    | .isList => some true
    | .isTuple => some false
    | .isStr => some false
    | .isDict => some false
    | _ => none)
  | .tup _ => (match b with
    | .isInt => some false
    | .isBool => some false
    | .isList => some false
    | .isTuple => some true
    | .isStr => some false
    | .isDict => some false
    | _ => none)
  | .ftp _ => (match b with
    | .isInt => some false
    | .isBool => some false
    | .isList => some false
    | .isTuple => some true
    | .isStr => some false
    | .isDict => some false
    | _ => none)
  | .dct _ _ _ => (match b with
    | .isInt => some false
    | .isBool => some false
    | .isList => some false
    | .isTuple => some false
    | .isStr => some false
    | .isDict => some true
    | _ => none)
  | _ => none
def isR (o : Option Bool) : Res PV := match o with
  | some k => .ok (.bl k)
  | none => .bad
def bi1 (b : Bi) (x : PV) : Res PV := match b with
  | .len => lenV x
  | .int => intV x
  | .list => listV x
  | .tuple => tupV x
  | .ftup => ftpV x
  | .dict => dctV x
  | .isInt => isR (isV .isInt x)
  | .isBool => isR (isV .isBool x)
  | .isList => isR (isV .isList x)
  | .isTuple => isR (isV .isTuple x)
  | .isDict => isR (isV .isDict x)
  | .isStr => isR (isV .isStr x)
  | .sum => sumV x
  | .all => allV x
  | .sorted => sortV x
  | .min => mnV x
  | .max => mxV x
  | .str => .bad
def bi2 (b : Bi) (x y : PV) : Res PV := match b with
  | .min => min2 x y
  | .max => max2 x y
  | _ => .bad
def big (i j : Int) : Int := if i < j then j else i
def max3 (x y z : PV) : Res PV := match x with
  | .int i => (match y with
    | .int j => (match z with
      | .int k => .ok (.int (big (big i j) k))
      | _ => .bad)
    | _ => .bad)
  | _ => .bad
def bi3 (b : Bi) (x y z : PV) : Res PV := match b with
  | .max => max3 x y z
  | _ => .bad
def biV (b : Bi) (vs : List PV) : Res PV := match vs with
  | [x] => bi1 b x
  | [x, y] => bi2 b x y
  | [x, y, z] => bi3 b x y z
  | _ => .bad
def rngI (lo hi : Int) : List PV := (List.range (hi - lo).toNat).map fun (k : Nat) => PV.int (lo + (k : Int))
def rngC (i c : Int) (n : Nat) : List PV := (List.range n).map fun (k : Nat) => PV.int (i + (k : Int) * c)
/-- a range with a step that is counted -/
def rgOk (i j c : Int) : Bool := decide (c ≠ 0 ∧ c.natAbs < 1073741824 ∧ Builtin.Range.small i j c = true ∧ Builtin.Range.rangeSize i j c = (((Builtin.Range.rangeSize i j c).toNat : Nat) : Int))
def smallI (i : Int) : Bool := decide (-(2 ^ 62) ≤ i ∧ i < 2 ^ 62)
def rngV (vs : List PV) : Res (List PV) := match vs with
  | [.int j] => if smallI j = true then .ok (rngI 0 j) else .bad
  | [.int i, .int j] => if (smallI i && smallI j) = true then .ok (rngI i j) else .bad
  | [.int i, .int j, .int c] => if rgOk i j c = true then .ok (rngC i c (Builtin.Range.rangeSize i j c).toNat) else .bad
  | _ => .bad
def itemsV : PV → Res (List PV)
  | .lst _ xs => .ok (frzs xs)
  | .tup xs => .ok (frzs xs)
  | .ftp xs => .ok (frzs xs)
  | _ => .bad
/-- a text's signs -/
def signs (z : Str) : List PV := z.cps.toList.map fun c => .str ⟨#[c]⟩
/-- what is walked: a text, too -/
def itemsX (x : PV) : Res (List PV) := match x with
  | .str z => .ok (signs z)
  | x => itemsV x
/-- a target: one name, or several for a tuple -/
def bindT (t : List Nat) (v : PV) (env : PEnv) : Res PEnv := match t with
  | [i] => .ok (env.set i (some v))
  | _ => match v with
    | .tup xs => if xs.length = t.length then .ok ((t.zip xs).foldl (fun e p => e.set p.1 (some p.2)) env) else .bad
    | .lst _ xs => if xs.length = t.length then .ok ((t.zip xs).foldl (fun e p => e.set p.1 (some p.2)) env) else .bad
    | _ => .bad
def wipeE (own : List Nat) (env : PEnv) : PEnv := own.foldl (fun e i => e.set i none) env
def getE (env : PEnv) (i : Nat) : Res PV := match env[i]? with
  | some (some v) => .ok (frz v)
  | _ => .bad
/-- not carried yet: an exception out of a comprehension -/
def noX {α : Type} : Res α → Res α
  | .ok a => .ok a
  | _ => .bad
/-- a comprehension's turns -/
def lcL (t : List Nat) (c : PEnv → Res Bool) (e : PEnv → Res PV) (env : PEnv) : List PV → List PV → Res (List PV)
  | [], acc => .ok acc
  | x :: xs, acc => (bindT t x env).bind fun env1 => (c env1).bind fun b => if b = true then (e env1).bind fun y => if acc.length < most then lcL t c e env xs (acc ++ [y]) else .bad else lcL t c e env xs acc

/-- a display's pairs: keys, things -/
def prsD : List PV → Option (List DKey × List PV)
  | [] => some ([], [])
  | k :: v :: r => (keyV k).bind fun j => (prsD r).map fun p => (j :: p.1, v :: p.2)
  | [_] => none
def dspV (vs : List PV) : Res PV := match prsD vs with
  | some p => if decide (p.1.Nodup ∧ p.1.length ≤ 15 ∧ p.1 ≠ []) = true then .ok (.dct true p.1 p.2) else .bad
  | none => .bad
/-- list(range(..)) -/
def lrgV (vs : List PV) : Res PV := match rngV vs with
  | .ok xs => if decide (xs.length ≤ most) = true then .ok (.lst true xs) else .bad
  | _ => .bad
/-- d.get(k, z) -/
def getV (x y z : PV) : Res PV := match x with
  | .dct _ ks xs => (match keyV y with
    | some j => if flat z = true then .ok (match dlook ks xs j with
      | some v => frz v
      | none => z) else .bad
    | none => .bad)
  | _ => .bad
def isDc : PV → Bool
  | .dct _ _ _ => true
  | _ => false
def bitV : PV → Res PV
  | .int i => .ok (.int ((Builtin.Int.intBits i : Nat) : Int))
  | _ => .bad
abbrev Cl := Nat → List PV → Res PV
mutual
def evE (cl : Cl) (env : PEnv) : Ex → Res PV
  | .var i => getE env i
  | .non => .ok .non
  | .bl b => .ok (.bl b)
  | .int i => .ok (.int i)
  | .str x => .ok (.str x)
  | .bin op a b => (evE cl env a).bind fun x => (evE cl env b).bind fun y => binop op (frz x) (frz y)
  | .neg a => (evE cl env a).bind fun x => match x with
    | .int i => .ok (.int (-i))
    | _ => .bad
  | .not a => (evE cl env a).bind fun x => (asB x).bind fun b => .ok (.bl (!b))
  | .and a b => (evE cl env a).bind fun x => (asB x).bind fun k => if k = true then evE cl env b else .ok (.bl false)
  | .or a b => (evE cl env a).bind fun x => (asB x).bind fun k => if k = true then .ok (.bl true) else evE cl env b
  | .cmp op a b => (evE cl env a).bind fun x => (evE cl env b).bind fun y => cmpop op (frz x) (frz y)
  | .chn op op' a b c => (evE cl env a).bind fun x => (evE cl env b).bind fun y => (cmpop op (frz x) (frz y)).bind fun z => (asB z).bind fun k => if k = true then (evE cl env c).bind fun u => cmpop op' (frz y) (frz u) else .ok (.bl false)
  | .tup es => (evEs cl env es).bind fun vs => .ok (.tup vs)
  | .lst es => (evEs cl env es).bind fun vs => .ok (.lst true vs)
  | .idx a i => (evE cl env a).bind fun x => (evE cl env i).bind fun y => idxop (frz x) (frz y)
  | .slc a lo hi => (evE cl env a).bind fun x => (evO cl env lo).bind fun l => (evO cl env hi).bind fun h => slcop (frz x) l h
  | .call f es => (evEs cl env es).bind fun vs => cl f (frzs vs)
  | .bi b es => (evEs cl env es).bind fun vs => biV b (frzs vs)
  | .con g => .ok g.pv
  | .dnew => .ok (.dct true [] [])
  | .meth m o es => (evE cl env o).bind fun x => if mthOk m (frz x) = true then (evEs cl env es).bind fun vs => mthV m (frz x) (frzs vs) else .bad
  | .sset e => (evE cl env e).bind fun x => ssetV (frz x)
  | .items e => (evE cl env e).bind fun x => itmV (frz x)
  | .dsp es => (evEs cl env es).bind fun vs => dspV vs
  | .lrg e => (evE cl env e).bind fun x => lrgV [frz x]
  | .get o k d => (evE cl env o).bind fun x => if isDc (frz x) = true then (evE cl env k).bind fun y => (evE cl env d).bind fun z => getV (frz x) (frz y) (frz z) else .bad
  | .bitl e => (evE cl env e).bind fun x => bitV (frz x)
  | .lc t own it c e => (evI cl env it).bind fun hx => (noX (lcL t (fun env => evC cl env c) (fun env => evE cl env e) (wipeE own env) hx.2 [])).bind fun ys => .ok (.lst true ys)
def evEs (cl : Cl) (env : PEnv) : Exs → Res (List PV)
  | .nil => .ok []
  | .cons e es => (evE cl env e).bind fun x => (evEs cl env es).bind fun xs => .ok (x :: xs)
def evO (cl : Cl) (env : PEnv) : Exo → Res (Option Int)
  | .none => .ok none
  | .some e => (evE cl env e).bind fun x => intO x
def evC (cl : Cl) (env : PEnv) : Exo → Res Bool
  | .none => .ok true
  | .some e => (evE cl env e).bind fun x => asB x
def evI (cl : Cl) (env : PEnv) : Iw → Res (PV × List PV)
  | .ex e => (evE cl env e).bind fun x => (itemsX (frz x)).bind fun xs => .ok (x, xs)
  | .rng es => (evEs cl env es).bind fun vs => (rngV (frzs vs)).bind fun xs => .ok (.non, xs)
  | .rev e => (evE cl env e).bind fun x => (itemsV (frz x)).bind fun xs => .ok (x, xs.reverse)
  | .revr es => (evEs cl env es).bind fun vs => (rngV (frzs vs)).bind fun xs => .ok (.non, xs.reverse)
  | .zip es => (evEs cl env es).bind fun vs => (zipV (frzs vs)).bind fun xs => .ok (.tup vs, xs)
end

/-! ### the names that an expression reads -/
mutual
def vE : Ex → List Nat
  | .var i => [i]
  | .bin _ a b => vE a ++ vE b
  | .neg a => vE a
  | .not a => vE a
  | .and a b => vE a ++ vE b
  | .or a b => vE a ++ vE b
  | .cmp _ a b => vE a ++ vE b
  | .chn _ _ a b c => vE a ++ (vE b ++ vE c)
  | .tup es => vEs es
  | .lst es => vEs es
  | .idx a i => vE a ++ vE i
  | .slc a lo hi => vE a ++ (vO lo ++ vO hi)
  | .call _ es => vEs es
  | .bi _ es => vEs es
  | .lc _ _ it c e => vI it ++ (vO c ++ vE e)
  | .non => []
  | .bl _ => []
  | .int _ => []
  | .str _ => []
  | .con _ => []
  | .dnew => []
  | .meth _ o es => vE o ++ vEs es
  | .sset e => vE e
  | .items e => vE e
  | .dsp es => vEs es
  | .lrg e => vE e
  | .get o k d => vE o ++ (vE k ++ vE d)
  | .bitl e => vE e
def vEs : Exs → List Nat
  | .nil => []
  | .cons e es => vE e ++ vEs es
def vO : Exo → List Nat
  | .none => []
  | .some e => vE e
def vI : Iw → List Nat
  | .ex e => vE e
  | .rng es => vEs es
  | .rev e => vE e
  | .revr es => vEs es
  | .zip es => vEs es
end
/-- some names' things are no longer one's own -/
def frzV (is : List Nat) (env : PEnv) : PEnv := is.foldl (fun e i => match e[i]? with
  | some (some v) => e.set i (some (frz v))
  | _ => e) env
def aft (v : PV) (is : List Nat) (env : PEnv) : PEnv := if cls v = true then env else frzV is env

/-! ### what is handed back, or handed on -/
/-- a place from the front, or from the end -/
def atJ (n : Nat) : PV → Option Nat
  | .int i => if decide (0 ≤ i ∧ i < (n : Int)) = true then some i.toNat else if decide (i < 0 ∧ 0 ≤ i + (n : Int)) = true then some (i + (n : Int)).toNat else none
  | _ => none
mutual
inductive Me where
  | mv (i : Nat)
  | tup (es : Mes)
  | ex (e : Ex)
  | call (f : Nat) (es : Mes)
  | idx (m : Me) (i : Nat)
  | pop (x : Nat) (e : Ex)
  | cmp (op : Cop) (a b : Me)
  | not (a : Me)
  | and (a b : Me)
inductive Mes where
  | nil
  | cons (e : Me) (es : Mes)
end
mutual
/-- it leaves what there was as it was -/
def purM : Me → Bool
  | .mv _ => true
  | .tup es => purMs es
  | .ex _ => true
  | .call _ _ => false
  | .idx _ _ => false
  | .pop _ _ => false
  | .cmp _ _ _ => false
  | .not _ => false
  | .and _ _ => false
def purMs : Mes → Bool
  | .nil => true
  | .cons e es => purM e && purMs es
end
/-- a part of a tuple that goes -/
def mvI (i : Nat) : PV → Res PV
  | .tup xs => (match xs[i]? with
    | some v => .ok v
    | none => .bad)
  | _ => .bad
/-- x.pop(k) -/
def popV (x : Nat) (k : PV) (env : PEnv) : Option (Option PV) → Res (PV × PEnv)
  | some (some (.lst true xs)) => (match atJ xs.length k with
    | some j => (match xs[j]? with
      | some v => if (flat v && decide (xs.length ≤ most)) = true then .ok (v, env.set x (some (.lst true (xs.eraseIdx j)))) else .bad
      | none => .bad)
    | none => .bad)
  | _ => .bad
def noXif {α : Type} (b : Bool) (r : Res α) : Res α := if b = true then r else noX r
mutual
def evM (cl : Cl) (env : PEnv) : Me → Res (PV × PEnv)
  | .mv i => match env[i]? with
    | some (some v) => .ok (v, env.set i none)
    | _ => .bad
  | .tup es => (evMs cl env es).bind fun p => .ok (.tup p.1, p.2)
  | .ex e => (evE cl env e).bind fun v => .ok (v, aft v (vE e) env)
  | .call f es => (noX (evMs cl env es)).bind fun p => (noX (cl f p.1)).bind fun v => .ok (v, p.2)
  | .idx m i => (noX (evM cl env m)).bind fun p => (mvI i p.1).bind fun v => .ok (v, p.2)
  | .pop x e => (noX (evE cl env e)).bind fun k => popV x (frz k) env env[x]?
  | .cmp op a b => (noX (evM cl env a)).bind fun p => (noX (evM cl p.2 b)).bind fun q => (cmpop op (frz p.1) (frz q.1)).bind fun r => .ok (r, q.2)
  | .not a => (noX (evM cl env a)).bind fun p => (asB p.1).bind fun k => .ok (.bl (!k), p.2)
  | .and a b => (noX (evM cl env a)).bind fun p => (asB p.1).bind fun k => if k = true then noX (evM cl p.2 b) else .ok (.bl false, p.2)
def evMs (cl : Cl) (env : PEnv) : Mes → Res (List PV × PEnv)
  | .nil => .ok ([], env)
  | .cons e es => (evM cl env e).bind fun p => (noXif (purM e) (evMs cl p.2 es)).bind fun q => .ok (p.1 :: q.1, q.2)
end

/-! ### what an except clause tells -/
inductive Bx where
  | is (x : Nat)
  | isV
  | and (a b : Bx)
  | not (a : Bx)
inductive Kx where
  | b (b : Bx)
  | lst (bs : List Bx)
  | bl (b : Bool)
  | str (z : Str)
  | inc (i : Nat)
/-- class 0 takes all -/
def evB (c : Nat) : Bx → Bool
  | .is x => caught c x
  | .isV => true
  | .and a b => evB c a && evB c b
  | .not a => !evB c a
def evK (c : Nat) (env : PEnv) : Kx → Res PV
  | .b b => .ok (.bl (evB c b))
  | .lst bs => .ok (.lst true (bs.map fun b => .bl (evB c b)))
  | .bl b => .ok (.bl b)
  | .str z => .ok (.str z)
  | .inc i => (getE env i).bind fun x => match x with
    | .int j => .ok (.int (j + 1))
    | _ => .bad
/-- the exception's name is free -/
def nmFree (nm : Option Nat) (env : PEnv) : Bool := match nm with
  | none => true
  | some i => (match env[i]? with
    | some none => true
    | _ => false)

/-! ### statements -/
inductive Mu where
  | append | extend | pop | clear | reverse | remove
  deriving DecidableEq
/-- a place within what a name has -/
inductive Px where
  | var (x : Nat)
  | idx (p : Px) (e : Ex)
def Px.root : Px → Nat
  | .var x => x
  | .idx p _ => p.root
def Px.deep : Px → Bool
  | .var _ => false
  | .idx _ _ => true
mutual
inductive Sm where
  | asg (t : List Nat) (e : Ex)
  | mut (x : Nat) (m : Mu) (es : Exs)
  | ifs (c : Ex) (a b : Sms)
  | whl (c : Ex) (b : Sms)
  | for_ (t : List Nat) (it : Iw) (b : Sms)
  | ret (e : Me)
  | ex (e : Ex)
  | brk
  | cont
  | pass
  | raise (c : Nat)
  | put (x : Nat) (k v : Ex)
  | try_ (b : Sms) (n x : Nat) (nm : Option Nat) (t : Nat) (k : Kx)
  | pmut (p : Px) (m : Mu) (es : Exs)
  | pput (p : Px) (k v : Ex)
  | lput (p : Px) (k v : Ex)
  | upd (x : Nat) (e : Ex)
  | asgm (t : List Nat) (m : Me)
  | ifm (m : Me) (a b : Sms)
  | pclr (p : Px)
  | papp (x y : Nat) (e : Ex)
  | sdi (p : Px) (k : Ex) (v : Nat)
inductive Sms where
  | nil
  | cons (s : Sm) (ss : Sms)
end
inductive Fl where
  | next (env : PEnv)
  | brk (env : PEnv)
  | cont (env : PEnv)
  | ret (v : PV)
  deriving Inhabited
/-- what a statement ends in; an exception with what the names hold then -/
inductive RS where
  | fl (f : Fl)
  | exc (c : Nat) (env : PEnv)
  | bad
  deriving Inhabited
def RS.seq (x : RS) (f : PEnv → RS) : RS := match x with
  | .fl (.next env) => f env
  | .fl (.brk env) => .fl (.brk env)
  | .fl (.cont env) => .fl (.cont env)
  | .fl (.ret v) => .fl (.ret v)
  | .exc c env => .exc c env
  | .bad => .bad
def RS.of {α : Type} (x : Res α) (env : PEnv) (f : α → RS) : RS := match x with
  | .ok a => f a
  | .exc c => .exc c env
  | .bad => .bad
@[simp] theorem RS.of_ok {α : Type} (a : α) (env : PEnv) (f : α → RS) : RS.of (.ok a) env f = f a := nr rfl
@[simp] theorem RS.of_exc {α : Type} (c : Nat) (env : PEnv) (f : α → RS) : RS.of (.exc c) env f = .exc c env := nr rfl
@[simp] theorem RS.of_bad {α : Type} (env : PEnv) (f : α → RS) : RS.of .bad env f = .bad := nr rfl
@[simp] theorem RS.seq_next (env : PEnv) (f : PEnv → RS) : (RS.fl (.next env)).seq f = f env := nr rfl
@[simp] theorem RS.seq_brk (env : PEnv) (f : PEnv → RS) : (RS.fl (.brk env)).seq f = .fl (.brk env) := nr rfl
@[simp] theorem RS.seq_cont (env : PEnv) (f : PEnv → RS) : (RS.fl (.cont env)).seq f = .fl (.cont env) := nr rfl
@[simp] theorem RS.seq_ret (v : PV) (f : PEnv → RS) : (RS.fl (.ret v)).seq f = .fl (.ret v) := nr rfl
@[simp] theorem RS.seq_exc (c : Nat) (env : PEnv) (f : PEnv → RS) : (RS.exc c env).seq f = .exc c env := nr rfl
@[simp] theorem RS.seq_bad (f : PEnv → RS) : RS.bad.seq f = .bad := nr rfl
def isS : PV → Bool
  | .str _ => true
  | _ => false
def muV (m : Mu) (xs : List PV) (vs : List PV) : Option (List PV) := match m, vs with
  | .append, [v] => if xs.length < most then some (xs ++ [v]) else none
  | .extend, [.lst _ ys] => if xs.length + ys.length ≤ most then some (xs ++ frzs ys) else none
  | .pop, [] => if xs.length = 0 then none else some xs.dropLast
  | .clear, [] => some []
  | .reverse, [] => some xs.reverse
  | .remove, [.str z] => if xs.all isS = true then (xs.findIdx? fun y => feq y (.str z)).map fun j => xs.eraseIdx j else none
  | _, _ => none
/-- what stays of a method's arguments -/
def kept (m : Mu) (vs : List PV) : List PV := match m, vs with
  | .extend, [.lst _ ys] => frzs ys
  | .append, _ => vs
  | _, _ => []
def hasL (env : PEnv) (x : Nat) : Bool := match env[x]? with
  | some (some (.lst _ _)) => true
  | _ => false
def muS (x : Nat) (m : Mu) (vs : List PV) (env : PEnv) : RS := match env[x]? with
  | some (some (.lst true xs)) => (match muV m xs vs with
    | some ys => .fl (.next (env.set x (some (.lst true ys))))
    | none => .bad)
  | _ => .bad
def hasD (env : PEnv) (x : Nat) : Bool := match env[x]? with
  | some (some (.dct _ _ _)) => true
  | _ => false
def putS (x : Nat) (k v : PV) (env : PEnv) : RS := match env[x]? with
  | some (some (.dct true ks xs)) => (match keyV k with
    | some j => if ks.length < most then .fl (.next (env.set x (some (.dct true (putD ks xs j v).1 (putD ks xs j v).2)))) else .bad
    | none => .bad)
  | _ => .bad
def whlL (c : PEnv → Res Bool) (b : PEnv → RS) : Nat → PEnv → RS
  | 0, _ => .bad
  | n + 1, env => RS.of (c env) env fun k => if k = true then (match b env with
    | .fl (.next env1) => whlL c b n env1
    | .fl (.cont env1) => whlL c b n env1
    | .fl (.brk env1) => .fl (.next env1)
    | .fl (.ret v) => .fl (.ret v)
    | .exc e env1 => .exc e env1
    | .bad => .bad) else .fl (.next env)
def forL (t : List Nat) (b : PEnv → RS) : List PV → PEnv → RS
  | [], env => .fl (.next env)
  | x :: xs, env => RS.of (bindT t x env) env fun env1 => match b env1 with
    | .fl (.next env2) => forL t b xs env2
    | .fl (.cont env2) => forL t b xs env2
    | .fl (.brk env2) => .fl (.next env2)
    | .fl (.ret v) => .fl (.ret v)
    | .exc e env2 => .exc e env2
    | .bad => .bad
/-- a dict with a name is walked: its name, its keys -/
def dkV (i : Nat) : Option (Option PV) → Option (Nat × List PV)
  | some (some (.dct _ ks _)) => some (i, ks.map keyP)
  | _ => none
def dkeys (env : PEnv) : Iw → Option (Nat × List PV)
  | .ex (.var i) => dkV i env[i]?
  | _ => none
/-- not carried yet: an exception out of a loop over a dict -/
def noXS : RS → RS
  | .exc _ _ => .bad
  | r => r
def forD (d : Option (Nat × List PV)) (old : RS) (new : Nat → List PV → RS) : RS := match d with
  | some p => noXS (new p.1 p.2)
  | none => old
/-- behind a body that may raise -/
def tryS (n x : Nat) (nm : Option Nat) (t : Nat) (k : Kx) (r : RS) : RS := match r with
  | .exc c env => if c < n then (if caught c x = true then (if nmFree nm env = true then RS.of (evK c env k) env fun v => .fl (.next (env.set t (some v))) else .bad) else .exc c env) else .bad
  | r => r
/-! ### changes at a place -/
def setI (xs : List PV) (i : Int) (y : PV) : List PV := match L2.ixN xs.length i with
  | some n => xs.set n y
  | none => xs
/-- what stands at a key, as it is -/
def getK (v k : PV) : Option PV := match v with
  | .lst true xs => (match k with | .int i => L2.atI xs i | _ => none)
  | .tup xs => (match k with | .int i => L2.atI xs i | _ => none)
  | .dct true ks xs => (match keyV k with | some j => dlook ks xs j | none => none)
  | _ => none
def setK (v k y : PV) : PV := match v with
  | .lst o xs => (match k with | .int i => .lst o (setI xs i y) | _ => .lst o xs)
  | .tup xs => (match k with | .int i => .tup (setI xs i y) | _ => .tup xs)
  | .dct o ks xs => (match keyV k with | some j => .dct o ks (dset ks xs j y) | none => .dct o ks xs)
  | v => v
def getPv : PV → List PV → Option PV
  | v, [] => some v
  | v, k :: ks => (getK v k).bind fun u => getPv u ks
def setPv : PV → List PV → PV → PV
  | _, [], y => y
  | v, k :: ks, y => setK v k (setPv ((getK v k).getD .non) ks y)
def rootV : Option (Option PV) → Res (List PV × PV)
  | some (some v) => .ok ([], v)
  | _ => .bad
def stepV (k : PV) (q : List PV × PV) : Option PV → Res (List PV × PV)
  | some y => .ok (q.1 ++ [k], y)
  | none => .bad
def evP (cl : Cl) (env : PEnv) : Px → Res (List PV × PV)
  | .var x => rootV env[x]?
  | .idx p e => (evP cl env p).bind fun q => (evE cl env e).bind fun k => stepV (frz k) q (getK q.2 (frz k))
def isLO : PV → Bool
  | .lst true _ => true
  | _ => false
def isDO : PV → Bool
  | .dct true _ _ => true
  | _ => false
/-- the name's value, changed -/
def chS (x : Nat) (ks : List PV) (y : PV) (env : PEnv) : Option (Option PV) → RS
  | some (some v) => .fl (.next (env.set x (some (setPv v ks y))))
  | _ => .bad
def pmuS (x : Nat) (q : List PV × PV) (m : Mu) (vs : List PV) (is : List Nat) (env : PEnv) : RS := match q.2 with
  | .lst true xs => if (cls (.tup (kept m vs)) || !decide (x ∈ is)) = true then (match muV m xs vs with
    | some ys => chS x q.1 (.lst true ys) (aft (.tup (kept m vs)) is env) env[x]?
    | none => .bad) else .bad
  | _ => .bad
def pputS (x : Nat) (q : List PV × PV) (k v : PV) (is : List Nat) (env : PEnv) : RS := match q.2 with
  | .dct true ks xs => if (cls v || !decide (x ∈ is)) = true then (match keyV k with
    | some j => if ks.length < most then chS x q.1 (.dct true (putD ks xs j v).1 (putD ks xs j v).2) (aft v is env) env[x]? else .bad
    | none => .bad) else .bad
  | _ => .bad
def lputS (x : Nat) (q : List PV × PV) (k v : PV) (is : List Nat) (env : PEnv) : RS := match q.2 with
  | .lst true xs => if (cls v || !decide (x ∈ is)) = true then (match atJ xs.length k with
    | some j => chS x q.1 (.lst true (xs.set j v)) (aft v is env) env[x]?
    | none => .bad) else .bad
  | _ => .bad
def pclrS (x : Nat) (q : List PV × PV) (env : PEnv) : RS := match q.2 with
  | .lst true _ => chS x q.1 (.lst true []) env env[x]?
  | .dct true _ _ => chS x q.1 (.dct true [] []) env env[x]?
  | _ => .bad
/-- x.append(y.pop(i)) -/
def pappS (x y : Nat) (k : PV) (env : PEnv) (ox oy : Option (Option PV)) : RS := match ox with
  | some (some (.lst true xs)) => (match oy with
    | some (some (.lst true ys)) => (match atJ ys.length k with
      | some j => (match ys[j]? with
        | some v => if (flat v && (decide (x ≠ y) && (decide (xs.length < most) && decide (ys.length ≤ most)))) = true then .fl (.next ((env.set y (some (.lst true (ys.eraseIdx j)))).set x (some (.lst true (xs ++ [v]))))) else .bad
        | none => .bad)
      | none => .bad)
    | _ => .bad)
  | _ => .bad
/-- d.setdefault(k, []).insert(0, v) -/
def sdiS (x : Nat) (q : List PV × PV) (k v : PV) (env : PEnv) : RS := match q.2 with
  | .dct true ks xs => if (isS k && (flat v && decide (ks.length < most))) = true then (match keyV k with
    | some j => (match dlook ks xs j with
      | some z => (match z with
        | .lst true zs => if zs.length < most then chS x (q.1 ++ [k]) (.lst true (v :: zs)) env env[x]? else .bad
        | _ => .bad)
      | none => chS x q.1 (.dct true (ks ++ [j]) (xs ++ [.lst true [v]])) env env[x]?)
    | none => .bad) else .bad
  | _ => .bad
def updS (x : Nat) (v : PV) (is : List Nat) (env : PEnv) : Option (Option PV) → RS
  | some (some (.dct true ks xs)) => (match v with
    | .dct _ ls ys => if (ys.all flat && (!decide (x ∈ is) && decide (ks.length + ls.length ≤ most))) = true then .fl (.next (env.set x (some (.dct true (mrg ks xs ls ys).1 (mrg ks xs ls ys).2)))) else .bad
    | _ => .bad)
  | _ => .bad
def isDv0 : Option (Option PV) → Bool
  | some (some (.dct true _ _)) => true
  | _ => false
mutual
def evS (cl : Cl) (w : Nat) (env : PEnv) : Sm → RS
  | .asg t e => RS.of (evE cl env e) env fun v => RS.of (bindT t v (aft v (vE e) env)) env fun env1 => .fl (.next env1)
  | .mut x m es => if hasL env x = true then RS.of (evEs cl env es) env fun vs => muS x m vs (aft (.tup (kept m vs)) (vEs es) env) else .bad
  | .ifs c a b => RS.of ((evE cl env c).bind asB) env fun k => if k = true then evSs cl w env a else evSs cl w env b
  | .whl c b => whlL (fun env => (evE cl env c).bind asB) (fun env => evSs cl w env b) w env
  | .for_ t it b => forD (dkeys env it) (RS.of (evI cl env it) env fun hx => forL t (fun env => evSs cl w env b) hx.2 (aft hx.1 (vI it) env)) fun i ks => forL t (fun env => evSs cl w env b) ks (frzV [i] env)
  | .ret e => RS.of (evM cl env e) env fun v => .fl (.ret v.1)
  | .ex e => RS.of (evE cl env e) env fun _ => .fl (.next env)
  | .brk => .fl (.brk env)
  | .cont => .fl (.cont env)
  | .pass => .fl (.next env)
  | .raise c => .exc c env
  | .put x k e => if hasD env x = true then RS.of (evE cl env e) env fun v => RS.of (evE cl env k) env fun j => putS x (frz j) v (aft v (vE e) env) else .bad
  | .try_ b n x nm t k => tryS n x nm t k (evSs cl w env b)
  | .pmut p m es => RS.of (evP cl env p) env fun q => if isLO q.2 = true then RS.of (evEs cl env es) env fun vs => pmuS p.root q m vs (vEs es) env else .bad
  | .pput p k e => RS.of (evE cl env e) env fun v => RS.of (evP cl env p) env fun q => if isDO q.2 = true then RS.of (evE cl env k) env fun j => pputS p.root q (frz j) v (vE e) env else .bad
  | .lput p k e => RS.of (evE cl env e) env fun v => RS.of (evP cl env p) env fun q => if isLO q.2 = true then RS.of (evE cl env k) env fun j => lputS p.root q (frz j) v (vE e) env else .bad
  | .pclr p => RS.of (evP cl env p) env fun q => pclrS p.root q env
  | .papp x y e => if (hasL env x && hasL env y) = true then RS.of (evE cl env e) env fun k => pappS x y (frz k) env env[x]? env[y]? else .bad
  | .sdi p k v => RS.of (evP cl env p) env fun q => if isDO q.2 = true then RS.of (evE cl env k) env fun j => RS.of (getE env v) env fun y => sdiS p.root q (frz j) y env else .bad
  | .asgm t m => RS.of (evM cl env m) env fun p => RS.of (bindT t p.1 p.2) p.2 fun env1 => .fl (.next env1)
  | .ifm m a b => RS.of (evM cl env m) env fun p => RS.of (asB p.1) p.2 fun k => if k = true then evSs cl w p.2 a else evSs cl w p.2 b
  | .upd x e => if isDv0 env[x]? = true then RS.of (evE cl env e) env fun v => updS x (frz v) (vE e) env env[x]? else .bad
def evSs (cl : Cl) (w : Nat) (env : PEnv) : Sms → RS
  | .nil => .fl (.next env)
  | .cons s ss => (evS cl w env s).seq fun env1 => evSs cl w env1 ss
end
structure Fd where
  np : Nat
  ns : Nat
  body : Sms
def outR : RS → Res PV
  | .fl (.next _) => .ok .non
  | .fl (.ret v) => .ok v
  | .exc c _ => .exc c
  | _ => .bad
@[simp] theorem outR_next (env : PEnv) : outR (.fl (.next env)) = .ok .non := nr rfl
@[simp] theorem outR_ret (v : PV) : outR (.fl (.ret v)) = .ok v := nr rfl
@[simp] theorem outR_exc (c : Nat) (env : PEnv) : outR (.exc c env) = .exc c := nr rfl
def runB (cl : Cl) (w : Nat) (d : Fd) (vs : List PV) : Res PV := if vs.length = d.np then outR (evSs cl w (vs.map some ++ List.replicate (d.ns - d.np) none) d.body) else .bad
def callF (T : Nat → Option Fd) (w : Nat) : Nat → Cl
  | 0 => fun _ _ => .bad
  | n + 1 => fun f vs => match T f with
    | some d => runB (callF T w n) w d vs
    | none => .bad
end BW

/-! How values stand in the abstract heap. -/
namespace BW
open PySem PySem.Spec L2

/-- what can change -/
def isMu : HO → Bool
  | .lst _ => true
  | .dK _ => true
  | .dT _ => true
  | .ins _ _ _ => true
  | _ => false

/-- a list that no one changes -/
def SqS (K : PySem.W.Frag) (H : Hp) (a : Addr) (xs : List V) : Prop :=
  (∃ o, H a = some (.frz o (.lst xs))) ∨
    ∃ (o : Obj) (its : Array Value) (n : Nat), K.lookup a = some o ∧ o.cls = .type "list" ∧ o.dict = none ∧ o.data = .seq its n ∧ its.size ≤ sizeLine ∧ Vals xs its.toList
/-- a made tuple whose object is known: no dict of its own -/
def Fz (H : Hp) (a : Addr) (xs : List V) : Prop := ∃ o : Obj, H a = some (.frz o (.tup xs)) ∧ o.dict = none
theorem Fz.sq {K : PySem.W.Frag} {H : Hp} {a : Addr} {xs : List V} (h : Fz H a xs) : SqT K H a xs := h.elim fun o h => .inl (.inr ⟨o, h.1⟩)
theorem SqS.seq {K : PySem.W.Frag} {H : Hp} {a : Addr} {xs : List V} (h : SqS K H a xs) : SqL K H a xs := h.elim (fun h => .inl (.inr h)) .inr
mutual
inductive Rp (K : PySem.W.Frag) (H : Hp) (ok : Addr → Prop) : PV → V → List Addr → Prop where
  | non : Rp K H ok .non .non []
  | bl (b : Bool) : Rp K H ok (.bl b) (.bl b) []
  | int (i : Int) : Rp K H ok (.int i) (.int i) []
  | str (x : Str) : PyData.strOk x = true → Rp K H ok (.str x) (.str x) []
  | tup {a : Addr} {xs : List PV} {vs : List V} {fp : List Addr} : SqT K H a vs → Rps K H ok xs vs fp → Rp K H ok (.tup xs) (.ref a) fp
  | lstF {a : Addr} {xs : List PV} {vs : List V} : Rd H a (.lst vs) → ok a → Rps K H ok xs vs [] → Rp K H ok (.lst false xs) (.ref a) []
  | lstO {a : Addr} {xs : List PV} {vs : List V} {fp : List Addr} : H a = some (.lst vs) → Rps K H ok xs vs fp → Rp K H ok (.lst true xs) (.ref a) (a :: fp)
  | dctF {a : Addr} {ks : List DKey} {xs : List PV} {vs : List V} : Rd H a (.dK (ks.zip vs)) → ks.length = vs.length ∧ ksB ks = true → ok a → Rps K H ok xs vs [] → Rp K H ok (.dct false ks xs) (.ref a) []
  | dctO {a : Addr} {ks : List DKey} {xs : List PV} {vs : List V} {fp : List Addr} : H a = some (.dK (ks.zip vs)) → ks.length = vs.length ∧ ksB ks = true → Rps K H ok xs vs fp → Rp K H ok (.dct true ks xs) (.ref a) (a :: fp)
  | scr {a : Addr} {is : List Int} : SqS K H a (is.map V.int) → Rp K H ok (.scr (is.map PV.int)) (.ref a) []
  | ftp {a : Addr} {xs : List PV} {vs : List V} {fp : List Addr} : Fz H a vs → Rps K H ok xs vs fp → Rp K H ok (.ftp xs) (.ref a) fp
inductive Rps (K : PySem.W.Frag) (H : Hp) (ok : Addr → Prop) : List PV → List V → List Addr → Prop where
  | nil : Rps K H ok [] [] []
  | cons {x : PV} {v : V} {f : List Addr} {xs : List PV} {vs : List V} {fs : List Addr} : Rp K H ok x v f → Rps K H ok xs vs fs → Rps K H ok (x :: xs) (v :: vs) (f ++ fs)
end

section
variable {K : PySem.W.Frag} {H H' : Hp} {ok ok' : Addr → Prop}
theorem Rps.len {xs : List PV} {vs : List V} {fs : List Addr} (h : Rps K H ok xs vs fs) : xs.length = vs.length := by
  induction xs generalizing vs fs with
  | nil => cases h; rfl
  | cons x xs ih =>
    cases h with
    | cons _ r => simp [ih r]
mutual
theorem Rp.frz : ∀ {x : PV} {v : V} {fp : List Addr}, Rp K H ok x v fp → (∀ a, ok a → ok' a) → (∀ a ∈ fp, ok' a) → Rp K H ok' (BW.frz x) v []
  | .non, _, _, h, _, _ => by cases h; exact .non
  | .bl b, _, _, h, _, _ => by cases h; exact .bl b
  | .int i, _, _, h, _, _ => by cases h; exact .int i
  | .str x, _, _, h, _, _ => by
    cases h with
    | str _ z => exact .str x z
  | .tup xs, _, _, h, k, g => by
    cases h with
    | tup hs r => exact .tup hs (Rps.frz r k g)
  | .lst false xs, _, _, h, k, g => by
    cases h with
    | lstF hs o r => exact .lstF hs (k _ o) (Rps.frz r k (fun _ z => nomatch z))
  | .lst true xs, _, _, h, k, g => by
    cases h with
    | lstO hs r => exact .lstF (.inl hs) (g _ List.mem_cons_self) (Rps.frz r k fun a z => g a (List.mem_cons_of_mem _ z))
  | .dct false ks xs, _, _, h, k, g => by
    cases h with
    | dctF hs hz o r => exact .dctF hs hz (k _ o) (Rps.frz r k (fun _ z => nomatch z))
  | .dct true ks xs, _, _, h, k, g => by
    cases h with
    | dctO hs hz r => exact .dctF (.inl hs) hz (g _ List.mem_cons_self) (Rps.frz r k fun a z => g a (List.mem_cons_of_mem _ z))
  | .exn _, _, _, h, _, _ => by cases h
  | .scr xs, _, _, h, k, g => by
    cases h with
    | scr hs => exact .scr hs
  | .ftp xs, _, _, h, k, g => by
    cases h with
    | ftp hs r => exact .ftp hs (Rps.frz r k g)
theorem Rps.frz : ∀ {xs : List PV} {vs : List V} {fp : List Addr}, Rps K H ok xs vs fp → (∀ a, ok a → ok' a) → (∀ a ∈ fp, ok' a) → Rps K H ok' (frzs xs) vs []
  | [], _, _, h, _, _ => by cases h; exact .nil
  | x :: xs, _, _, h, k, g => by
    cases h with
    | cons r rs => exact .cons (f := []) (fs := []) (Rp.frz r k fun a z => g a (List.mem_append_left _ z)) (Rps.frz rs k fun a z => g a (List.mem_append_right _ z))
end
/-- what an object is known by, where it does not change -/
theorem sqT_keep {M : Addr → Prop} {a : Addr} {vs : List V} (k : ∀ a o, H a = some o → ¬ M a → H' a = some o) (m : ∀ a, M a → ∃ u, H a = some u ∧ isMu u = true) (h : SqT K H a vs) : SqT K H' a vs := by
  have nm : ∀ u, H a = some u → isMu u = false → ¬ M a := fun u e i z => by
    obtain ⟨u', e', i'⟩ := m a z
    rw [e] at e'; cases e'; rw [i] at i'; cases i'
  rcases h with (h | ⟨o, h⟩) | h
  · exact .inl (.inl (k _ _ h (nm _ h rfl)))
  · exact .inl (.inr ⟨o, k _ _ h (nm _ h rfl)⟩)
  · exact .inr h
theorem fz_keep {M : Addr → Prop} {a : Addr} {vs : List V} (k : ∀ a o, H a = some o → ¬ M a → H' a = some o) (m : ∀ a, M a → ∃ u, H a = some u ∧ isMu u = true) (h : Fz H a vs) : Fz H' a vs := by
  obtain ⟨o, h, hd⟩ := h
  refine ⟨o, k _ _ h fun z => ?_, hd⟩
  obtain ⟨u', e', i'⟩ := m a z
  rw [h] at e'; cases e'; cases i'
theorem sqS_keep {M : Addr → Prop} {a : Addr} {vs : List V} (k : ∀ a o, H a = some o → ¬ M a → H' a = some o) (m : ∀ a, M a → ∃ u, H a = some u ∧ isMu u = true) (h : SqS K H a vs) : SqS K H' a vs := by
  rcases h with ⟨o, h⟩ | h
  · refine .inl ⟨o, k _ _ h fun z => ?_⟩
    obtain ⟨u', e', i'⟩ := m a z
    rw [h] at e'; cases e'; cases i'
  · exact .inr h
theorem dk_inj {a : Addr} {x y : List (DKey × V)} (h : Rd H a (.dK x)) (k : Rd H a (.dK y)) : x = y := by
  rcases h with h | ⟨o, h⟩ <;> rcases k with k | ⟨o', k⟩ <;> rw [h] at k <;> cases k <;> rfl
theorem rd_keep {M : Addr → Prop} {a : Addr} {u : HO} (k : ∀ a o, H a = some o → ¬ M a → H' a = some o) (n : ¬ M a) (h : Rd H a u) : Rd H' a u := by
  rcases h with h | ⟨o, h⟩
  · exact .inl (k _ _ h n)
  · exact .inr ⟨o, k _ _ h n⟩
mutual
/-- what is at M may change -/
theorem Rp.keep {M : Addr → Prop} (k : ∀ a o, H a = some o → ¬ M a → H' a = some o) (m : ∀ a, M a → ∃ u, H a = some u ∧ isMu u = true) :
    ∀ {x : PV} {v : V} {fp : List Addr}, Rp K H ok x v fp → (∀ a, ok a → ok' a) → (∀ a, ok a → ¬ M a) → (∀ a ∈ fp, ¬ M a) → Rp K H' ok' x v fp
  | .non, _, _, h, _, _, _ => by cases h; exact .non
  | .bl b, _, _, h, _, _, _ => by cases h; exact .bl b
  | .int i, _, _, h, _, _, _ => by cases h; exact .int i
  | .str x, _, _, h, _, _, _ => by
    cases h with
    | str _ z => exact .str x z
  | .tup xs, _, _, h, o, n, g => by
    cases h with
    | tup hs r => exact .tup (sqT_keep k m hs) (Rps.keep k m r o n g)
  | .lst false xs, _, _, h, o, n, g => by
    cases h with
    | lstF hs ho r => exact .lstF (rd_keep k (n _ ho) hs) (o _ ho) (Rps.keep k m r o n (fun _ z => nomatch z))
  | .lst true xs, _, _, h, o, n, g => by
    cases h with
    | lstO hs r => exact .lstO (k _ _ hs (g _ List.mem_cons_self)) (Rps.keep k m r o n fun a z => g a (List.mem_cons_of_mem _ z))
  | .dct false ks xs, _, _, h, o, n, g => by
    cases h with
    | dctF hs hz ho r => exact .dctF (rd_keep k (n _ ho) hs) hz (o _ ho) (Rps.keep k m r o n (fun _ z => nomatch z))
  | .dct true ks xs, _, _, h, o, n, g => by
    cases h with
    | dctO hs hz r => exact .dctO (k _ _ hs (g _ List.mem_cons_self)) hz (Rps.keep k m r o n fun a z => g a (List.mem_cons_of_mem _ z))
  | .exn _, _, _, h, _, _, _ => by cases h
  | .scr xs, _, _, h, o, n, g => by
    cases h with
    | scr hs => exact .scr (sqS_keep k m hs)
  | .ftp xs, _, _, h, o, n, g => by
    cases h with
    | ftp hs r => exact .ftp (fz_keep k m hs) (Rps.keep k m r o n g)
theorem Rps.keep {M : Addr → Prop} (k : ∀ a o, H a = some o → ¬ M a → H' a = some o) (m : ∀ a, M a → ∃ u, H a = some u ∧ isMu u = true) :
    ∀ {xs : List PV} {vs : List V} {fp : List Addr}, Rps K H ok xs vs fp → (∀ a, ok a → ok' a) → (∀ a, ok a → ¬ M a) → (∀ a ∈ fp, ¬ M a) → Rps K H' ok' xs vs fp
  | [], _, _, h, _, _, _ => by cases h; exact .nil
  | x :: xs, _, _, h, o, n, g => by
    cases h with
    | cons r rs => exact .cons (Rp.keep k m r o n fun a z => g a (List.mem_append_left _ z)) (Rps.keep k m rs o n fun a z => g a (List.mem_append_right _ z))
end
/-- a dict is locked, or let go again -/
theorem sqT_lk {d a : Addr} {kvs : List (DKey × V)} {vs : List V} (k : ∀ a, a ≠ d → H' a = H a) (r : Rd H d (.dK kvs)) (h : SqT K H a vs) : SqT K H' a vs := by
  have ne : ∀ u, H a = some u → (u ≠ .dK kvs ∧ ∀ o, u ≠ .frz o (.dK kvs)) → a ≠ d := fun u e n z => by
    rw [z] at e
    rcases r with r | ⟨o, r⟩ <;> rw [r] at e <;> cases e
    · exact n.1 rfl
    · exact n.2 o rfl
  rcases h with (h | ⟨o, h⟩) | h
  · exact .inl (.inl ((k a (ne _ h ⟨(fun z => nomatch z), fun _ z => nomatch z⟩)).trans h))
  · exact .inl (.inr ⟨o, (k a (ne _ h ⟨(fun z => nomatch z), fun _ z => nomatch z⟩)).trans h⟩)
  · exact .inr h
theorem fz_lk {d a : Addr} {kvs : List (DKey × V)} {vs : List V} (k : ∀ a, a ≠ d → H' a = H a) (r : Rd H d (.dK kvs)) (h : Fz H a vs) : Fz H' a vs := by
  obtain ⟨o, h, hd⟩ := h
  refine ⟨o, (k a fun z => ?_).trans h, hd⟩
  rw [z] at h
  rcases r with r | ⟨o', r⟩ <;> rw [r] at h <;> cases h
theorem sqS_lk {d a : Addr} {kvs : List (DKey × V)} {vs : List V} (k : ∀ a, a ≠ d → H' a = H a) (r : Rd H d (.dK kvs)) (h : SqS K H a vs) : SqS K H' a vs := by
  rcases h with ⟨o, h⟩ | h
  · refine .inl ⟨o, (k a fun z => ?_).trans h⟩
    rw [z] at h
    rcases r with r | ⟨o', r⟩ <;> rw [r] at h <;> cases h
  · exact .inr h
mutual
theorem Rp.lk {d : Addr} {kvs : List (DKey × V)} (k : ∀ a, a ≠ d → H' a = H a) (m : Rd H d (.dK kvs)) (m' : Rd H' d (.dK kvs)) :
    ∀ {x : PV} {v : V} {fp : List Addr}, Rp K H ok x v fp → d ∉ fp → Rp K H' ok x v fp
  | .non, _, _, h, _ => by cases h; exact .non
  | .bl b, _, _, h, _ => by cases h; exact .bl b
  | .int i, _, _, h, _ => by cases h; exact .int i
  | .str x, _, _, h, _ => by
    cases h with
    | str _ z => exact .str x z
  | .tup xs, _, _, h, g => by
    cases h with
    | tup hs r => exact .tup (sqT_lk k m hs) (Rps.lk k m m' r g)
  | .lst false xs, _, _, h, g => by
    cases h with
    | @lstF a xs vs hs ho r =>
      have ne : a ≠ d := fun z => by
        rw [z] at hs
        rcases m with m | ⟨o, m⟩ <;> rcases hs with hs | ⟨o', hs⟩ <;> rw [m] at hs <;> cases hs
      refine .lstF ?_ ho (Rps.lk k m m' r (fun z => nomatch z))
      rcases hs with h | ⟨o, h⟩
      · exact .inl ((k a ne).trans h)
      · exact .inr ⟨o, (k a ne).trans h⟩
  | .lst true xs, _, _, h, g => by
    cases h with
    | lstO hs r => exact .lstO ((k _ fun z => g (by rw [z]; exact List.mem_cons_self)).trans hs) (Rps.lk k m m' r fun z => g (List.mem_cons_of_mem _ z))
  | .dct false ks xs, _, _, h, g => by
    cases h with
    | @dctF a ks xs vs hs hz ho r =>
      refine .dctF ?_ hz ho (Rps.lk k m m' r (fun z => nomatch z))
      by_cases e : a = d
      · subst e
        rw [dk_inj hs m]
        exact m'
      · rcases hs with h | ⟨o, h⟩
        · exact .inl ((k a e).trans h)
        · exact .inr ⟨o, (k a e).trans h⟩
  | .dct true ks xs, _, _, h, g => by
    cases h with
    | dctO hs hz r => exact .dctO ((k _ fun z => g (by rw [z]; exact List.mem_cons_self)).trans hs) hz (Rps.lk k m m' r fun z => g (List.mem_cons_of_mem _ z))
  | .exn _, _, _, h, _ => by cases h
  | .scr xs, _, _, h, _ => by
    cases h with
    | scr hs => exact .scr (sqS_lk k m hs)
  | .ftp xs, _, _, h, g => by
    cases h with
    | ftp hs r => exact .ftp (fz_lk k m hs) (Rps.lk k m m' r g)
theorem Rps.lk {d : Addr} {kvs : List (DKey × V)} (k : ∀ a, a ≠ d → H' a = H a) (m : Rd H d (.dK kvs)) (m' : Rd H' d (.dK kvs)) :
    ∀ {xs : List PV} {vs : List V} {fp : List Addr}, Rps K H ok xs vs fp → d ∉ fp → Rps K H' ok xs vs fp
  | [], _, _, h, _ => by cases h; exact .nil
  | x :: xs, _, _, h, g => by
    cases h with
    | cons r rs => exact .cons (Rp.lk k m m' r fun z => g (List.mem_append_left _ z)) (Rps.lk k m m' rs fun z => g (List.mem_append_right _ z))
end
theorem Rp.same {x : PV} {v : V} {fp : List Addr} (s : Same H H') (h : Rp K H ok x v fp) : Rp K H' ok x v fp :=
  h.keep (M := fun _ => False) (fun a o e _ => s a o e) (fun _ z => z.elim) (fun _ z => z) (fun _ _ z => z) (fun _ _ z => z)
theorem Rps.same {x : List PV} {v : List V} {fp : List Addr} (s : Same H H') (h : Rps K H ok x v fp) : Rps K H' ok x v fp :=
  h.keep (M := fun _ => False) (fun a o e _ => s a o e) (fun _ z => z.elim) (fun _ z => z) (fun _ _ z => z) (fun _ _ z => z)
theorem Rp.imp {x : PV} {v : V} {fp : List Addr} (s : ∀ a, ok a → ok' a) (h : Rp K H ok x v fp) : Rp K H ok' x v fp :=
  h.keep (M := fun _ => False) (fun a o e _ => e) (fun _ z => z.elim) s (fun _ _ z => z) (fun _ _ z => z)
theorem Rps.imp {x : List PV} {v : List V} {fp : List Addr} (s : ∀ a, ok a → ok' a) (h : Rps K H ok x v fp) : Rps K H ok' x v fp :=
  h.keep (M := fun _ => False) (fun a o e _ => e) (fun _ z => z.elim) s (fun _ _ z => z) (fun _ _ z => z)
mutual
/-- nothing in it may be someone else's: the condition is of no account -/
theorem Rp.free : ∀ {x : PV} {v : V} {fp : List Addr}, Rp K H ok x v fp → cls x = true → Rp K H ok' x v fp
  | .non, _, _, h, _ => by cases h; exact .non
  | .bl b, _, _, h, _ => by cases h; exact .bl b
  | .int i, _, _, h, _ => by cases h; exact .int i
  | .str x, _, _, h, _ => by
    cases h with
    | str _ z => exact .str x z
  | .tup xs, _, _, h, c => by
    cases h with
    | tup hs r => exact .tup hs (Rps.free r c)
  | .lst false xs, _, _, h, c => by
    have c' : (false && clss xs) = true := c
    cases c'
  | .lst true xs, _, _, h, c => by
    have c' : (true && clss xs) = true := c
    cases h with
    | lstO hs r => exact .lstO hs (Rps.free r c')
  | .dct false ks xs, _, _, h, c => by
    have c' : (false && clss xs) = true := c
    cases c'
  | .dct true ks xs, _, _, h, c => by
    have c' : (true && clss xs) = true := c
    cases h with
    | dctO hs hz r => exact .dctO hs hz (Rps.free r c')
  | .exn _, _, _, h, _ => by cases h
  | .scr xs, _, _, h, c => by
    cases h with
    | scr hs => exact .scr hs
  | .ftp xs, _, _, h, c => by
    cases h with
    | ftp hs r => exact .ftp hs (Rps.free r c)
theorem Rps.free : ∀ {xs : List PV} {vs : List V} {fp : List Addr}, Rps K H ok xs vs fp → clss xs = true → Rps K H ok' xs vs fp
  | [], _, _, h, _ => by cases h; exact .nil
  | x :: xs, _, _, h, c => by
    have c' : (cls x && clss xs) = true := c
    rw [Bool.and_eq_true] at c'
    cases h with
    | cons r rs => exact .cons (Rp.free r c'.1) (Rps.free rs c'.2)
end
mutual
/-- what may be someone else's stands somewhere -/
theorem Rp.inD : ∀ {x : PV} {v : V} {fp : List Addr}, Rp K H ok x v fp → Rp K H (fun a => ok a ∧ ∃ u, H a = some u) x v fp
  | .non, _, _, h => by cases h; exact .non
  | .bl b, _, _, h => by cases h; exact .bl b
  | .int i, _, _, h => by cases h; exact .int i
  | .str x, _, _, h => by
    cases h with
    | str _ z => exact .str x z
  | .tup xs, _, _, h => by
    cases h with
    | tup hs r => exact .tup hs (Rps.inD r)
  | .lst false xs, _, _, h => by
    cases h with
    | lstF hs ho r => exact .lstF hs ⟨ho, by rcases hs with h | ⟨o, h⟩ <;> exact ⟨_, h⟩⟩ (Rps.inD r)
  | .lst true xs, _, _, h => by
    cases h with
    | lstO hs r => exact .lstO hs (Rps.inD r)
  | .dct false ks xs, _, _, h => by
    cases h with
    | dctF hs hz ho r => exact .dctF hs hz ⟨ho, by rcases hs with h | ⟨o, h⟩ <;> exact ⟨_, h⟩⟩ (Rps.inD r)
  | .dct true ks xs, _, _, h => by
    cases h with
    | dctO hs hz r => exact .dctO hs hz (Rps.inD r)
  | .exn _, _, _, h => by cases h
  | .scr xs, _, _, h => by
    cases h with
    | scr hs => exact .scr hs
  | .ftp xs, _, _, h => by
    cases h with
    | ftp hs r => exact .ftp hs (Rps.inD r)
theorem Rps.inD : ∀ {xs : List PV} {vs : List V} {fp : List Addr}, Rps K H ok xs vs fp → Rps K H (fun a => ok a ∧ ∃ u, H a = some u) xs vs fp
  | [], _, _, h => by cases h; exact .nil
  | x :: xs, _, _, h => by
    cases h with
    | cons r rs => exact .cons (Rp.inD r) (Rps.inD rs)
end
mutual
theorem Rp.dom : ∀ {x : PV} {v : V} {fp : List Addr}, Rp K H ok x v fp → ∀ a ∈ fp, ∃ u, H a = some u ∧ isMu u = true
  | .non, _, _, h, _, z => by cases h; cases z
  | .bl b, _, _, h, _, z => by cases h; cases z
  | .int i, _, _, h, _, z => by cases h; cases z
  | .str x, _, _, h, _, z => by cases h; cases z
  | .tup xs, _, _, h, a, z => by
    cases h with
    | tup hs r => exact Rps.dom r a z
  | .lst false xs, _, _, h, _, z => by
    cases h with
    | lstF hs ho r => cases z
  | .lst true xs, _, _, h, a, z => by
    cases h with
    | lstO hs r =>
      rcases List.mem_cons.mp z with e | z
      · rw [e]; exact ⟨_, hs, rfl⟩
      · exact Rps.dom r a z
  | .dct false ks xs, _, _, h, _, z => by
    cases h with
    | dctF hs hz ho r => cases z
  | .dct true ks xs, _, _, h, a, z => by
    cases h with
    | dctO hs hz r =>
      rcases List.mem_cons.mp z with e | z
      · rw [e]; exact ⟨_, hs, rfl⟩
      · exact Rps.dom r a z
  | .exn _, _, _, h, _, _ => by cases h
  | .scr _, _, _, h, _, z => by cases h; cases z
  | .ftp xs, _, _, h, a, z => by
    cases h with
    | ftp hs r => exact Rps.dom r a z
theorem Rps.dom : ∀ {xs : List PV} {vs : List V} {fp : List Addr}, Rps K H ok xs vs fp → ∀ a ∈ fp, ∃ u, H a = some u ∧ isMu u = true
  | [], _, _, h, _, z => by cases h; cases z
  | x :: xs, _, _, h, a, z => by
    cases h with
    | cons r rs =>
      rcases List.mem_append.mp z with z | z
      · exact Rp.dom r a z
      · exact Rps.dom rs a z
end
theorem Rps.inv {x : PV} {xs : List PV} {us : List V} {fp : List Addr} (h : Rps K H ok (x :: xs) us fp) : ∃ v vs f fs, us = v :: vs ∧ fp = f ++ fs ∧ Rp K H ok x v f ∧ Rps K H ok xs vs fs := by
  cases h with
  | cons r rs => exact ⟨_, _, _, _, rfl, rfl, r, rs⟩
theorem Rps.inv0 {x : PV} {xs : List PV} {us : List V} (h : Rps K H ok (x :: xs) us []) : ∃ v vs, us = v :: vs ∧ Rp K H ok x v [] ∧ Rps K H ok xs vs [] := by
  obtain ⟨v, vs, f, fs, e, ef, r, rs⟩ := h.inv
  have hf := List.append_eq_nil_iff.mp ef.symm
  rw [hf.1] at r
  rw [hf.2] at rs
  exact ⟨v, vs, e, r, rs⟩
theorem Rps.get {xs : List PV} {vs : List V} {i : Nat} {x : PV} (h : Rps K H ok xs vs []) (e : xs[i]? = some x) : ∃ v, vs[i]? = some v ∧ Rp K H ok x v [] := by
  induction xs generalizing vs i with
  | nil => simp at e
  | cons y ys ih =>
    obtain ⟨v, vs', e2, r, rs⟩ := h.inv0
    subst e2
    cases i with
    | zero =>
      simp at e
      subst e
      exact ⟨v, rfl, r⟩
    | succ i =>
      obtain ⟨u, h1, h2⟩ := ih rs (by simpa using e)
      exact ⟨u, by simpa using h1, h2⟩
theorem Rps.app {xs ys : List PV} {vs us : List V} {f g : List Addr} (h : Rps K H ok xs vs f) (k : Rps K H ok ys us g) : Rps K H ok (xs ++ ys) (vs ++ us) (f ++ g) := by
  induction xs generalizing vs f with
  | nil => cases h; exact k
  | cons x xs ih =>
    cases h with
    | cons r rs =>
      rw [List.append_assoc]
      exact .cons r (ih rs)
theorem Rps.cons0 {x : PV} {v : V} {xs : List PV} {vs : List V} (h : Rp K H ok x v []) (k : Rps K H ok xs vs []) : Rps K H ok (x :: xs) (v :: vs) [] := .cons (f := []) (fs := []) h k
theorem Rps.take {xs : List PV} {vs : List V} (h : Rps K H ok xs vs []) (n : Nat) : Rps K H ok (xs.take n) (vs.take n) [] := by
  induction xs generalizing vs n with
  | nil => cases h; simp; exact .nil
  | cons x xs ih =>
    obtain ⟨v, vs', e, r, rs⟩ := h.inv0
    subst e
    cases n with
    | zero => exact .nil
    | succ n => exact .cons0 r (ih rs n)
theorem Rps.drop {xs : List PV} {vs : List V} (h : Rps K H ok xs vs []) (n : Nat) : Rps K H ok (xs.drop n) (vs.drop n) [] := by
  induction xs generalizing vs n with
  | nil => cases h; simp; exact .nil
  | cons x xs ih =>
    obtain ⟨v, vs', e, r, rs⟩ := h.inv0
    subst e
    cases n with
    | zero => exact .cons0 r rs
    | succ n => exact ih rs n
theorem Rps.rev {xs : List PV} {vs : List V} (h : Rps K H ok xs vs []) : Rps K H ok xs.reverse vs.reverse [] := by
  induction xs generalizing vs with
  | nil => cases h; exact .nil
  | cons x xs ih =>
    obtain ⟨v, vs', e, r, rs⟩ := h.inv0
    subst e
    simp only [List.reverse_cons]
    exact (ih rs).app (g := []) (.cons0 r .nil)
end
mutual
theorem frz_frz : ∀ x : PV, frz (frz x) = frz x
  | .tup xs => by simp only [frz, frzs_frzs xs]
  | .lst o xs => by simp only [frz, frzs_frzs xs]
  | .dct o ks xs => by simp only [frz, frzs_frzs xs]
  | .non => rfl
  | .bl b => rfl
  | .int i => rfl
  | .str x => rfl
  | .exn c => rfl
  | .scr xs => rfl
  | .ftp xs => by simp only [frz, frzs_frzs xs]
theorem frzs_frzs : ∀ xs : List PV, frzs (frzs xs) = frzs xs
  | [] => rfl
  | x :: xs => by simp only [frzs, frz_frz x, frzs_frzs xs]
end
end BW

/-! sorted: tuples of ints and texts. -/
namespace BW
open PySem PySem.Spec PyProof.Rows
open L2 hiding St

/-! sorting -/
theorem ins1_perm {α : Type} (le : α → α → Bool) (x : α) : ∀ ys, (ins1 le x ys).Perm (x :: ys)
  | [] => .refl _
  | y :: ys => by
    unfold ins1
    split
    · exact .refl _
    · exact ((ins1_perm le x ys).cons y).trans (.swap ..)
theorem srt_perm {α : Type} (le : α → α → Bool) : ∀ xs : List α, (srt le xs).Perm xs
  | [] => .refl _
  | x :: xs => (ins1_perm le x _).trans ((srt_perm le xs).cons x)
theorem ins1_sorted {α : Type} {le : α → α → Bool} (tt : ∀ a b, le a b = true ∨ le b a = true) (tr : ∀ a b c, le a b = true → le b c = true → le a c = true) (x : α) : ∀ ys, ys.Pairwise (fun a b => le a b = true) → (ins1 le x ys).Pairwise (fun a b => le a b = true)
  | [], _ => by simp [ins1]
  | y :: ys, h => by
    obtain ⟨h1, h2⟩ := List.pairwise_cons.mp h
    unfold ins1
    split
    · rename_i q
      exact List.pairwise_cons.mpr ⟨fun z hz => (List.mem_cons.mp hz).elim (fun e => by rw [e]; exact q) fun hz => tr _ _ _ q (h1 z hz), h⟩
    · rename_i q
      refine List.pairwise_cons.mpr ⟨fun z hz => ?_, ins1_sorted tt tr x ys h2⟩
      rcases List.mem_cons.mp ((ins1_perm le x ys).mem_iff.mp hz) with e | hz
      · rw [e]
        exact (tt x y).resolve_left q
      · exact h1 z hz
theorem srt_sorted {α : Type} {le : α → α → Bool} (tt : ∀ a b, le a b = true ∨ le b a = true) (tr : ∀ a b c, le a b = true → le b c = true → le a c = true) : ∀ xs : List α, (srt le xs).Pairwise (fun a b => le a b = true)
  | [] => .nil
  | x :: xs => ins1_sorted tt tr x _ (srt_sorted tt tr xs)
theorem ltK_irr : ∀ x : DKey, ltK x x = false
  | .inl i => decide_eq_false (Int.lt_irrefl i)
  | .inr a => decide_eq_false (List.lt_irrefl _)
theorem ltK_asym : ∀ {x y : DKey}, ltK x y = true → ltK y x = false
  | .inl i, .inl j, h => by
    have h := of_decide_eq_true h
    exact decide_eq_false (by omega)
  | .inr a, .inr b, h => by
    have h := of_decide_eq_true h
    exact decide_eq_false (List.lt_asymm h)
  | .inl _, .inr _, _ => rfl
  | .inr _, .inl _, h => by cases h
theorem ltK_tri : ∀ {x y : DKey}, ltK x y = false → ltK y x = false → x = y
  | .inl i, .inl j, h, k => by
    have h := of_decide_eq_false h
    have k := of_decide_eq_false k
    rw [show i = j by omega]
  | .inr a, .inr b, h, k => by
    have h := of_decide_eq_false h
    have k := of_decide_eq_false k
    have e := List.le_antisymm (List.not_lt.mp k) (List.not_lt.mp h)
    cases a
    cases b
    simp at e
    rw [e]
  | .inl _, .inr _, h, _ => by cases h
  | .inr _, .inl _, _, k => by cases k
theorem ltK_tr : ∀ {x y z : DKey}, ltK x y = true → ltK y z = true → ltK x z = true
  | .inl i, .inl j, .inl k, h, h' => by
    have h := of_decide_eq_true h
    have h' := of_decide_eq_true h'
    exact decide_eq_true (by omega)
  | .inr a, .inr b, .inr c, h, h' => by
    have h := of_decide_eq_true h
    have h' := of_decide_eq_true h'
    exact decide_eq_true (List.lt_trans h h')
  | .inl _, .inl _, .inr _, _, _ => rfl
  | .inl _, .inr _, .inr _, _, _ => rfl
  | .inl _, .inr _, .inl _, _, h => by cases h
  | .inr _, .inl _, _, h, _ => by cases h
  | .inr _, .inr _, .inl _, _, h => by cases h
theorem lexK_asym : ∀ {x y : List DKey}, lexK x y = true → lexK y x = false
  | [], [], h => by cases h
  | [], _ :: _, _ => rfl
  | _ :: _, [], h => by cases h
  | x :: xs, y :: ys, h => by
    replace h : (if x = y then lexK xs ys else ltK x y) = true := h
    show (if y = x then lexK ys xs else ltK y x) = false
    by_cases e : x = y
    · rw [if_pos e] at h
      rw [if_pos e.symm]
      exact lexK_asym h
    · rw [if_neg e] at h
      rw [if_neg fun q => e q.symm]
      exact ltK_asym h
theorem lexK_tri : ∀ {x y : List DKey}, lexK x y = false → lexK y x = false → x = y
  | [], [], _, _ => rfl
  | [], _ :: _, h, _ => by cases h
  | _ :: _, [], _, h => by cases h
  | x :: xs, y :: ys, h, k => by
    replace h : (if x = y then lexK xs ys else ltK x y) = false := h
    replace k : (if y = x then lexK ys xs else ltK y x) = false := k
    by_cases e : x = y
    · rw [if_pos e] at h
      rw [if_pos e.symm] at k
      rw [e, lexK_tri h k]
    · rw [if_neg e] at h
      rw [if_neg fun q => e q.symm] at k
      exact absurd (ltK_tri h k) e
theorem lexK_tr : ∀ {x y z : List DKey}, lexK x y = true → lexK y z = true → lexK x z = true
  | [], [], _, h, _ => by cases h
  | _ :: _, [], _, h, _ => by cases h
  | [], _ :: _, [], _, h => by cases h
  | [], _ :: _, _ :: _, _, _ => rfl
  | _ :: _, _ :: _, [], _, h => by cases h
  | x :: xs, y :: ys, z :: zs, h, k => by
    replace h : (if x = y then lexK xs ys else ltK x y) = true := h
    replace k : (if y = z then lexK ys zs else ltK y z) = true := k
    show (if x = z then lexK xs zs else ltK x z) = true
    by_cases e : x = y
    · rw [if_pos e] at h
      subst e
      by_cases e2 : x = z
      · rw [if_pos e2] at k
        rw [if_pos e2]
        exact lexK_tr h k
      · rw [if_neg e2] at k
        rw [if_neg e2]
        exact k
    · rw [if_neg e] at h
      by_cases e2 : y = z
      · subst e2
        rw [if_neg e]
        exact h
      · rw [if_neg e2] at k
        have t := ltK_tr h k
        have ne : ¬ x = z := fun q => by
          subst q
          rw [ltK_irr] at t
          cases t
        rw [if_neg ne]
        exact t
theorem leL_tt (a b : List DKey) : leL a b = true ∨ leL b a = true := by
  unfold leL
  cases e : lexK b a with
  | false => exact .inl rfl
  | true => right; rw [lexK_asym e]; rfl
theorem leL_as {a b : List DKey} (h : leL a b = true) (k : leL b a = true) : a = b := by
  unfold leL at h k
  rw [Bool.not_eq_true'] at h k
  exact lexK_tri k h
theorem leL_tr (a b c : List DKey) (h : leL a b = true) (k : leL b c = true) : leL a c = true := by
  rcases Classical.em (a = b) with e | e
  · rw [e]; exact k
  · rcases Classical.em (b = c) with e2 | e2
    · rw [← e2]; exact h
    · have h1 : lexK a b = true := by
        cases q : lexK a b with
        | true => rfl
        | false =>
          unfold leL at h
          rw [Bool.not_eq_true'] at h
          exact absurd (lexK_tri q h) e
      have h2 : lexK b c = true := by
        cases q : lexK b c with
        | true => rfl
        | false =>
          unfold leL at k
          rw [Bool.not_eq_true'] at k
          exact absurd (lexK_tri q k) e2
      unfold leL
      rw [lexK_asym (lexK_tr h1 h2)]
      rfl
theorem swo_lexK (k : Value → List DKey) : SrtO.Swo fun v u => lexK (k v) (k u) := by
  refine ⟨fun x y h => lexK_asym h, fun x y z h1 h2 => ?_⟩
  have := leL_tr (k x) (k y) (k z) (by unfold leL; rw [h1]; rfl) (by unfold leL; rw [h2]; rfl)
  unfold leL at this
  simpa using this
section
variable {prog : Program} {w : World} {A : Around} {E : Value → Shared → Prop} {s : Shared}
/-- a tuple of these keys -/
def TupK (h : Heap) (v : Value) (ks : List DKey) : Prop := ∃ (a : Addr) (o : Obj) (its : List Value) (n : Nat), v = .ref a ∧ h.get? a = some o ∧ o.cls = .type "tuple" ∧ o.data = .seq its.toArray n ∧ Vals (ks.map kV) its
theorem TupK.keeps {h h' : Heap} {v : Value} {ks : List DKey} (p : TupK h v ks) (k : ∀ b o, h.get? b = some o → o.cls = .type "tuple" → h'.get? b = some o) : TupK h' v ks := by
  obtain ⟨a, o, its, n, e, ho, hc, hd, r⟩ := p
  exact ⟨a, o, its, n, e, k _ _ ho hc, hc, hd, r⟩
theorem vals_uniq : ∀ {ks ls : List DKey} {its : List Value}, Vals (ks.map kV) its → Vals (ls.map kV) its → ks = ls
  | [], [], _, _, _ => rfl
  | [], _ :: _, _, h, k => by cases h; cases k
  | _ :: _, [], _, h, k => by cases k; cases h
  | x :: xs, y :: ys, its, h, k => by
    cases h with
    | cons h1 h2 =>
      cases k with
      | cons k1 k2 =>
        rw [vals_uniq h2 k2]
        cases x <;> cases y
        · obtain ⟨t, e⟩ := h1
          obtain ⟨t', e'⟩ := k1
          rw [e] at e'
          cases e'
          rfl
        · obtain ⟨t, e⟩ := h1
          obtain ⟨t', e'⟩ := k1
          rw [e] at e'
          cases e'
        · obtain ⟨t, e⟩ := h1
          obtain ⟨t', e'⟩ := k1
          rw [e] at e'
          cases e'
        · obtain ⟨t, e⟩ := h1
          obtain ⟨t', e'⟩ := k1
          rw [e] at e'
          cases e'
          rfl
theorem TupK.uniq {h : Heap} {v : Value} {ks ls : List DKey} (p : TupK h v ks) (q : TupK h v ls) : ks = ls := by
  obtain ⟨a, o, its, n, e, ho, hc, hd, r⟩ := p
  obtain ⟨a', o', its', n', e', ho', hc', hd', r'⟩ := q
  rw [e] at e'
  cases e'
  rw [ho] at ho'
  cases ho'
  rw [hd] at hd'
  cases hd'
  exact vals_uniq r r'
theorem one_keys (c : Bool) {x y : DKey} {v u : Value} {Q : Bool → Shared → Prop} (hx : RelV (kV x) v) (hy : RelV (kV y) u) (hk : isI x = isI y) (h : Q (ltK x y) s) : wpAny (model prog w) A (oneLt' c v u) Q E s := by
  cases x with
  | inl i =>
    cases y with
    | inl j =>
      obtain ⟨t, rfl⟩ := hx
      obtain ⟨t', rfl⟩ := hy
      cases c with
      | true => exact oneLt_int h
      | false => exact PySem.W.kat_one _ _ (PyProof.Rows.lt_int h)
    | inr b => cases hk
  | inr a =>
    cases y with
    | inr b =>
      obtain ⟨t, rfl⟩ := hx
      obtain ⟨t', rfl⟩ := hy
      cases c with
      | true => exact oneLt_str h
      | false => exact PySem.W.kat_one _ _ (PyProof.Rows.lt_str h)
    | inl i => cases hk
theorem kat_keys {b : Bool} {Q : Bool → Shared → Prop} : ∀ {ks ls : List DKey} {its jts : List Value} (i : Nat), Vals (ks.map kV) its → Vals (ls.map kV) jts → ks.map isI = ls.map isI → Q (lexK ks ls) s → PySem.W.KatLex prog w A b false Q (its.zip jts) i s
  | [], [], its, jts, i, h, k, _, q => by
    cases h
    cases k
    exact PySem.W.kat_nil q
  | [], _ :: _, _, _, _, _, _, e, _ => by cases e
  | _ :: _, [], _, _, _, _, _, e, _ => by cases e
  | x :: xs, y :: ys, its, jts, i, h, k, e, q => by
    rw [List.map_cons, List.map_cons, List.cons.injEq] at e
    cases h with
    | @cons _ v _ its h1 h2 =>
      cases k with
      | @cons _ u _ jts k1 k2 =>
        replace q : Q (if x = y then lexK xs ys else ltK x y) s := q
        show PySem.W.KatLex prog w A b false Q ((v, u) :: its.zip jts) i s
        have eq : ∃ c : Bool, (c = true ↔ x = y) ∧ SeqAt.EqAt A s v u c := by
          cases x with
          | inl i =>
            cases y with
            | inl j =>
              obtain ⟨t, rfl⟩ := h1
              obtain ⟨t', rfl⟩ := k1
              exact ⟨i == j, by simp, SeqAt.EqAt.int_int i t j t'⟩
            | inr b => cases e.1
          | inr a =>
            cases y with
            | inr b =>
              obtain ⟨t, rfl⟩ := h1
              obtain ⟨t', rfl⟩ := k1
              exact ⟨a == b, by simp, SeqAt.EqAt.str_str a t b t'⟩
            | inl i => cases e.1
        obtain ⟨c, ec, eA⟩ := eq
        refine PySem.W.kat_cons (eA prog w _ _ ?_)
        refine PySem.W.kat_go (fun e1 => ?_) (fun e1 => ?_)
        · rw [if_pos (ec.mp e1)] at q
          exact PySem.W.kat_yes (kat_keys (i + 1) h2 k2 e.2 q)
        · rw [if_neg fun z => by rw [ec.mpr z] at e1; cases e1] at q
          exact PySem.W.kat_no (one_keys _ h1 k1 e.1 q)
theorem tupK_cmp {b : Bool} {vs : List Value} {k : Value → List DKey} (hp : ∀ v ∈ vs, TupK s.heap v (k v)) (sh : ∀ v ∈ vs, ∀ u ∈ vs, (k v).map isI = (k u).map isI) : SrtO.Cmp prog w A s (tuples' b) (fun p => p.1 ∈ vs) (SrtO.lt2 fun v u => lexK (k v) (k u)) := by
  intro p q hm hm'
  have h1 := hp _ hm
  have h2 := hp _ hm'
  have h3 := sh _ hm _ hm'
  show wpAny (model prog w) A (keyLt' (tuples' b) p.1 q.1) (fun r s' => s' = s ∧ r = lexK (k p.1) (k q.1)) (fun _ _ => False) s
  generalize k p.1 = ks at *
  generalize k q.1 = ls at *
  obtain ⟨a, o, its, n, e, ho, hc, hd, r⟩ := h1
  obtain ⟨a', o', its', n', e', ho', hc', hd', r'⟩ := h2
  rw [e, e']
  refine PySem.W.kat_lt ho hd ho' hd' ?_
  have hl : its.length = its'.length := by
    have e1 := r.length
    have e2 := r'.length
    have e3 := congrArg List.length h3
    simp at e1 e2 e3
    omega
  rw [show decide (its.toArray.size < its'.toArray.size) = false from decide_eq_false (by simp [hl])]
  exact kat_keys 0 r r' h3 ⟨rfl, rfl⟩
theorem firsts_k {h : Heap} {c : Bool} : ∀ {vs : List Value}, (∀ v ∈ vs, ∃ x ks, TupK h v (x :: ks) ∧ isI x = c) → ∃ fs : List Value, PySem.W.KatTups h vs fs ∧ fs.length = vs.length ∧ ∀ f ∈ fs, ∃ x : DKey, RelV (kV x) f ∧ isI x = c
  | [], _ => ⟨[], PySem.W.KatTups.nil, rfl, fun _ hm => by simp at hm⟩
  | v :: vs, hp => by
    obtain ⟨fs, h1, h2, h3⟩ := firsts_k (vs := vs) fun v' hm => hp v' (List.mem_cons_of_mem _ hm)
    obtain ⟨x, ks, ⟨a, o, its, n, e, ho, hc, hd, r⟩, hx⟩ := hp v (List.mem_cons_self ..)
    subst e
    cases r with
    | @cons _ f _ its r1 r2 =>
      refine ⟨f :: fs, PySem.W.KatTups.cons ho hc hd rfl h1, by rw [List.length_cons, List.length_cons, h2], fun g hm => ?_⟩
      rcases List.mem_cons.mp hm with rfl | hm
      · exact ⟨x, r1, hx⟩
      · exact h3 g hm
theorem tupK_sortable {a : Addr} {vs : List Value} {k : Value → List DKey} (h0 : 0 < vs.length) (hp : ∀ v ∈ vs, TupK s.heap v (k v)) (sh : ∀ v ∈ vs, ∀ u ∈ vs, (k v).map isI = (k u).map isI) (hn : ∀ v ∈ vs, k v ≠ []) (ha : ∀ o, s.heap.get? a = some o → o.cls ≠ .type "tuple") : SrtO.SortableO prog w A s a vs fun v u => lexK (k v) (k u) := by
  intro h' keep
  have hp' : ∀ v ∈ vs, TupK h' v (k v) := fun v hm => (hp v hm).keeps fun b o e c => keep b o (fun z => by subst z; exact ha o e c) e
  obtain ⟨v0, hv0⟩ := List.exists_mem_of_length_pos h0
  obtain ⟨x0, ks0, e0⟩ : ∃ x ks, k v0 = x :: ks := by
    cases e : k v0 with
    | nil => exact absurd e (hn v0 hv0)
    | cons x ks => exact ⟨x, ks, rfl⟩
  obtain ⟨fs, h1, h2, h3⟩ := firsts_k (c := isI x0) fun v hm => by
    cases e : k v with
    | nil => exact absurd e (hn v hm)
    | cons x ks =>
      refine ⟨x, ks, e ▸ hp' v hm, ?_⟩
      have := sh v hm v0 hv0
      rw [e, e0, List.map_cons, List.map_cons, List.cons.injEq] at this
      exact this.1
  refine ⟨tuples' true, fun Q E hq => ?_, tupK_cmp hp' sh⟩
  cases hx : isI x0 with
  | true =>
    refine PySem.W.kat_kind (T := .type "int") h1 (by omega) (fun f hm => ?_) (by rfl) ?_
    · obtain ⟨x, r, hi⟩ := h3 f hm
      rw [hx] at hi
      cases x with
      | inl i =>
        obtain ⟨t, rfl⟩ := r
        exact PySem.W.Looks.now
      | inr a => cases hi
    · have e : (Value.type "int" != Value.type "tuple") = true := by first | decide +kernel | rfl | decide
      rw [e]
      exact hq
  | false =>
    refine PySem.W.kat_kind (T := .type "str") h1 (by omega) (fun f hm => ?_) (by rfl) ?_
    · obtain ⟨x, r, hi⟩ := h3 f hm
      rw [hx] at hi
      cases x with
      | inr a =>
        obtain ⟨t, rfl⟩ := r
        exact PySem.W.Looks.now
      | inl a => cases hi
    · have e : (Value.type "str" != Value.type "tuple") = true := by first | decide +kernel | rfl | decide
      rw [e]
      exact hq
theorem sorted_keysO {l : Addr} {vs : List Value} {k : Value → List DKey} {Q : Value → Shared → Prop} (hl : s.heap.IsList l vs.toArray) (hz : vs.length ≤ sizeLine) (hp : ∀ v ∈ vs, TupK s.heap v (k v)) (sh : ∀ v ∈ vs, ∀ u ∈ vs, (k v).map isI = (k u).map isI) (hn : ∀ v ∈ vs, k v ≠ [])
    (h : ∀ (h' : Heap) (d : Addr) (out : List Value), SrtO.Srtd (fun v u => lexK (k v) (k u)) out → SrtO.Stb (fun v u => lexK (k v) (k u)) out vs → (∀ b o, s.heap.get? b = some o → h'.get? b = some o) → s.heap.objs.size ≤ d → (∃ n, h'.get? d = some (seqObj "list" out.toArray n)) → Q (.ref d) { s with heap := h' }) :
    wpAny (model prog w) A (call (.builtin "sorted") [.ref l]) Q E s := by
  refine SrtO.sorted_ord (swo_lexK k) hl hz (fun h2 h₁ a ha kk => ?_) fun out hs hb => ?_
  · refine tupK_sortable (s := { s with heap := h₁ }) (by omega) (fun v hm => (hp v hm).keeps fun b o e _ => (kk b o e).2) sh hn fun o e => ?_
    have e' : some o = some (seqObj "list" vs.toArray 0) := e.symm.trans ha
    cases e'
    intro c
    exact absurd (Value.type.inj c) (by decide)
  · exact h _ _ out hs hb (fun b o e => sortedAll_old e) (Nat.le_succ _) (sortedAll_at s.heap vs out.toArray)
end
section
variable {X : Cx}
def PrT (K : PySem.W.Frag) (H : Hp) : List V → List (List DKey) → Prop := Paired fun x ks => ∃ t, x = V.ref t ∧ SqT K H t (ks.map kV)
theorem shp_all : ∀ {kss : List (List DKey)}, shpB kss = true → ∀ ks ∈ kss, ks ≠ [] ∧ ∀ ls ∈ kss, ls.map isI = ks.map isI
  | [], _, _, h => by cases h
  | a :: r, h, ks, hk => by
    replace h : (!a.isEmpty && r.all fun ls => decide (ls.map isI = a.map isI)) = true := h
    rw [Bool.and_eq_true, List.all_eq_true] at h
    have ea : ∀ ls ∈ a :: r, ls.map isI = a.map isI := fun ls hl => by
      rcases List.mem_cons.mp hl with rfl | hl
      · rfl
      · exact of_decide_eq_true (h.2 ls hl)
    refine ⟨fun e => ?_, fun ls hl => (ea ls hl).trans (ea ks hk).symm⟩
    subst e
    have := ea [] hk
    have n : a ≠ [] := by
      have := h.1
      intro e
      rw [e] at this
      cases this
    cases a with
    | nil => exact n rfl
    | cons _ _ => cases this
theorem cr_sortTp : CallR X (.builtin "sorted") (fun vs H Q => ∃ (a : Addr) (xs : List V) (kss : List (List DKey)), vs = [V.ref a] ∧ SqL X.K H a xs ∧ PrT X.K H xs kss ∧ shpB kss = true ∧ ∀ (ys : List V) (p : Addr), PrT X.K H ys (srt leL kss) → H p = none → Q (.ref p) (upd H p (.lst ys))) := by
  intro pins s σ H vs us Q I r h
  obtain ⟨a, xs, kss, rfl, hs, hx, sh, q⟩ := h
  obtain ⟨its, rv, hl, hz⟩ := I.list hs
  obtain ⟨u, rfl, ru⟩ := vals1 r
  obtain rfl : u = Value.ref a := ru
  have hz' : its.length ≤ sizeLine := by rw [← rv.length]; exact hz
  -- each one's keys
  have tk : ∀ {xs : List V} {kss : List (List DKey)} {its : List Value}, PrT X.K H xs kss → Vals xs its → Paired (fun v ks => TupK s.heap v ks ∧ ∃ t, v = Value.ref t ∧ SqT X.K H t (ks.map kV)) its kss := by
    intro xs kss its hx rv
    induction hx generalizing its with
    | nil => cases rv; exact .nil
    | @cons x ks _ _ hd _ ih =>
      cases rv with
      | cons r1 r2 =>
        obtain ⟨t, rfl, ht⟩ := hd
        cases r1
        refine .cons ⟨?_, t, rfl, ht⟩ (ih r2)
        obtain ⟨jts, rj, pl, _⟩ := I.tuple ht
        obtain ⟨o, ho, hc, n, hd⟩ := pl
        exact ⟨t, o, jts, n, rfl, ho, hc, hd, rj⟩
  have hp := tk hx rv
  obtain ⟨kk, hkk⟩ : ∃ kk : Value → List DKey, ∀ v, (∃ ls, TupK s.heap v ls) → TupK s.heap v (kk v) := by
    refine (Classical.skolem (p := fun v ks => (∃ ls, TupK s.heap v ls) → TupK s.heap v ks)).mp fun v => ?_
    rcases Classical.em (∃ ls, TupK s.heap v ls) with ⟨ls, e⟩ | e
    · exact ⟨ls, fun _ => e⟩
    · exact ⟨[], fun h => absurd h e⟩
  have ek : ∀ {its : List Value} {kss : List (List DKey)}, Paired (fun v ks => TupK s.heap v ks ∧ ∃ t, v = Value.ref t ∧ SqT X.K H t (ks.map kV)) its kss → its.map kk = kss := by
    intro its kss hp
    induction hp with
    | nil => rfl
    | @cons v ks _ _ hd _ ih =>
      rw [List.map_cons, ih, (hkk v ⟨ks, hd.1⟩).uniq hd.1]
  have em : ∀ {its : List Value} {kss : List (List DKey)}, Paired (fun v ks => TupK s.heap v ks ∧ ∃ t, v = Value.ref t ∧ SqT X.K H t (ks.map kV)) its kss → ∀ v ∈ its, TupK s.heap v (kk v) ∧ ∃ t, v = Value.ref t ∧ SqT X.K H t ((kk v).map kV) := by
    intro its kss hp
    induction hp with
    | nil => intro v hv; cases hv
    | @cons v ks _ _ hd _ ih =>
      intro u hu
      rcases List.mem_cons.mp hu with rfl | hu
      · have := hkk u ⟨ks, hd.1⟩
        rw [this.uniq hd.1]
        exact hd
      · exact ih u hu
  have ek0 := ek hp
  have em0 := em hp
  have shA := shp_all sh
  have km : ∀ v ∈ its, kk v ∈ kss := fun v hv => by rw [← ek0]; exact List.mem_map_of_mem hv
  refine sorted_keysO (k := kk) hl.isList hz' (fun v hv => (em0 v hv).1) (fun v hv u hu => (shA _ (km u hu)).2 _ (km v hv)) (fun v hv => (shA _ (km v hv)).1) fun h' d out h1 h2 kp hd hn => ?_
  have h3 : ∀ u ∈ out, ∃ a, u = Value.ref a := fun u hu => by
    obtain ⟨_, t, e, _⟩ := em0 u (h2.perm.mem_iff.mp hu)
    exact ⟨t, e⟩
  obtain ⟨n, hn⟩ := hn
  have eo : out.map kk = srt leL kss := by
    refine List.Perm.eq_of_pairwise (le := fun a b => leL a b = true) (fun a b _ _ h1 h2 => leL_as h1 h2) ?_ (srt_sorted leL_tt leL_tr kss) ?_
    · refine List.pairwise_map.mpr (h1.imp fun {x y} h => ?_)
      have h : lexK (kk y) (kk x) = false := h
      unfold leL
      rw [h]
      rfl
    · have := h2.perm.map kk
      rw [ek0] at this
      exact this.trans (srt_perm leL kss).symm
  have po : ∀ l : List Value, (∀ u ∈ l, u ∈ its) → PrT X.K H (l.map backV) (l.map kk) := fun l => by
    induction l with
    | nil => intro _; exact .nil
    | cons v l ih =>
      intro hm
      obtain ⟨_, t, e, ht⟩ := em0 v (hm v List.mem_cons_self)
      refine .cons ⟨t, ?_, ht⟩ (ih fun u hu => hm u (List.mem_cons_of_mem _ hu))
      rw [e]
      rfl
  have lo : out.length = its.length := h2.len
  refine ⟨.ref d, upd H d (.lst (out.map backV)), I.laid (t' := s.toks) kp hd ⟨?_, out, n, vals_back h3, hn⟩, rfl, q _ d ?_ (I.hok.fresh hd)⟩
  · rw [List.length_map, lo]
    exact hz'
  · rw [← eo]
    exact po out fun u hu => h2.perm.mem_iff.mp hu
end
/-- the values of what is sorted -/
theorem allP_V {K : PySem.W.Frag} {H : Hp} {ok : Addr → Prop} : ∀ {xs : List PV} {vs : List V} {ks : List DKey}, allP xs = some ks → Rps K H ok xs vs [] → vs = ks.map kV ∧ ks.all kB = true
  | [], _, _, e, r => by
    cases e
    cases r
    exact ⟨rfl, rfl⟩
  | x :: xs, vs, ks, e, r => by
    obtain ⟨v, vs', ev, r1, r2⟩ := r.inv0
    subst ev
    replace e : (keyV x).bind (fun k => (allP xs).map (k :: ·)) = some ks := e
    cases ek : keyV x with
    | none => rw [ek] at e; cases e
    | some k =>
      rw [ek] at e
      obtain ⟨js, e1, rfl⟩ := Option.map_eq_some_iff.mp (show (allP xs).map (k :: ·) = some ks from e)
      obtain ⟨q1, q2⟩ := allP_V e1 r2
      rw [q1]
      cases x with
      | int i =>
        cases ek
        cases r1
        exact ⟨rfl, q2⟩
      | str z =>
        cases ek
        cases r1 with
        | str _ hz => exact ⟨rfl, by rw [List.all_cons, q2]; exact (Bool.and_true _).trans hz⟩
      | _ => cases ek
theorem allT_V {K : PySem.W.Frag} {H : Hp} {ok : Addr → Prop} : ∀ {xs : List PV} {vs : List V} {kss : List (List DKey)}, allT xs = some kss → Rps K H ok xs vs [] → PrT K H vs kss ∧ ∀ ks ∈ kss, ks.all kB = true
  | [], _, _, e, r => by
    cases e
    cases r
    exact ⟨.nil, fun _ h => nomatch h⟩
  | x :: xs, vs, kss, e, r => by
    obtain ⟨v, vs', ev, r1, r2⟩ := r.inv0
    subst ev
    cases x with
    | tup ys =>
      replace e : (allP ys).bind (fun ks => (allT xs).map (ks :: ·)) = some kss := e
      cases ek : allP ys with
      | none => rw [ek] at e; cases e
      | some ks =>
        rw [ek] at e
        obtain ⟨js, e1, rfl⟩ := Option.map_eq_some_iff.mp (show (allT xs).map (ks :: ·) = some kss from e)
        obtain ⟨q1, q2⟩ := allT_V e1 r2
        cases r1 with
        | tup ht rs =>
          obtain ⟨p1, p2⟩ := allP_V ek rs
          refine ⟨.cons ⟨_, rfl, by rw [← p1]; exact ht⟩ q1, fun ls hl => ?_⟩
          rcases List.mem_cons.mp hl with rfl | hl
          · exact p2
          · exact q2 ls hl
    | _ => cases e
theorem keysA {K : PySem.W.Frag} {H : Hp} {ok : Addr → Prop} : ∀ {ks : List DKey}, ks.all kB = true → Rps K H ok (ks.map keyP) (ks.map kV) []
  | [], _ => .nil
  | k :: ks, h => by
    rw [List.all_cons, Bool.and_eq_true] at h
    cases k with
    | inl i => exact .cons0 (.int i) (keysA h.2)
    | inr x => exact .cons0 (.str x h.1) (keysA h.2)
theorem prT_rps {K : PySem.W.Frag} {H : Hp} {ok : Addr → Prop} {vs : List V} {kss : List (List DKey)} (p : PrT K H vs kss) (h : ∀ ks ∈ kss, ks.all kB = true) : Rps K H ok (kss.map keyT) vs [] := by
  induction p with
  | nil => exact .nil
  | @cons v ks _ _ hd _ ih =>
    obtain ⟨t, rfl, ht⟩ := hd
    exact .cons0 (.tup ht (keysA (h ks List.mem_cons_self))) (ih fun ls hl => h ls (List.mem_cons_of_mem _ hl))
end BW

/-! != of what may hold dicts. -/
namespace BW
open PySem PySem.SeqAt PySem.W PySem.Calls PyProof.Rows
open AutoSeq1 (wpAny_loadPart')
open MeetsSeq MeetsSeq2 MeetsSeq3 SeqRoads2
section
variable {P : Program} {wd : World}
abbrev lstAt (s : Shared) (p : Addr) (xs : Array Value) (k : Nat) (d : Option Addr) (z : Array (Option Value)) : Prop := s.heap.get? p = some { cls := .type "list", dict := d, data := .seq xs k, slots := z }
abbrev tupAt (s : Shared) (p : Addr) (xs : Array Value) (k : Nat) (d : Option Addr) (z : Array (Option Value)) : Prop := s.heap.get? p = some { cls := .type "tuple", dict := d, data := .seq xs k, slots := z }
/-- all pairs are told -/
def PrsIn (P : Program) (wd : World) (A : Around) (s : Shared) (xs ys : Array Value) (f : Nat → Bool) : Prop := ∀ j (h1 : j < xs.size) (h2 : j < ys.size), EqIn P wd A s xs[j] ys[j] (f j)
theorem neTurns (p q : Addr) (xs ys : Array Value) (k1 k2 : Nat) (d1 d2 : Option Addr) (z1 z2 : Array (Option Value)) (same : xs.size = ys.size) (f : Nat → Bool) : ∀ r i : Nat, xs.size - i = r → MeetsIn P wd (Builtin.«list.__eq__.loop» ⟨[.ref p, .ref q, rawInt i, rawInt 3], []⟩)
    (fun A R s => lstAt s p xs k1 d1 z1 ∧ lstAt s q ys k2 d2 z2 ∧ PrsIn P wd A.in1 s xs ys f ∧ R (.ok (.ret (.bool (!((List.range xs.size).drop i).all f)))) s) := by
  intro r
  induction r with
  | zero =>
    intro i hr A R s goal
    obtain ⟨hh, gg, dd, tt, oo⟩ := s
    obtain ⟨atp, atq, prs, goal⟩ := goal
    wp_walk using wpAny_loadPart' atp, wpAny_loadPart' atq
    have nox : xs[((i : Nat) : Int).toNat]? = none := by simp; omega
    have noy : ys[((i : Nat) : Int).toNat]? = none := by simp; omega
    rw [show (List.range xs.size).drop i = [] by simp; omega] at goal
    rw [nox, noy]
    wp_walk using wpAny_loadPart' atp, wpAny_loadPart' atq
    show R (.ok (.ret (.bool (xs.size != ys.size)))) _
    rw [same]
    simpa using goal
  | succ r ih =>
    intro i hr A R s goal
    obtain ⟨hh, gg, dd, tt, oo⟩ := s
    obtain ⟨atp, atq, prs, goal⟩ := goal
    wp_walk using wpAny_loadPart' atp, wpAny_loadPart' atq
    have ix : i < xs.size := by omega
    have iy : i < ys.size := by omega
    have gx : xs[((i : Nat) : Int).toNat]? = some xs[i] := by simp [ix]
    have gy : ys[((i : Nat) : Int).toNat]? = some ys[i] := by simp [iy]
    have next : ((i : Int) + 1) = ((i + 1 : Nat) : Int) := by push_cast; rfl
    rw [show (List.range xs.size).drop i = i :: (List.range xs.size).drop (i + 1) by simp [List.drop_eq_getElem_cons, ix], List.all_cons] at goal
    rw [gx, gy]
    refine wpAny_bind (prs i ix iy _ _ ?_)
    cases fi : f i with
    | true =>
      rw [fi] at goal
      wp_walk
      rw [next]
      refine ⟨plainId_quiet plain_eq_loop _, codeAny_builtin entry_eq_loop ?_⟩
      rw [Around.under_plainId plain_eq_loop _]
      exact ih (i + 1) (by omega) A R _ ⟨atp, atq, prs, by simpa using goal⟩
    | false =>
      rw [fi] at goal
      wp_walk using wpAny_loadPart' atp, wpAny_loadPart' atq
      rw [gx, gy]
      wp_walk
      simpa using goal
theorem neLst (p q : Addr) (xs ys : Array Value) (k1 k2 : Nat) (d1 d2 : Option Addr) (z1 z2 : Array (Option Value)) (same : xs.size = ys.size) (f : Nat → Bool) :
    MeetsIn P wd (Builtin.«list.__ne__» ⟨[.ref p, .ref q], []⟩) (fun A R s => lstAt s p xs k1 d1 z1 ∧ lstAt s q ys k2 d2 z2 ∧ PrsIn P wd A.in1 s xs ys f ∧ R (.ok (.ret (.bool (!(List.range xs.size).all f)))) s) := by
  intro A R s goal
  obtain ⟨hh, gg, dd, tt, oo⟩ := s
  obtain ⟨atp, atq, prs, goal⟩ := goal
  have f3 := AutoSeq1.sub_list_list
  have nz : ¬ (xs.size != ys.size) = true := by simp [same]
  wp_walk using wpAny_loadPart' atp, wpAny_loadPart' atq
  refine ⟨plainId_quiet plain_eq_loop _, codeAny_builtin entry_eq_loop ?_⟩
  rw [Around.under_plainId plain_eq_loop _]
  exact neTurns p q xs ys k1 k2 d1 d2 z1 z2 same f _ 0 rfl A R _ ⟨atp, atq, prs, by simpa using goal⟩
theorem neTup (p q : Addr) (xs ys : Array Value) (k1 k2 : Nat) (d1 d2 : Option Addr) (z1 z2 : Array (Option Value)) (f : Nat → Bool) :
    MeetsIn P wd (Builtin.«tuple.__ne__» ⟨[.ref p, .ref q], []⟩) (fun A R s => tupAt s p xs k1 d1 z1 ∧ tupAt s q ys k2 d2 z2 ∧ PrsIn P wd A.in1 s xs ys f ∧ R (.ok (.ret (.bool (!((List.range (min xs.size ys.size)).all f && xs.size == ys.size))))) s) :=
  .of_wp fun A R s goal => by
    obtain ⟨hh, gg, dd, tt, oo⟩ := s
    obtain ⟨atp, atq, prs, goal⟩ := goal
    have f2 := AutoSeq1.sub_tuple_tuple
    have zl : (xs.toList.zip ys.toList).length = min xs.size ys.size := by simp
    wp_walk using wpAny_loadPart' atp, wpAny_loadPart' atq, wpAny_forIn_list _ (fun rest st s' => st.1 = none ∧ s' = ⟨hh, gg, dd, tt, oo⟩ ∧ ∃ i, rest = (xs.toList.zip ys.toList).drop i ∧
      R (.ok (.ret (.bool (!(((List.range (min xs.size ys.size)).drop i).all f && xs.size == ys.size))))) ⟨hh, gg, dd, tt, oo⟩) _
    case turn =>
      rintro ⟨x, y⟩ rest st s' ⟨st0, rfl, i, rest0, goal⟩
      have lt : i < (xs.toList.zip ys.toList).length := by
        rcases Nat.lt_or_ge i (xs.toList.zip ys.toList).length with z | z
        · exact z
        · rw [List.drop_of_length_le z] at rest0; cases rest0
      have ltm : i < min xs.size ys.size := zl ▸ lt
      have ix : i < xs.size := Nat.lt_of_lt_of_le ltm (Nat.min_le_left _ _)
      have iy : i < ys.size := Nat.lt_of_lt_of_le ltm (Nat.min_le_right _ _)
      rw [List.drop_eq_getElem_cons lt] at rest0
      injection rest0 with pair tail
      have ex : x = xs[i] := by have := congrArg Prod.fst pair; simpa using this
      have ey : y = ys[i] := by have := congrArg Prod.snd pair; simpa using this
      subst ex ey
      rw [show (List.range (min xs.size ys.size)).drop i = i :: (List.range (min xs.size ys.size)).drop (i + 1) by simp [List.drop_eq_getElem_cons, ltm], List.all_cons] at goal
      refine wpAny_bind (prs i ix iy _ _ ?_)
      cases fi : f i with
      | true =>
        rw [fi] at goal
        wp_walk
        exact ⟨rfl, rfl, i + 1, tail, by simpa using goal⟩
      | false =>
        rw [fi] at goal
        wp_walk
        exact ⟨_, rfl, by simpa using goal⟩
    case fin =>
      rintro ⟨s1, s2⟩ s' ⟨st0, rfl, i, rest0, goal⟩
      simp only at st0
      subst st0
      have ge : min xs.size ys.size ≤ i := by
        rcases Nat.lt_or_ge i (xs.toList.zip ys.toList).length with z | z
        · rw [List.drop_eq_getElem_cons z] at rest0; cases rest0
        · exact zl ▸ z
      rw [List.drop_of_length_le (by simpa using ge)] at goal
      wp_walk
      exact ⟨_, rfl, by simpa [Builtin.Tuple.tupleCompareSizes, bne] using goal⟩
    case h => exact ⟨rfl, rfl, 0, rfl, by simpa using goal⟩
end
section
variable {P : Program} {wd : World} {A : Around} {E : Value → Shared → Prop} {s : Shared} {Q : Value → Shared → Prop}
def sg (neg b : Bool) : Bool := if neg then !b else b
def cpO (neg : Bool) : CmpOp := if neg then .NotEq else .Eq
theorem cp_lists (neg : Bool) {n : Nat} {p q : Addr} {xs ys : Array Value} {f : Nat → Bool} (hp : s.heap.IsList p xs) (hq : s.heap.IsList q ys) (same : xs.size = ys.size) (t : ∀ j (h1 : j < xs.size) (h2 : j < ys.size), EqTree P wd s n xs[j] ys[j] (f j)) (hu : A.units + (n + 1) < cLine)
    (goal : Q (.bool (sg neg ((List.range xs.size).all f))) s) : wpAny (model P wd) A (compareOp (cpO neg) (.ref p) (.ref q)) Q E s := by
  cases neg with
  | false => exact eq_listsT hp hq same t hu goal
  | true =>
    obtain ⟨⟨c1, d1, t1, z1⟩, o1, rfl, k1, rfl⟩ := id hp
    obtain ⟨⟨c2, d2, t2, z2⟩, o2, rfl, k2, rfl⟩ := id hq
    exact wpAny_richCompare_same_room (T := "list") (op := .NotEq) ⟨_, o1, rfl⟩ ⟨_, o2, rfl⟩ F.slot_list_ne (call_meetsIn F.slot_list_ne ⟨_, o1, rfl⟩ F.entry_list_ne (F.args_list_ne_2 _ _) (neLst p q xs ys k1 k2 d1 d2 z1 z2 same f)
      ⟨o1, o2, fun j h1 h2 => (t j h1 h2).at A.in1 (by show A.units + 1 + _ < cLine; omega), show Value.bool _ ≠ Value.notImplemented ∧ _ from ⟨(fun x => nomatch x), goal⟩⟩) (by omega)
theorem cp_len (neg : Bool) {p q : Addr} {xs ys : Array Value} (hp : s.heap.IsList p xs) (hq : s.heap.IsList q ys) (un : (xs.size != ys.size) = true) (hu : A.units < cLine) (goal : Q (.bool (sg neg false)) s) : wpAny (model P wd) A (compareOp (cpO neg) (.ref p) (.ref q)) Q E s := by
  cases neg with
  | false => exact (RcAt.lists_lengths hp hq un hu) _ _ _ _ goal
  | true => exact (RcNeAt.lists_lengths hp hq un hu) _ _ _ _ goal
theorem cp_tuples (neg : Bool) {n : Nat} {p q : Addr} {xs ys : Array Value} {f : Nat → Bool} (hp : s.heap.IsTuple p xs) (hq : s.heap.IsTuple q ys) (t : ∀ j (h1 : j < xs.size) (h2 : j < ys.size), EqTree P wd s n xs[j] ys[j] (f j)) (hu : A.units + (n + 1) < cLine)
    (goal : Q (.bool (sg neg ((List.range (min xs.size ys.size)).all f && xs.size == ys.size))) s) : wpAny (model P wd) A (compareOp (cpO neg) (.ref p) (.ref q)) Q E s := by
  cases neg with
  | false => exact eq_tuplesT hp hq t hu goal
  | true =>
    obtain ⟨⟨c1, d1, t1, z1⟩, o1, rfl, k1, rfl⟩ := id hp
    obtain ⟨⟨c2, d2, t2, z2⟩, o2, rfl, k2, rfl⟩ := id hq
    exact wpAny_richCompare_same_room (T := "tuple") (op := .NotEq) ⟨_, o1, rfl⟩ ⟨_, o2, rfl⟩ F.slot_tuple_ne (call_meetsIn F.slot_tuple_ne ⟨_, o1, rfl⟩ F.entry_tuple_ne (F.args_tuple_ne_2 _ _) (neTup p q xs ys k1 k2 d1 d2 z1 z2 f)
      ⟨o1, o2, fun j h1 h2 => (t j h1 h2).at A.in1 (by show A.units + 1 + _ < cLine; omega), show Value.bool _ ≠ Value.notImplemented ∧ _ from ⟨(fun x => nomatch x), goal⟩⟩) (by omega)
theorem cp_dicts (neg : Bool) {K : Type} [DecidableEq K] {knd : KeyKind P wd K} {n : Nat} {p q : Addr} {ka kb : List (K × Value)} {f : K → Bool} (hp : (p == sysModules) = false) (hq : (q == sysModules) = false) (da : s.heap.DictOf knd p ka) (db : s.heap.DictOf knd q kb)
    (t : ∀ k v y, (k, v) ∈ ka → valueAt kb k = some y → EqTree P wd s n v y (f k)) (hu : A.units + (n + 1) < cLine) (goal : Q (.bool (sg neg (ka.length == kb.length && ka.all fun p => (valueAt kb p.1).isSome && f p.1))) s) : wpAny (model P wd) A (compareOp (cpO neg) (.ref p) (.ref q)) Q E s := by
  cases neg with
  | false => exact eq_dictsT hp hq da db t hu goal
  | true =>
    have hits : ka.length = kb.length → KeqHitsIn P wd A.in1 s kb ka (ka.all fun p => (valueAt kb p.1).isSome && f p.1) := fun _ => KeqHitsIn.of _ fun k v y hm hv => (t k v y hm hv).at A.in1 (by show A.units + 1 + _ < cLine; omega)
    refine wpAny_richCompare_same_room (op := .NotEq) da.typeIs db.typeIs PySem.F.slot_dict_ne (wpAny_call_entry PySem.F.slot_dict_ne da.typeIs PySem.F.entry_dict_ne ?_ (PySem.F.args_dict_ne_2 _ _)) (by omega)
    refine wpAny_bind (?_ : wpAny _ _ (Builtin.Dict.dictSlotArgs "__ne__" ⟨[.ref p, .ref q], []⟩) _ _ s)
    unfold Builtin.Dict.dictSlotArgs
    refine wpAny_bind (wpAny_notOrdered_dict da.typeIs ?_)
    refine (wpAny_pure ?_ : wpAny _ _ (pure (Value.ref p, Value.ref q)) _ _ s)
    refine wpAny_bind (wpAny_isInstance (T := "dict") db.typeIs PySem.F.sub_dict_dict ?_)
    simp only [Bool.not_true, Bool.false_eq_true, if_false]
    refine wpAny_bind (wpAny_pure (wpAny_bind (wpAny_pure (wpAny_bind (keq_samePairsIn hp hq da db hits (wpAny_pure ⟨_, rfl, (fun x => nomatch x), ?_⟩))))))
    have goal : Q (.bool (!(ka.length == kb.length && ka.all fun p => (valueAt kb p.1).isSome && f p.1))) s := goal
    simpa using goal
end
theorem str_eq_dict (b : Str) (u : Tok) (l : Addr) (c : Value) (es : Array DictEntry) (ep : Nat) (dd : Option Addr) (sl : Array (Option Value)) :
    Meets (Builtin.«str.__eq__» ⟨[.str b u, .ref l], []⟩) (fun _ R s => s.heap.get? l = some { cls := c, dict := dd, data := .dict es ep, slots := sl } ∧ R (.ok (.ret .notImplemented)) s) :=
  .of_wp fun prog w A R s h => by obtain ⟨hp, g, d, tk, os⟩ := s; obtain ⟨hl, h⟩ := h; wp_walk using wpAny_loadPart' hl, wpAny_load hl; exact ⟨_, rfl, h⟩
theorem str_ne_dict (b : Str) (u : Tok) (l : Addr) (c : Value) (es : Array DictEntry) (ep : Nat) (dd : Option Addr) (sl : Array (Option Value)) :
    Meets (Builtin.«str.__ne__» ⟨[.str b u, .ref l], []⟩) (fun _ R s => s.heap.get? l = some { cls := c, dict := dd, data := .dict es ep, slots := sl } ∧ R (.ok (.ret .notImplemented)) s) :=
  .of_wp fun prog w A R s h => by obtain ⟨hp, g, d, tk, os⟩ := s; obtain ⟨hl, h⟩ := h; wp_walk using wpAny_loadPart' hl, wpAny_load hl; exact ⟨_, rfl, h⟩
section
variable {P : Program} {wd : World} {A : Around} {E : Value → Shared → Prop} {s : Shared} {Q : Value → Shared → Prop}
theorem dict_eq_str {a : Addr} (b : Str) (u : Tok) (ht : s.TypeIs (.ref a) "dict") {Q' : Value → Shared → Prop} (hq : Q' .notImplemented s) : wpAny (model P wd) A (call (.builtin "dict.__eq__") [.ref a, .str b u]) Q' E s := by
  refine wpAny_call_entry PySem.F.slot_dict_eq ht PySem.F.entry_dict_eq ?_ (PySem.F.args_dict_eq_2 _ _)
  refine wpAny_bind (?_ : wpAny _ _ (Builtin.Dict.dictSlotArgs "__eq__" ⟨[.ref a, .str b u], []⟩) _ _ s)
  unfold Builtin.Dict.dictSlotArgs
  refine wpAny_bind (wpAny_notOrdered_dict ht ?_)
  refine (wpAny_pure ?_ : wpAny _ _ (pure (Value.ref a, Value.str b u)) _ _ s)
  refine wpAny_bind (wpAny_isInstance (T := "str") (typeIs_str s b u) PySem.F.sub_str_dict ?_)
  wp_walk
  exact ⟨_, rfl, hq⟩
theorem dict_ne_str {a : Addr} (b : Str) (u : Tok) (ht : s.TypeIs (.ref a) "dict") {Q' : Value → Shared → Prop} (hq : Q' .notImplemented s) : wpAny (model P wd) A (call (.builtin "dict.__ne__") [.ref a, .str b u]) Q' E s := by
  refine wpAny_call_entry PySem.F.slot_dict_ne ht PySem.F.entry_dict_ne ?_ (PySem.F.args_dict_ne_2 _ _)
  refine wpAny_bind (?_ : wpAny _ _ (Builtin.Dict.dictSlotArgs "__ne__" ⟨[.ref a, .str b u], []⟩) _ _ s)
  unfold Builtin.Dict.dictSlotArgs
  refine wpAny_bind (wpAny_notOrdered_dict ht ?_)
  refine (wpAny_pure ?_ : wpAny _ _ (pure (Value.ref a, Value.str b u)) _ _ s)
  refine wpAny_bind (wpAny_isInstance (T := "str") (typeIs_str s b u) PySem.F.sub_str_dict ?_)
  wp_walk
  exact ⟨_, rfl, hq⟩
theorem cp_ds (neg : Bool) {K : Type} [DecidableEq K] {knd : KeyKind P wd K} {p : Addr} {ka : List (K × Value)} (b : Str) (u : Tok) (da : s.heap.DictOf knd p ka) (hu : A.units < cLine) (goal : Q (.bool (sg neg false)) s) : wpAny (model P wd) A (compareOp (cpO neg) (.ref p) (.str b u)) Q E s := by
  have ht := da.typeIs
  obtain ⟨⟨c, d, dt, sl⟩, es, ep, ho, hx, hd, _⟩ := id da
  simp only at hd
  subst hd
  cases neg with
  | false =>
    exact rc_eq_decline_or (k := false) ht (typeIs_str s b u) (by decide) F.sub_str_dict F.slot_dict_eq F.slot_str_eq_refl
      (fun _ hq => dict_eq_str b u ht hq)
      (fun _ hq => call_meets F.slot_str_eq_refl (typeIs_str s b u) F.entry_str_eq (F.args_str_eq_2 _ _) (str_eq_dict b u p c es ep d sl) ⟨ho, hq⟩)
      (fun _ hq => wpAny_of_eq (rfl : isSame (.ref p) (.str b u) = pure false) hq) (.inr hu) goal
  | true =>
    exact rc_ne_decline_or (k := false) ht (typeIs_str s b u) (by decide) F.sub_str_dict F.slot_dict_ne F.slot_str_ne_refl
      (fun _ hq => dict_ne_str b u ht hq)
      (fun _ hq => call_meets F.slot_str_ne_refl (typeIs_str s b u) F.entry_str_ne (F.args_str_ne_2 _ _) (str_ne_dict b u p c es ep d sl) ⟨ho, hq⟩)
      (fun _ hq => wpAny_of_eq (rfl : isSame (.ref p) (.str b u) = pure false) hq) (.inr hu) goal
theorem cp_sd (neg : Bool) {K : Type} [DecidableEq K] {knd : KeyKind P wd K} {p : Addr} {ka : List (K × Value)} (b : Str) (u : Tok) (da : s.heap.DictOf knd p ka) (hu : A.units < cLine) (goal : Q (.bool (sg neg false)) s) : wpAny (model P wd) A (compareOp (cpO neg) (.str b u) (.ref p)) Q E s := by
  have ht := da.typeIs
  obtain ⟨⟨c, d, dt, sl⟩, es, ep, ho, hx, hd, _⟩ := id da
  simp only at hd
  subst hd
  cases neg with
  | false =>
    exact rc_eq_decline_or (k := false) (typeIs_str s b u) ht (by decide) F.sub_dict_str F.slot_str_eq F.slot_dict_eq_refl
      (fun _ hq => call_meets F.slot_str_eq (typeIs_str s b u) F.entry_str_eq (F.args_str_eq_2 _ _) (str_eq_dict b u p c es ep d sl) ⟨ho, hq⟩)
      (fun _ hq => dict_eq_str b u ht hq)
      (fun _ hq => wpAny_of_eq (rfl : isSame (.str b u) (.ref p) = pure false) hq) (.inr hu) goal
  | true =>
    exact rc_ne_decline_or (k := false) (typeIs_str s b u) ht (by decide) F.sub_dict_str F.slot_str_ne F.slot_dict_ne_refl
      (fun _ hq => call_meets F.slot_str_ne (typeIs_str s b u) F.entry_str_ne (F.args_str_ne_2 _ _) (str_ne_dict b u p c es ep d sl) ⟨ho, hq⟩)
      (fun _ hq => dict_ne_str b u ht hq)
      (fun _ hq => wpAny_of_eq (rfl : isSame (.str b u) (.ref p) = pure false) hq) (.inr hu) goal
end
end BW

/-! The operators. -/
namespace BW
open PySem PySem.Spec L2

abbrev Fre (ok : Addr → Prop) (H : Hp) : Prop := ∀ a, H a = none → ok a
theorem Fre.same {ok : Addr → Prop} {H H' : Hp} (f : Fre ok H) (s : Same H H') : Fre ok H' := fun a e => f a (s.free e)
abbrev okn (ok : Addr → Prop) (fp : List Addr) : Addr → Prop := fun a => ok a ∧ a ∉ fp
/-- x is told -/
def Got (K : PySem.W.Frag) (H : Hp) (ok : Addr → Prop) (Q : VK) (x : PV) : Prop := ∀ H' v fp, Same H H' → Rp K H' (okn ok fp) x v fp → (∀ a ∈ fp, H a = none) → fp.Nodup → Q v H'
theorem same_upd {H : Hp} {p : Addr} {o : HO} (h : H p = none) : Same H (upd H p o) := fun b u q => by rw [upd_ne (ne_of_none q h)]; exact q
section
variable {K : PySem.W.Frag} {H : Hp} {ok : Addr → Prop} {Q : VK}
theorem Got.bl {b : Bool} (q : Got K H ok Q (.bl b)) : Q (.bl b) H := q _ _ [] (Same.refl _) (.bl b) (fun _ z => nomatch z) .nil
theorem Got.int {i : Int} (q : Got K H ok Q (.int i)) : Q (.int i) H := q _ _ [] (Same.refl _) (.int i) (fun _ z => nomatch z) .nil
theorem Got.str {i : Str} (q : Got K H ok Q (.str i)) (z : PyData.strOk i = true) : Q (.str i) H := q _ _ [] (Same.refl _) (.str i z) (fun _ z => nomatch z) .nil
theorem Got.non (q : Got K H ok Q .non) : Q .non H := q _ _ [] (Same.refl _) .non (fun _ z => nomatch z) .nil
/-- a new list -/
theorem Got.lst {xs : List PV} {vs : List V} (q : Got K H ok Q (.lst true xs)) (r : Rps K H ok xs vs []) {p : Addr} (hp : H p = none) : Q (.ref p) (upd H p (.lst vs)) :=
  q _ _ [p] (same_upd hp) (.lstO upd_same ((r.inD.imp fun a z => ⟨z.1, fun e => by
    obtain ⟨u, hu⟩ := z.2
    rw [List.mem_singleton.mp e, hp] at hu
    cases hu⟩).same (same_upd hp))) (fun a z => by rw [List.mem_singleton.mp z]; exact hp) (by simp)
theorem Got.tup {xs : List PV} {vs : List V} (q : Got K H ok Q (.tup xs)) (r : Rps K H ok xs vs []) {p : Addr} (hp : H p = none) : Q (.ref p) (upd H p (.tup vs)) :=
  q _ _ [] (same_upd hp) (.tup (.of upd_same) ((r.same (same_upd hp)).imp fun a z => ⟨z, (fun e => nomatch e)⟩)) (fun a z => nomatch z) .nil
/-- what stands already -/
theorem Got.old {x : PV} {v : V} (q : Got K H ok Q x) (r : Rp K H ok x v []) : Q v H := q _ _ [] (Same.refl _) (r.imp fun a z => ⟨z, (fun e => nomatch e)⟩) (fun a z => nomatch z) .nil
end
theorem strOk_app {a b : Str} (h : PyData.strOk a = true) (k : PyData.strOk b = true) : PyData.strOk (a ++ b) = true := by
  unfold PyData.strOk at *
  rw [Array.all_eq_true'] at *
  intro x hx
  have e : (a ++ b).cps = a.cps ++ b.cps := rfl
  rw [e] at hx
  rcases Array.mem_append.mp hx with z | z
  · exact h x z
  · exact k x z
def rOp (K : PySem.W.Frag) (g : PV → PV → Res PV) : R2 := fun v u H Q => ∃ ok x y z, Fre ok H ∧ Rp K H ok x v [] ∧ Rp K H ok y u [] ∧ g x y = .ok z ∧ Got K H ok Q z
def pyB : Bop → Operator
  | .add => .Add
  | .sub => .Sub
  | .mul => .Mult
  | .fdiv => .FloorDiv
  | .mod => .Mod
  | .pow => .Pow
  | .shl => .LShift
  | .shr => .RShift
  | .band => .BitAnd
  | .bor => .BitOr
  | .bxor => .BitXor
def pyC : Cop → CmpOp
  | .eq => .Eq
  | .ne => .NotEq
  | .lt => .Lt
  | .le => .LtE
  | .gt => .Gt
  | .ge => .GtE
  | .isN => .Is
  | .isnt => .IsNot
  | .isin => .In
  | .notin => .NotIn
theorem most_eq : most = sizeLine := by rw [sizeLine_eq]; rfl
theorem iteOk {α : Type} {c : Bool} {a z : α} (h : (if c = true then Res.ok a else .bad) = .ok z) : c = true ∧ a = z := by
  cases c with
  | false => rw [if_neg (by decide)] at h; cases h
  | true => rw [if_pos rfl] at h; cases h; exact ⟨rfl, rfl⟩
section
variable {X : Cx}
theorem bin_int (op : Bop) {pins : List (Addr × Obj)} {s : Shared} {σ : St} {H : Hp} {i j : Int} {vv uu : Value} {Q : VK} {z : PV} {ok : Addr → Prop} (I : Inv X pins σ H s) (rv : RelV (.int i) vv) (ru : RelV (.int j) uu)
    (e : binI op i j = .ok z) (q : Got X.K H ok Q z) : wpAny (model X.prog X.w) X.A (binaryOp (pyB op) vv uu) (EP X pins σ Q) X.xe s := by
  cases op with
  | add => cases e; exact op_add pins s σ H _ _ _ _ Q I rv ru ⟨i, j, rfl, rfl, q.int⟩
  | sub => cases e; exact op_sub pins s σ H _ _ _ _ Q I rv ru ⟨i, j, rfl, rfl, q.int⟩
  | mul =>
    obtain ⟨c, rfl⟩ := iteOk e
    refine op_mul pins s σ H _ _ _ _ Q I rv ru ⟨i, j, rfl, rfl, ?_, q.int⟩
    rw [Bool.or_eq_true, decide_eq_true_eq, decide_eq_true_eq] at c
    exact c
  | fdiv =>
    obtain ⟨c, rfl⟩ := iteOk e
    refine op_fdivW pins s σ H _ _ _ _ Q I rv ru ⟨i, j, rfl, rfl, ?_, q.int⟩
    rw [Bool.and_eq_true, decide_eq_true_eq, decide_eq_true_eq] at c
    exact wide_div (b := 128) c.1 (by have := c.2; omega) (by decide) (by decide)
  | mod =>
    obtain ⟨c, rfl⟩ := iteOk e
    exact op_mod pins s σ H _ _ _ _ Q I rv ru ⟨i, j, rfl, rfl, of_decide_eq_true c, q.int⟩
  | pow =>
    obtain ⟨c, rfl⟩ := iteOk e
    refine op_pow pins s σ H _ _ _ _ Q I rv ru ⟨i, j, rfl, rfl, ?_, q.int⟩
    rw [Bool.and_eq_true, decide_eq_true_eq, decide_eq_true_eq] at c
    exact ⟨c.1.1, c.1.2, c.2⟩
  | shl =>
    obtain ⟨c, rfl⟩ := iteOk e
    refine op_shl pins s σ H _ _ _ _ Q I rv ru ⟨i, j, rfl, rfl, ?_, q.int⟩
    rw [Bool.and_eq_true, decide_eq_true_eq, decide_eq_true_eq] at c
    exact ⟨c.1.1, c.1.2, c.2⟩
  | shr =>
    obtain ⟨c, rfl⟩ := iteOk e
    exact op_shr pins s σ H _ _ _ _ Q I rv ru ⟨i, j, rfl, rfl, of_decide_eq_true c, q.int⟩
  | band => cases e; exact op_and pins s σ H _ _ _ _ Q I rv ru ⟨i, j, rfl, rfl, q.int⟩
  | bor => cases e; exact op_or pins s σ H _ _ _ _ Q I rv ru ⟨i, j, rfl, rfl, q.int⟩
  | bxor => cases e; exact op_xor pins s σ H _ _ _ _ Q I rv ru ⟨i, j, rfl, rfl, q.int⟩
/-- a list's object -/
theorem rdL {pins : List (Addr × Obj)} {s : Shared} {σ : St} {H : Hp} {l : Addr} {xs : List V} (I : Inv X pins σ H s) (h : Rd H l (.lst xs)) :
    xs.length ≤ sizeLine ∧ ∃ (its : List Value) (n : Nat), Vals xs its ∧ xs.length = its.length ∧ s.heap.get? l = some { cls := .type "list", data := .seq its.toArray n } := by
  obtain ⟨z, its, n, r, e⟩ := h.ok I.hok
  exact ⟨z, its, n, r, r.length, e⟩
theorem catL {pins : List (Addr × Obj)} {s : Shared} {σ : St} {H : Hp} {l b : Addr} {xs zs : List V} {Q : VK} (I : Inv X pins σ H s) (h1 : Rd H l (.lst xs)) (h2 : Rd H b (.lst zs)) (hz : xs.length + zs.length ≤ sizeLine)
    (q : ∀ p, H p = none → Q (.ref p) (upd H p (.lst (xs ++ zs)))) : wpAny (model X.prog X.w) X.A (binaryOp .Add (.ref l) (.ref b)) (EP X pins σ Q) X.xe s := by
  obtain ⟨_, its, n, r, hl, e⟩ := rdL I h1
  obtain ⟨_, its2, n2, r2, hl2, e2⟩ := rdL I h2
  refine PySem.P.add_list e e2 ?_ (by rw [List.size_toArray, List.size_toArray]; omega)
  rw [show its.toArray ++ its2.toArray = (its ++ its2).toArray by simp]
  exact ⟨.ref _, _, I.lnew (t' := s.toks) (r.append r2) (by rw [List.length_append]; omega), rfl, q _ I.fresh⟩
theorem fold_rep (c : Array Nat) : ∀ (k : Nat) (acc : Array Nat), (List.replicate k c).foldl (· ++ ·) acc = (acc.toList ++ (List.replicate k c.toList).flatten).toArray
  | 0, acc => by simp
  | k + 1, acc => by
    rw [List.replicate_succ, List.foldl_cons, fold_rep c k, List.replicate_succ, List.flatten_cons]
    simp
theorem mul_rep (a : Str) (j : Int) : PySem.Txt.mul a j = repS a j := by
  unfold PySem.Txt.mul repS
  by_cases h1 : j < 1
  · rw [if_pos h1, show j.toNat = 0 by omega]
    rfl
  · rw [if_neg h1]
    split
    · rename_i hc
      rw [Bool.or_eq_true, beq_iff_eq, beq_iff_eq] at hc
      rcases hc with h | h
      · subst h
        simp
      · have e : a.cps.toList = [] := by
          have : a.cps.size = 0 := h
          simpa using this
        have e2 : (List.replicate j.toNat ([] : List Nat)).flatten = [] := by simp
        rw [e, e2]
        cases a with
        | mk cps => 
          have e3 : cps = #[] := by simpa using e
          rw [e3]
    · rw [fold_rep]
      simp
theorem strOk_rep {a : Str} {j : Int} (h : PyData.strOk a = true) : PyData.strOk (repS a j) = true := by
  unfold PyData.strOk repS at *
  rw [Array.all_eq_true'] at *
  intro x hx
  simp only [List.mem_toArray, List.mem_flatten, List.mem_replicate] at hx
  obtain ⟨l, ⟨_, rfl⟩, hl⟩ := hx
  exact h x (by simpa using hl)
theorem op_bin (op : Bop) : OpR X (binaryOp (pyB op)) (rOp X.K (binop op)) := by
  intro pins s σ H v u vv uu Q I rv ru h
  obtain ⟨ok, x, y, z, fr, hx, hy, e, q⟩ := h
  cases hx with
  | int i =>
    cases hy with
    | int j => exact bin_int op I rv ru e q
    | _ => cases e
  | str a za =>
    cases hy with
    | str b zb =>
      obtain ⟨c, rfl⟩ := iteOk e
      rw [Bool.and_eq_true, decide_eq_true_eq, decide_eq_true_eq, most_eq] at c
      obtain ⟨rfl, c⟩ := c
      exact op_add_str pins s σ H _ _ _ _ Q I rv ru ⟨a, b, rfl, rfl, c, q.str (strOk_app za zb)⟩
    | int j =>
      obtain ⟨c, rfl⟩ := iteOk e
      rw [Bool.and_eq_true, decide_eq_true_eq, decide_eq_true_eq] at c
      obtain ⟨rfl, c1, c2, c3⟩ := c
      obtain ⟨t, rfl⟩ := rv
      obtain ⟨t', rfl⟩ := ru
      refine PySem.SB.mul (PyProof.Rows.mulOk_of 4000 4000 c1 c3 (by omega) (by decide) (by decide)) fun t2 k => ?_
      rw [mul_rep]
      exact ⟨.str (repS a j), H, I.tok _, ⟨_, rfl⟩, q.str (strOk_rep za)⟩
    | _ => cases e
  | tup h1 r1 =>
    cases hy with
    | tup h2 r2 =>
      obtain ⟨c, rfl⟩ := iteOk e
      rw [Bool.and_eq_true, decide_eq_true_eq, decide_eq_true_eq, most_eq] at c
      obtain ⟨rfl, c⟩ := c
      have k1 := r1.frz (ok' := ok) (fun _ z => z) (fun _ z => nomatch z)
      have k2 := r2.frz (ok' := ok) (fun _ z => z) (fun _ z => nomatch z)
      rw [r1.len, r2.len] at c
      refine op_catA pins s σ H _ _ _ _ Q I rv ru ⟨_, _, _, _, rfl, rfl, h1, h2, c, fun e0 => ?_, fun _ e0 => ?_, fun _ _ p hp => q.tup (k1.app (g := []) k2) hp⟩
      · subst e0
        cases r1
        exact q.old (.tup h2 k2)
      · subst e0
        cases r2
        have k3 := k1.app (g := []) k2
        exact q.old (.tup h1 (by rw [List.append_nil] at k3; exact k3))
    | _ => cases e
  | lstF h1 o1 r1 =>
    cases hy with
    | lstF h2 o2 r2 =>
      obtain ⟨c, rfl⟩ := iteOk e
      rw [Bool.and_eq_true, decide_eq_true_eq, decide_eq_true_eq, most_eq] at c
      obtain ⟨rfl, c⟩ := c
      cases rv
      cases ru
      rw [r1.len, r2.len] at c
      exact catL I h1 h2 c fun p hp => q.lst ((r1.frz (fun _ z => z) (fun _ z => nomatch z)).app (g := []) (r2.frz (fun _ z => z) (fun _ z => nomatch z))) hp
    | _ => cases e
  | _ => cases e
mutual
theorem rp_dp {H : Hp} {K : PySem.W.Frag} {ok : Addr → Prop} : ∀ {n : Nat} {x : PV} {v : V}, Rp K H ok x v [] → okD n x = true → Dp K H v (toD x)
  | _, .non, _, h, _ => by cases h; exact .non
  | _, .bl b, _, h, _ => by cases h; exact .bl b
  | _, .int i, _, h, _ => by cases h; exact .int i
  | _, .str x, _, h, _ => by
    cases h with
    | str _ z => exact .str x
  | n + 1, .tup xs, _, h, o => by
    cases h with
    | tup hs r => exact .tup hs (rps_dp (n := n) r o)
  | n + 1, .lst false xs, _, h, o => by
    cases h with
    | lstF hs ho r => exact .lst (.inl hs) (rps_dp (n := n) r o)
  | n + 1, .lst true xs, _, h, o => by cases h
  | n + 1, .ftp xs, _, h, o => by
    cases h with
    | ftp hs r => exact .tup hs.sq (rps_dp (n := n) r o)
  | 0, .ftp xs, _, h, o => by cases o
  | 0, .tup xs, _, h, o => by cases o
  | 0, .lst _ xs, _, h, o => by cases o
  | 0, .dct _ _ _, _, h, o => by cases o
  | _ + 1, .dct _ _ _, _, h, o => by cases o
  | _, .exn _, _, h, _ => by cases h
  | 0, .scr _, _, h, o => by cases o
  | _ + 1, .scr _, _, h, o => by cases o
theorem rps_dp {H : Hp} {K : PySem.W.Frag} {ok : Addr → Prop} : ∀ {n : Nat} {xs : List PV} {vs : List V}, Rps K H ok xs vs [] → okDs n xs = true → DpAll K H vs (toDs xs)
  | _, [], _, h, _ => by cases h; exact .nil
  | n, x :: xs, _, h, o => by
    obtain ⟨v, vs', e, r, rs⟩ := h.inv0
    subst e
    have o' : (okD n x && okDs n xs) = true := o
    rw [Bool.and_eq_true] at o'
    exact .cons (rp_dp r o'.1) (rps_dp rs o'.2)
end
mutual
theorem rp_lay {H : Hp} {K : PySem.W.Frag} {ok : Addr → Prop} : ∀ {n : Nat} {x : PV} {v : V}, Rp K H ok x v [] → okD n x = true → (toD x).canLay0 = true ∧ (toD x).depth ≤ n
  | n, .non, _, h, _ => ⟨rfl, Nat.zero_le _⟩
  | n, .bl b, _, h, _ => ⟨rfl, Nat.zero_le _⟩
  | n, .int i, _, h, _ => ⟨rfl, Nat.zero_le _⟩
  | n, .str x, _, h, _ => by
    cases h with
    | str _ z => exact ⟨z, Nat.zero_le _⟩
  | n + 1, .tup xs, _, h, o => by
    cases h with
    | tup hs r =>
      have q := rps_lay (n := n) r o
      exact ⟨q.1, Nat.succ_le_succ q.2⟩
  | n + 1, .lst false xs, _, h, o => by
    cases h with
    | lstF hs ho r =>
      have q := rps_lay (n := n) r o
      exact ⟨q.1, Nat.succ_le_succ q.2⟩
  | n + 1, .lst true xs, _, h, o => by cases h
  | n + 1, .ftp xs, _, h, o => by
    cases h with
    | ftp hs r =>
      have q := rps_lay (n := n) r o
      exact ⟨q.1, Nat.succ_le_succ q.2⟩
  | 0, .ftp xs, _, h, o => by cases o
  | 0, .tup xs, _, h, o => by cases o
  | 0, .lst _ xs, _, h, o => by cases o
  | 0, .dct _ _ _, _, h, o => by cases o
  | _ + 1, .dct _ _ _, _, h, o => by cases o
  | _, .exn _, _, h, _ => by cases h
  | 0, .scr _, _, h, o => by cases o
  | _ + 1, .scr _, _, h, o => by cases o
theorem rps_lay {H : Hp} {K : PySem.W.Frag} {ok : Addr → Prop} : ∀ {n : Nat} {xs : List PV} {vs : List V}, Rps K H ok xs vs [] → okDs n xs = true → PyData.canLayAll0 (toDs xs) = true ∧ PyData.depthAll (toDs xs) ≤ n
  | _, [], _, h, _ => ⟨rfl, Nat.zero_le _⟩
  | n, x :: xs, _, h, o => by
    obtain ⟨v, vs', e, r, rs⟩ := h.inv0
    subst e
    have o' : (okD n x && okDs n xs) = true := o
    rw [Bool.and_eq_true] at o'
    have q1 := rp_lay r o'.1
    have q2 := rps_lay rs o'.2
    refine ⟨?_, Nat.max_le.mpr ⟨q1.2, q2.2⟩⟩
    show ((toD x).canLay0 && PyData.canLayAll0 (toDs xs)) = true
    rw [q1.1, q2.1]
    rfl
end
mutual
theorem okD_up1 : ∀ {n : Nat} {x : PV}, okD n x = true → okD (n + 1) x = true
  | n + 1, .tup xs, h => okDs_up1 (n := n) (xs := xs) h
  | n + 1, .lst _ xs, h => okDs_up1 (n := n) (xs := xs) h
  | n + 1, .ftp xs, h => okDs_up1 (n := n) (xs := xs) h
  | 0, .ftp xs, h => by cases h
  | 0, .tup xs, h => by cases h
  | 0, .lst _ xs, h => by cases h
  | n, .dct _ _ _, h => by cases n <;> cases h
  | n, .exn _, h => by cases n <;> cases h
  | n, .scr _, h => by cases n <;> cases h
  | _, .non, _ => rfl
  | _, .bl _, _ => rfl
  | _, .int _, _ => rfl
  | _, .str _, _ => rfl
theorem okDs_up1 : ∀ {n : Nat} {xs : List PV}, okDs n xs = true → okDs (n + 1) xs = true
  | n, [], h => by cases n <;> rfl
  | n, x :: xs, h => by
    have h : (okD n x && okDs n xs) = true := h
    rw [Bool.and_eq_true] at h
    show (okD (n + 1) x && okDs (n + 1) xs) = true
    rw [okD_up1 h.1, okDs_up1 h.2]
    rfl
end
theorem okD_up {x : PV} (h : okD 63 x = true) : okD 64 x = true := okD_up1 h
theorem rp_shaped {H : Hp} {K : PySem.W.Frag} {ok : Addr → Prop} {x : PV} {v : V} (h : Rp K H ok x v []) (o : okD 64 x = true) : SeqAt.shaped (toD x) = true := by
  have q := rp_lay h o
  unfold SeqAt.shaped
  rw [q.1, decide_eq_true q.2]
  rfl
theorem flat_V {K : PySem.W.Frag} {H : Hp} {ok : Addr → Prop} {x : PV} {v : V} (h : Rp K H ok x v []) (f : flat x = true) : flatV v = true := by
  cases h <;> first | rfl | (cases f; done)
theorem feq_V {K : PySem.W.Frag} {H : Hp} {ok : Addr → Prop} {x y : PV} {v u : V} (h : Rp K H ok x v []) (k : Rp K H ok y u []) (f : flat x = true) (g : flat y = true) : eqV v u = feq x y := by
  cases h <;> first | (cases f; done) | (cases k <;> first | (cases g; done) | rfl)
theorem flats_V {K : PySem.W.Frag} {H : Hp} {ok : Addr → Prop} {xs : List PV} {vs : List V} (h : Rps K H ok xs vs []) (f : xs.all flat = true) : vs.all flatV = true := by
  induction xs generalizing vs with
  | nil => cases h; rfl
  | cons x xs ih =>
    obtain ⟨v, vs', e, r, rs⟩ := h.inv0
    subst e
    rw [List.all_cons, Bool.and_eq_true] at f ⊢
    exact ⟨flat_V r f.1, ih rs f.2⟩
theorem fin_V {K : PySem.W.Frag} {H : Hp} {ok : Addr → Prop} {x : PV} {v : V} {xs : List PV} {vs : List V} (hx : Rp K H ok x v []) (g : flat x = true) (h : Rps K H ok xs vs []) (f : xs.all flat = true) : inV v vs = fin x xs := by
  induction xs generalizing vs with
  | nil => cases h; rfl
  | cons y ys ih =>
    obtain ⟨u, us, e, r, rs⟩ := h.inv0
    subst e
    rw [List.all_cons, Bool.and_eq_true] at f
    have q := ih rs f.2
    unfold inV fin at *
    rw [List.any_cons, List.any_cons, q, feq_V r hx f.1 g]
theorem dlook_val {K : PySem.W.Frag} {H : Hp} {ok : Addr → Prop} {j : DKey} : ∀ {ks : List DKey} {xs : List PV} {vs : List V}, Rps K H ok xs vs [] → ks.length = vs.length →
    (∀ x, dlook ks xs j = some x → ∃ v, valV (ks.zip vs) j = some v ∧ Rp K H ok x v []) ∧ (dlook ks xs j = none → valV (ks.zip vs) j = none)
  | [], xs, vs, r, hl => by
    cases vs with
    | nil => cases r; exact ⟨fun _ z => (nomatch z), fun _ => rfl⟩
    | cons _ _ => cases hl
  | k :: ks, [], vs, r, hl => by
    cases r
    cases hl
  | k :: ks, x :: xs, vs, r, hl => by
    obtain ⟨v, vs', e, r1, rs⟩ := r.inv0
    subst e
    have ih := dlook_val (j := j) rs (by simpa using hl)
    by_cases q : k = j
    · have e1 : dlook (k :: ks) (x :: xs) j = some x := if_pos q
      have e2 : valV ((k :: ks).zip (v :: vs')) j = some v := valV_pos (p := (k, v)) q
      rw [e1, e2]
      exact ⟨fun y z => by cases z; exact ⟨v, rfl, r1⟩, fun z => nomatch z⟩
    · have e1 : dlook (k :: ks) (x :: xs) j = dlook ks xs j := if_neg q
      have e2 : valV ((k :: ks).zip (v :: vs')) j = valV (ks.zip vs') j := valV_neg (p := (k, v)) q
      rw [e1, e2]
      exact ih
theorem dlook_some {K : PySem.W.Frag} {H : Hp} {ok : Addr → Prop} {j : DKey} {ks : List DKey} {xs : List PV} {vs : List V} (r : Rps K H ok xs vs []) (hl : ks.length = vs.length) : (dlook ks xs j).isSome = (valV (ks.zip vs) j).isSome := by
  have q := dlook_val (j := j) r hl
  cases e : dlook ks xs j with
  | none => rw [q.2 e] <;> rfl
  | some x =>
    obtain ⟨v, e2, _⟩ := q.1 x e
    rw [e2]
    rfl
theorem key_rp {K : PySem.W.Frag} {H : Hp} {ok : Addr → Prop} {x : PV} {v : V} {fp : List Addr} {j : DKey} (h : Rp K H ok x v fp) (e : keyV x = some j) : v = kV j ∧ fp = [] ∧ (∀ z, j = .inr z → PyData.strOk z = true) := by
  cases h <;> first | (cases e; done) | skip
  · cases e
    exact ⟨rfl, rfl, fun _ z => nomatch z⟩
  · cases e
    exact ⟨rfl, rfl, fun z e => by cases e; assumption⟩
theorem din_D {x : PV} : ∀ {ys : List PV}, ((toDs ys).any fun z => PyData.eqv z (toD x)) = din x ys
  | [] => rfl
  | y :: ys => by
    show (PyData.eqv (toD y) (toD x) || (toDs ys).any fun z => PyData.eqv z (toD x)) = (peq y x || din x ys)
    rw [din_D (ys := ys)]
    rfl
theorem op_inDt (hu : X.A.units + 65 < cLine) (neg : Bool) {pins : List (Addr × Obj)} {s : Shared} {σ : St} {H : Hp} {v u : V} {vv uu : Value} {Q : VK} {d : PyData} {ds : List PyData} (I : Inv X pins σ H s) (rx : RelV v vv) (ry : RelV u uu) (hd : Dp X.K H v d) (sd : SeqAt.shaped d = true) (se : PyData.canLayAll0 ds = true) (b : Bool) (eb : (ds.any fun z => PyData.eqv z d) = b)
    (he : Dp X.K H u (.list ds) ∨ Dp X.K H u (.tuple ds)) (q : Q (.bl (if neg then !b else b)) H) : wpAny (model X.prog X.w) X.A (compareOp (if neg then .NotIn else .In) vv uu) (EP X pins σ Q) X.xe s := by
  obtain ⟨as, r1⟩ := Dp.reads I d v vv hd rx
  subst eb
  rcases he with he | he
  · obtain ⟨bs, r2⟩ := Dp.reads I (.list ds) u uu he ry
    cases neg with
    | false => exact SeqAt.in_list_reads r2 r1 se (SeqAt.canLay_of_shaped sd) (PyProof.Rows.room_in_shaped sd hu) ⟨.bl _, H, I, rfl, q⟩
    | true => exact SeqAt.notIn_list_reads r2 r1 se (SeqAt.canLay_of_shaped sd) (PyProof.Rows.room_in_shaped sd hu) ⟨.bl _, H, I, rfl, q⟩
  · obtain ⟨bs, r2⟩ := Dp.reads I (.tuple ds) u uu he ry
    cases neg with
    | false => exact SeqAt.in_tuple_reads r2 r1 se (SeqAt.canLay_of_shaped sd) (PyProof.Rows.room_in_shaped sd hu) ⟨.bl _, H, I, rfl, q⟩
    | true => exact SeqAt.notIn_tuple_reads r2 r1 se (SeqAt.canLay_of_shaped sd) (PyProof.Rows.room_in_shaped sd hu) ⟨.bl _, H, I, rfl, q⟩
theorem op_in (hu : X.A.units + 65 < cLine) (neg : Bool) : OpR X (compareOp (if neg then .NotIn else .In)) (rOp X.K (inop neg)) := by
  intro pins s σ H v u vv uu Q I rv ru h
  obtain ⟨ok, x, y, z, fr, hx, hy, e, q⟩ := h
  have fin2 : ∀ (a : Addr) (ys : List PV) (us : List V), (SqL X.K H a us ∨ SqT X.K H a us) → Rps X.K H ok ys us [] → u = .ref a → (if (flat x && ys.all flat) = true then Res.ok (PV.bl (if neg then !fin x ys else fin x ys)) else if (okD 63 x && okDs 63 ys) = true then .ok (.bl (if neg then !din x ys else din x ys)) else .bad) = .ok z → (Dp X.K H u (.list (toDs ys)) ∨ Dp X.K H u (.tuple (toDs ys)) ∨ okDs 63 ys = false) →
      wpAny (model X.prog X.w) X.A (compareOp (if neg then .NotIn else .In) vv uu) (EP X pins σ Q) X.xe s := by
    intro a ys us hs hr eu e hD
    by_cases cf : (flat x && ys.all flat) = true
    case neg =>
      rw [if_neg cf] at e
      obtain ⟨c, rfl⟩ := iteOk e
      rw [Bool.and_eq_true] at c
      have sd : SeqAt.shaped (toD x) = true := rp_shaped hx (okD_up c.1)
      have se := (rps_lay hr c.2).1
      refine op_inDt hu neg I rv ru (rp_dp hx c.1) sd se (din x ys) din_D ?_ q.bl
      rcases hD with h | h | h
      · exact .inl h
      · exact .inr h
      · rw [h] at c
        cases c.2
    rw [if_pos cf] at e
    cases e
    have c := cf
    rw [Bool.and_eq_true] at c
    have w := fin_V hx c.1 hr c.2
    cases neg with
    | false => exact op_in_seq pins s σ H _ _ _ _ Q I rv ru ⟨a, us, eu, hs, flat_V hx c.1, flats_V hr c.2, by rw [w]; exact q.bl⟩
    | true => exact op_notIn_seq pins s σ H _ _ _ _ Q I rv ru ⟨a, us, eu, hs, flat_V hx c.1, flats_V hr c.2, by rw [w]; exact q.bl⟩
  cases hy with
  | tup hs r =>
    rename_i a ys us
    refine fin2 _ _ _ (.inr hs) r rfl e ?_
    cases k : okDs 63 ys with
    | false => exact .inr (.inr rfl)
    | true => exact .inr (.inl (.tup hs (rps_dp r k)))
  | ftp hs r =>
    rename_i a ys us
    refine fin2 _ _ _ (.inr hs.sq) r rfl e ?_
    cases k : okDs 63 ys with
    | false => exact .inr (.inr rfl)
    | true => exact .inr (.inl (.tup hs.sq (rps_dp r k)))
  | lstF hs o r =>
    rename_i a ys us
    refine fin2 _ _ _ (.inl (.inl hs)) r rfl e ?_
    cases k : okDs 63 ys with
    | false => exact .inr (.inr rfl)
    | true => exact .inl (.lst (.inl hs) (rps_dp r k))
  | dctF hs hz o r =>
    rename_i a ks xs vs
    have e : (match keyV x with
      | some j => Res.ok (PV.bl (if neg then !(dlook ks xs j).isSome else (dlook ks xs j).isSome))
      | none => .bad) = .ok z := e
    cases q2 : keyV x with
    | none => rw [q2] at e; cases e
    | some j =>
      rw [q2] at e
      cases e
      obtain ⟨ev, _, _⟩ := key_rp hx q2
      subst ev
      obtain rfl : uu = Value.ref a := ru
      have g : DGet H a (kV j) (valV (ks.zip vs) j) := .inl ⟨_, j, hs, rfl, rfl⟩
      rw [dlook_some r hz.1] at q
      cases neg with
      | false => exact d_in (by omega) I g rv fun s3 I3 => ⟨.bl _, H, I3, rfl, q.bl⟩
      | true => exact d_notIn (by omega) I g rv fun s3 I3 => ⟨.bl _, H, I3, rfl, q.bl⟩
  | str y zy =>
    cases hx with
    | str x zx =>
      have e : (match x.cps.toList with
        | [c] => Res.ok (PV.bl (if neg then !decide (c ∈ y.cps.toList) else decide (c ∈ y.cps.toList)))
        | _ => .bad) = .ok z := e
      cases q2 : x.cps.toList with
      | nil => rw [q2] at e; cases e
      | cons c l =>
        cases l with
        | cons _ _ => rw [q2] at e; cases e
        | nil =>
          rw [q2] at e
          cases e
          have ex : x = ⟨#[c]⟩ := by
            cases x with
            | mk a =>
              have : a = #[c] := by rw [← Array.toArray_toList (xs := a), show a.toList = [c] from q2]
              rw [this]
          subst ex
          cases neg with
          | false => exact op_in_sign pins s σ H _ _ _ _ Q I rv ru ⟨c, y, rfl, rfl, q.bl⟩
          | true => exact op_notIn_sign pins s σ H _ _ _ _ Q I rv ru ⟨c, y, rfl, rfl, q.bl⟩
    | _ => cases e
  | _ => cases e
theorem op_isntB {pins : List (Addr × Obj)} {s : Shared} {σ : St} {H : Hp} {a b : Bool} {Q : VK} (I : Inv X pins σ H s) (q : Q (.bl (a != b)) H) :
    wpAny (model X.prog X.w) X.A (compareOp .IsNot (.bool a) (.bool b)) (EP X pins σ Q) X.xe s := by
  have fin : EP X pins σ Q (.bool (a != b)) s := ⟨.bl _, H, I, rfl, q⟩
  cases a <;> cases b <;> exact wpAny_pure fin
theorem allO_at : ∀ {l : List (Option Bool)} {b : Bool}, allO l = some b → ∃ f : Nat → Bool, (∀ j, (h : j < l.length) → l[j] = some (f j)) ∧ b = (List.range l.length).all f
  | [], b, h => by
    cases h
    exact ⟨fun _ => true, fun j h => absurd h (Nat.not_lt_zero _), rfl⟩
  | none :: r, b, h => by cases h
  | some a :: r, b, h => by
    obtain ⟨c, h1, h2⟩ := Option.map_eq_some_iff.mp (show (allO r).map (fun c => a && c) = some b from h)
    obtain ⟨f, g1, g2⟩ := allO_at h1
    refine ⟨fun j => match j with | 0 => a | j + 1 => f j, fun j hj => ?_, ?_⟩
    · cases j with
      | zero => rfl
      | succ j => exact g1 j (by simpa using hj)
    · rw [← h2, g2, List.length_cons, List.range_succ_eq_map, List.all_cons, List.all_map]
      rfl
theorem peq_tree {pins : List (Addr × Obj)} {s : Shared} {σ : St} {H : Hp} {ok ok' : Addr → Prop} {x y : PV} {v u : V} {vv uu : Value} {n : Nat} (I : Inv X pins σ H s) (hx : Rp X.K H ok x v []) (hy : Rp X.K H ok' y u []) (rv : RelV v vv) (ru : RelV u uu) (e : eqok x y = true) :
    PySem.W.EqTree X.prog X.w s (64 + n) vv uu (peq x y) := by
  unfold eqok at e
  rw [Bool.and_eq_true] at e
  obtain ⟨as, r1⟩ := Dp.reads I (toD x) v vv (rp_dp hx e.1) rv
  obtain ⟨bs, r2⟩ := Dp.reads I (toD y) u uu (rp_dp hy e.2) ru
  have s1 := rp_shaped hx e.1
  have s2 := rp_shaped hy e.2
  exact .leaf fun A hu => SeqAt.eqAt_reads _ _ A s vv uu as bs r1 r2 (SeqAt.canLay_of_shaped s1) (SeqAt.canLay_of_shaped s2) (SeqAt.room_of_shaped s1 (by omega))
theorem zcong {f g : DKey → PV → Option Bool} : ∀ {ks : List DKey} {xs : List PV}, (∀ k ∈ ks, f k = g k) → List.zipWith f ks xs = List.zipWith g ks xs
  | [], xs, _ => by cases xs <;> rfl
  | k :: ks, [], _ => rfl
  | k :: ks, x :: xs, h => by
    rw [List.zipWith_cons_cons, List.zipWith_cons_cons, h k List.mem_cons_self, zcong fun j hj => h j (List.mem_cons_of_mem _ hj)]
theorem zl {n : Nat} : ∀ {ks : List DKey} {xs ys : List PV}, ks.Nodup → ks.length = ys.length → List.zipWith (fun k x => match dlook ks ys k with
      | some y => eqG n x y
      | none => some false) ks xs = List.zipWith (eqG n) xs ys
  | [], xs, ys, _, h => by
    cases ys with
    | nil => cases xs <;> rfl
    | cons _ _ => cases h
  | k :: ks, [], ys, _, _ => by cases ys <;> rfl
  | k :: ks, x :: xs, [], _, h => by cases h
  | k :: ks, x :: xs, y :: ys, nd, h => by
    obtain ⟨n1, n2⟩ := List.nodup_cons.mp nd
    rw [List.zipWith_cons_cons, List.zipWith_cons_cons]
    have e0 : dlook (k :: ks) (y :: ys) k = some y := if_pos rfl
    rw [e0, ← zl (n := n) (xs := xs) n2 (by simpa using h)]
    congr 1
    refine zcong fun j hj => ?_
    have e1 : dlook (k :: ks) (y :: ys) j = dlook ks ys j := if_neg fun e => n1 (by rw [e]; exact hj)
    rw [e1]
/-- one value, two readings: they are told to be equal -/
theorem eqG_same {pins : List (Addr × Obj)} {s : Shared} {σ : St} {H : Hp} {ok ok' : Addr → Prop} (I : Inv X pins σ H s) : ∀ (n : Nat) {x y : PV} {v u : V} {vv : Value} {b : Bool}, Rp X.K H ok x v [] → Rp X.K H ok' y u [] → RelV v vv → RelV u vv → eqG n x y = some b → b = true
  | 0, x, y, v, u, vv, b, hx, hy, rv, ru, e => by cases e
  | n + 1, x, y, v, u, vv, b, hx, hy, rv, ru, e => by
    unfold eqG at e
    by_cases q : eqok x y = true
    · rw [if_pos q] at e
      cases e
      unfold eqok at q
      rw [Bool.and_eq_true] at q
      obtain ⟨as, r1⟩ := Dp.reads I (toD x) v vv (rp_dp hx q.1) rv
      obtain ⟨bs, r2⟩ := Dp.reads I (toD y) u vv (rp_dp hy q.2) ru
      have c1 := SeqAt.canLay_of_shaped (rp_shaped hx q.1)
      unfold peq
      rw [← SeqAt.Reads.unique _ _ _ _ _ c1 r1 r2]
      exact SeqAt.eqv_refl _ c1
    · rw [if_neg q] at e
      have go : ∀ {xs ys : List PV} {vs us : List V} {its : List Value} {okx oky : Addr → Prop} {b : Bool}, Rps X.K H okx xs vs [] → Rps X.K H oky ys us [] → Vals vs its → Vals us its → allO (List.zipWith (eqG n) xs ys) = some b → b = true := by
        intro xs
        induction xs with
        | nil =>
          intro ys vs us its okx oky b r1 r2 _ _ e
          cases e
          rfl
        | cons x xs ih =>
          intro ys vs us its okx oky b r1 r2 w1 w2 e
          obtain ⟨v, vs', e1, p1, p2⟩ := r1.inv0
          subst e1
          cases w1 with
          | cons w1 w1' =>
            cases ys with
            | nil => cases e; rfl
            | cons y ys =>
              obtain ⟨u, us', e2, p3, p4⟩ := r2.inv0
              subst e2
              cases w2 with
              | cons w2 w2' =>
                have e : allO (eqG n x y :: List.zipWith (eqG n) xs ys) = some b := e
                cases h : eqG n x y with
                | none => rw [h] at e; cases e
                | some c =>
                  rw [h] at e
                  obtain ⟨d, h1, h2⟩ := Option.map_eq_some_iff.mp (show (allO (List.zipWith (eqG n) xs ys)).map (fun d => c && d) = some b from e)
                  have c1 := eqG_same I n p1 p3 w1 w2 h
                  have c2 := ih p2 p4 w1' w2' h1
                  rw [← h2, c1, c2]
                  rfl
      cases hx with
      | lstF h1 o1 r1 =>
        cases hy with
        | lstF h2 o2 r2 =>
          rename_i a xs vs a' ys us
          obtain rfl : vv = Value.ref a := rv
          cases ru
          have ev : vs = us := by
            rcases h1 with h1 | ⟨o, h1⟩ <;> rcases h2 with h2 | ⟨o', h2⟩ <;> (rw [h1] at h2; cases h2 <;> rfl)
          subst ev
          have hl : xs.length = ys.length := by rw [r1.len, r2.len]
          have e : (if xs.length = ys.length then allO (List.zipWith (eqG n) xs ys) else some false) = some b := e
          rw [if_pos hl] at e
          obtain ⟨its, rvs, _, _⟩ := I.list (.inl h1)
          exact go r1 r2 rvs rvs e
        | _ => cases e
      | tup h1 r1 =>
        cases hy with
        | tup h2 r2 =>
          rename_i a xs vs a' ys us
          obtain rfl : vv = Value.ref a := rv
          cases ru
          have ev := I.tuple_inj h1 h2
          subst ev
          obtain ⟨its, rvs, _, _⟩ := I.tuple h1
          obtain ⟨c, e1, e2⟩ := Option.map_eq_some_iff.mp (show (allO (List.zipWith (eqG n) xs ys)).map (fun b => b && decide (xs.length = ys.length)) = some b from e)
          rw [← e2, go r1 r2 rvs rvs e1, decide_eq_true (by rw [r1.len, r2.len])]
          rfl
        | _ => cases e
      | dctF h1 z1 o1 r1 =>
        cases hy with
        | dctF h2 z2 o2 r2 =>
          rename_i a ks xs vs a' ls ys us
          obtain rfl : vv = Value.ref a := rv
          cases ru
          have ez : ks.zip vs = ls.zip us := dk_inj h1 h2
          have ek : ks = ls := by
            have := congrArg (fun l => l.map (·.1)) ez
            simpa [List.map_fst_zip, z1.1, z2.1] using this
          have ev : vs = us := by
            have := congrArg (fun l => l.map (·.2)) ez
            simpa [List.map_snd_zip, z1.1, z2.1] using this
          subst ek ev
          obtain ⟨_, _, its, rkv, _⟩ := dk_rd I.hok h1
          have nd : ks.Nodup := by
            have := z1.2
            unfold ksB at this
            rw [Bool.and_eq_true, decide_eq_true_eq] at this
            exact this.2
          obtain ⟨ws, rws⟩ : ∃ ws, Vals vs ws := by
            have gen : ∀ {ks : List DKey} {vs : List V} {its : List (DKey × Value)}, ks.length = vs.length → KV (ks.zip vs) its → ∃ ws, Vals vs ws := by
              intro ks
              induction ks with
              | nil => intro vs its h _; cases vs with | nil => exact ⟨[], .nil⟩ | cons _ _ => cases h
              | cons k ks ih =>
                intro vs its h r
                cases vs with
                | nil => cases h
                | cons v vs =>
                  cases r with
                  | cons r1 r2 =>
                    obtain ⟨ws, q⟩ := ih (by simpa using h) r2
                    exact ⟨_ :: ws, .cons r1.2 q⟩
            exact gen z1.1 rkv
          obtain ⟨c, e1, e2⟩ := Option.map_eq_some_iff.mp (show (allO (List.zipWith (fun k x => match dlook ks ys k with
            | some y => eqG n x y
            | none => some false) ks xs)).map (fun b => decide (ks.length = ks.length) && b) = some b from e)
          rw [zl nd (by rw [z1.1, r2.len])] at e1
          rw [← e2, go r1 r2 rws rws e1, decide_eq_true rfl]
          rfl
        | _ => cases e
      | _ => cases hy <;> cases e
theorem zipW_at {n : Nat} {xs ys : List PV} {f : Nat → Bool} (h : ∀ j, (h : j < (List.zipWith (eqG n) xs ys).length) → (List.zipWith (eqG n) xs ys)[j] = some (f j)) {j : Nat} (h1 : j < xs.length) (h2 : j < ys.length) : eqG n xs[j] ys[j] = some (f j) := by
  have := h j (by rw [List.length_zipWith]; omega)
  rwa [List.getElem_zipWith] at this
theorem rp_pick {K : PySem.W.Frag} {H : Hp} {ok : Addr → Prop} {xs : List PV} {vs : List V} {its : List Value} (r : Rps K H ok xs vs []) (w : Vals vs its) {j : Nat} (h1 : j < its.length) (h2 : j < xs.length) : ∃ v, Rp K H ok xs[j] v [] ∧ RelV v its[j] := by
  obtain ⟨v, e1, e2⟩ := r.get (List.getElem?_eq_getElem h2)
  obtain ⟨u, e3, e4⟩ := w.get e1
  rw [List.getElem?_eq_getElem h1] at e3
  cases e3
  exact ⟨v, e2, e4⟩
theorem all_cong {α : Type} {f g : α → Bool} : ∀ {l : List α}, (∀ x ∈ l, f x = g x) → l.all f = l.all g
  | [], _ => rfl
  | x :: l, h => by rw [List.all_cons, List.all_cons, h x List.mem_cons_self, all_cong fun y hy => h y (List.mem_cons_of_mem _ hy)]
theorem all_keys {ka : List (DKey × Value)} {ks : List DKey} (ke : ka.map (·.1) = ks) (h : DKey → Bool) : (ka.all fun p => h p.1) = ks.all h := by
  subst ke
  rw [List.all_map]
  rfl
theorem ksB_nd {ks : List DKey} (h : ksB ks = true) : ks.Nodup := by
  unfold ksB at h
  rw [Bool.and_eq_true, decide_eq_true_eq] at h
  exact h.2
theorem al {F : DKey → PV → Option Bool} : ∀ {ks : List DKey} {xs : List PV} {c : Bool}, ks.Nodup → ks.length = xs.length → allO (List.zipWith F ks xs) = some c →
    (∀ k ∈ ks, ∃ x d, dlook ks xs k = some x ∧ F k x = some d) ∧ c = ks.all fun k => match dlook ks xs k with
      | some x => (F k x).getD true
      | none => true
  | [], xs, c, _, _, h => by
    cases h
    exact ⟨fun _ z => (nomatch z), rfl⟩
  | k :: ks, [], c, _, h, _ => by cases h
  | k :: ks, x :: xs, c, nd, hl, h => by
    obtain ⟨n1, n2⟩ := List.nodup_cons.mp nd
    rw [List.zipWith_cons_cons] at h
    cases hf : F k x with
    | none => rw [hf] at h; cases h
    | some d =>
      rw [hf] at h
      obtain ⟨c', h1, h2⟩ := Option.map_eq_some_iff.mp (show (allO (List.zipWith F ks xs)).map (fun c => d && c) = some c from h)
      obtain ⟨g1, g2⟩ := al n2 (by simpa using hl) h1
      have e0 : dlook (k :: ks) (x :: xs) k = some x := if_pos rfl
      have e1 : ∀ j ∈ ks, dlook (k :: ks) (x :: xs) j = dlook ks xs j := fun j hj => if_neg fun e => n1 (by rw [e]; exact hj)
      refine ⟨fun j hj => ?_, ?_⟩
      · rcases List.mem_cons.mp hj with e | hj
        · rw [e]
          exact ⟨x, d, e0, hf⟩
        · rw [e1 j hj]
          exact g1 j hj
      · rw [← h2, g2, List.all_cons, e0]
        simp only [hf]
        congr 1
        exact all_cong fun j hj => by rw [e1 j hj]
/-- == goes through it -/
theorem eqG_tree {pins : List (Addr × Obj)} {s : Shared} {σ : St} {H : Hp} {ok ok' : Addr → Prop} (I : Inv X pins σ H s) : ∀ (n : Nat) {x y : PV} {v u : V} {vv uu : Value} {b : Bool}, Rp X.K H ok x v [] → Rp X.K H ok' y u [] → RelV v vv → RelV u uu → eqG n x y = some b →
    PySem.W.EqTree X.prog X.w s (64 + n) vv uu b
  | 0, x, y, v, u, vv, uu, b, hx, hy, rv, ru, e => by cases e
  | n + 1, x, y, v, u, vv, uu, b, hx, hy, rv, ru, e => by
    have e0 := e
    unfold eqG at e
    by_cases q : eqok x y = true
    · rw [if_pos q] at e
      cases e
      exact peq_tree I hx hy rv ru q
    · rw [if_neg q] at e
      have hx0 := hx
      have hy0 := hy
      cases hx with
      | lstF h1 o1 r1 =>
        cases hy with
        | lstF h2 o2 r2 =>
          rename_i a xs vs a' ys us
          obtain rfl : vv = Value.ref a := rv
          obtain rfl : uu = Value.ref a' := ru
          by_cases ha : a = a'
          · subst ha
            rw [eqG_same I (n + 1) hx0 hy0 rfl rfl e0]
            exact .same
          · obtain ⟨its, w1, p1, _⟩ := I.list (.inl h1)
            obtain ⟨its2, w2, p2, _⟩ := I.list (.inl h2)
            have l1 : xs.length = its.length := by rw [r1.len, w1.length]
            have l2 : ys.length = its2.length := by rw [r2.len, w2.length]
            have e : (if xs.length = ys.length then allO (List.zipWith (eqG n) xs ys) else some false) = some b := e
            by_cases hl : xs.length = ys.length
            · rw [if_pos hl] at e
              obtain ⟨f, g1, g2⟩ := allO_at e
              have hs : (List.zipWith (eqG n) xs ys).length = its.toArray.size := by
                rw [List.length_zipWith, List.size_toArray]
                omega
              rw [g2, hs]
              refine .lists ha p1.isList p2.isList (by rw [List.size_toArray, List.size_toArray]; omega) fun j h1 h2 => ?_
              rw [List.size_toArray] at h1 h2
              obtain ⟨v1, k1, k2⟩ := rp_pick r1 w1 (j := j) h1 (by omega)
              obtain ⟨v2, k3, k4⟩ := rp_pick r2 w2 (j := j) h2 (by omega)
              exact eqG_tree I n k1 k3 k2 k4 (zipW_at g1 (by omega) (by omega))
            · rw [if_neg hl] at e
              cases e
              exact .listsLen ha p1.isList p2.isList (by rw [List.size_toArray, List.size_toArray, bne_iff_ne]; omega)
        | _ => cases e
      | tup h1 r1 =>
        cases hy with
        | tup h2 r2 =>
          rename_i a xs vs a' ys us
          obtain rfl : vv = Value.ref a := rv
          obtain rfl : uu = Value.ref a' := ru
          by_cases ha : a = a'
          · subst ha
            rw [eqG_same I (n + 1) hx0 hy0 rfl rfl e0]
            exact .same
          · obtain ⟨its, w1, p1, _⟩ := I.tuple h1
            obtain ⟨its2, w2, p2, _⟩ := I.tuple h2
            have l1 : xs.length = its.length := by rw [r1.len, w1.length]
            have l2 : ys.length = its2.length := by rw [r2.len, w2.length]
            obtain ⟨c, e1, e2⟩ := Option.map_eq_some_iff.mp (show (allO (List.zipWith (eqG n) xs ys)).map (fun b => b && decide (xs.length = ys.length)) = some b from e)
            obtain ⟨f, g1, g2⟩ := allO_at e1
            have hs : (List.zipWith (eqG n) xs ys).length = min its.toArray.size its2.toArray.size := by
              rw [List.length_zipWith, List.size_toArray, List.size_toArray]
              omega
            have hd : decide (xs.length = ys.length) = (its.toArray.size == its2.toArray.size) := by
              rw [Bool.eq_iff_iff, decide_eq_true_eq, beq_iff_eq, List.size_toArray, List.size_toArray, l1, l2]
            rw [← e2, g2, hs, hd]
            refine .tuples ha p1 p2 fun j h1 h2 => ?_
            rw [List.size_toArray] at h1 h2
            obtain ⟨v1, k1, k2⟩ := rp_pick r1 w1 (j := j) h1 (by omega)
            obtain ⟨v2, k3, k4⟩ := rp_pick r2 w2 (j := j) h2 (by omega)
            exact eqG_tree I n k1 k3 k2 k4 (zipW_at g1 (by omega) (by omega))
        | _ => cases e
      | dctF h1 z1 o1 r1 =>
        cases hy with
        | dctF h2 z2 o2 r2 =>
          rename_i a ks xs vs a' ls ys us
          obtain rfl : vv = Value.ref a := rv
          obtain rfl : uu = Value.ref a' := ru
          by_cases ha : a = a'
          · subst ha
            rw [eqG_same I (n + 1) hx0 hy0 rfl rfl e0]
            exact .same
          · obtain ⟨_, s1, ka, rka, da⟩ := dk_rd I.hok h1
            obtain ⟨_, s2, kb, rkb, db⟩ := dk_rd I.hok h2
            obtain ⟨c, e1, e2⟩ := Option.map_eq_some_iff.mp (show (allO (List.zipWith (fun k x => match dlook ls ys k with
              | some y => eqG n x y
              | none => some false) ks xs)).map (fun b => decide (ks.length = ls.length) && b) = some b from e)
            have nd : ks.Nodup := ksB_nd z1.2
            have hxl : ks.length = xs.length := by rw [z1.1, r1.len]
            obtain ⟨g1, g2⟩ := al (F := fun k x => match dlook ls ys k with
              | some y => eqG n x y
              | none => some false) nd hxl e1
            have kl1 : ka.length = ks.length := by
              have := rka.length
              rw [List.length_zip] at this
              omega
            have kl2 : kb.length = ls.length := by
              have := rkb.length
              have := z2.1
              rw [List.length_zip] at *
              omega
            have ke : ka.map (·.1) = ks := by
              rw [← rka.keys, List.map_fst_zip (by rw [z1.1] <;> exact Nat.le_refl _)]
            have hb : ∀ k, (valueAt kb k).isSome = (dlook ls ys k).isSome := fun k => by
              rw [← (rkb.val k).isSome_eq, dlook_some r2 z2.1]
            have eK : ∃ eK : DKey → Bool, eK = fun k => ((match dlook ks xs k with
              | some x => (match dlook ls ys k with
                | some y => eqG n x y
                | none => some false)
              | none => none).getD true) := ⟨_, rfl⟩
            obtain ⟨eK, hK⟩ := eK
            have fin : b = (ka.length == kb.length && ka.all fun p => (valueAt kb p.1).isSome && eK p.1) := by
              have h1 : decide (ks.length = ls.length) = (ks.length == ls.length) := by
                rw [Bool.eq_iff_iff, decide_eq_true_eq, beq_iff_eq]
              rw [← e2, g2, kl1, kl2, h1, all_keys ke (fun k => (valueAt kb k).isSome && eK k)]
              congr 1
              refine all_cong fun k hk => ?_
              obtain ⟨x, d, q1, q2⟩ := g1 k hk
              rw [hb k, hK]
              simp only [q1]
              cases q3 : dlook ls ys k with
              | none => rfl
              | some y => rfl
            rw [fin]
            refine .dicts (e := eK) ha s1 s2 da db fun k v y hm hv => ?_
            have hk : k ∈ ks := by
              rw [← ke]
              exact List.mem_map_of_mem hm
            obtain ⟨x, d, q1, q2⟩ := g1 k hk
            have vk : valueAt ka k = some v := valueAt_of_mem (by rw [ke]; exact nd) hm
            obtain ⟨w1, p1, p2⟩ := (dlook_val (j := k) r1 z1.1).1 x q1
            have t1 := rka.val k
            rw [p1, vk] at t1
            have t2 := rkb.val k
            rw [hv] at t2
            cases q3 : dlook ls ys k with
            | none =>
              have := hb k
              rw [hv, q3] at this
              cases this
            | some y' =>
              obtain ⟨w2, p3, p4⟩ := (dlook_val (j := k) r2 z2.1).1 y' q3
              rw [p3] at t2
              have q4 : eqG n x y' = some d := by
                simpa only [q3] using q2
              have q5 : eK k = d := by
                rw [hK]
                simp only [q1, q3, q4]
                rfl
              rw [q5]
              exact eqG_tree I n p2 p4 t1 t2 q4
        | _ => cases e
      | _ => cases hy <;> cases e
theorem op_eqG (neg : Bool) {pins : List (Addr × Obj)} {s : Shared} {σ : St} {H : Hp} {ok ok' : Addr → Prop} {Q : VK} (hu : X.A.units + 80 < cLine) (I : Inv X pins σ H s) {n : Nat} {x y : PV} {v u : V} {vv uu : Value} {b : Bool} (hn : n < 12) (hx : Rp X.K H ok x v []) (hy : Rp X.K H ok' y u []) (rv : RelV v vv) (ru : RelV u uu) (hq : ¬ eqok x y = true) (e : eqG (n + 1) x y = some b) (q : Q (.bl (sg neg b)) H) :
    wpAny (model X.prog X.w) X.A (compareOp (cpO neg) vv uu) (EP X pins σ Q) X.xe s := by
  unfold eqG at e
  rw [if_neg hq] at e
  cases hx with
  | lstF h1 o1 r1 =>
    cases hy with
    | lstF h2 o2 r2 =>
      rename_i a xs vs a' ys us
      obtain rfl : vv = Value.ref a := rv
      obtain rfl : uu = Value.ref a' := ru
      · obtain ⟨its, w1, p1, _⟩ := I.list (.inl h1)
        obtain ⟨its2, w2, p2, _⟩ := I.list (.inl h2)
        have l1 : xs.length = its.length := by rw [r1.len, w1.length]
        have l2 : ys.length = its2.length := by rw [r2.len, w2.length]
        have e : (if xs.length = ys.length then allO (List.zipWith (eqG n) xs ys) else some false) = some b := e
        by_cases hl : xs.length = ys.length
        · rw [if_pos hl] at e
          obtain ⟨f, g1, g2⟩ := allO_at e
          have hs : (List.zipWith (eqG n) xs ys).length = its.toArray.size := by
            rw [List.length_zipWith, List.size_toArray]
            omega
          rw [g2, hs] at q
          refine cp_lists neg (n := 64 + n) p1.isList p2.isList (by rw [List.size_toArray, List.size_toArray]; omega) (fun j h1 h2 => ?_) (by omega) ⟨.bl _, H, I, rfl, q⟩
          rw [List.size_toArray] at h1 h2
          obtain ⟨v1, k1, k2⟩ := rp_pick r1 w1 (j := j) h1 (by omega)
          obtain ⟨v2, k3, k4⟩ := rp_pick r2 w2 (j := j) h2 (by omega)
          exact eqG_tree I n k1 k3 k2 k4 (zipW_at g1 (by omega) (by omega))
        · rw [if_neg hl] at e
          cases e
          exact cp_len neg p1.isList p2.isList (by rw [List.size_toArray, List.size_toArray, bne_iff_ne]; omega) (by omega) ⟨.bl _, H, I, rfl, q⟩
    | _ => cases e
  | tup h1 r1 =>
    cases hy with
    | tup h2 r2 =>
      rename_i a xs vs a' ys us
      obtain rfl : vv = Value.ref a := rv
      obtain rfl : uu = Value.ref a' := ru
      · obtain ⟨its, w1, p1, _⟩ := I.tuple h1
        obtain ⟨its2, w2, p2, _⟩ := I.tuple h2
        have l1 : xs.length = its.length := by rw [r1.len, w1.length]
        have l2 : ys.length = its2.length := by rw [r2.len, w2.length]
        obtain ⟨c, e1, e2⟩ := Option.map_eq_some_iff.mp (show (allO (List.zipWith (eqG n) xs ys)).map (fun b => b && decide (xs.length = ys.length)) = some b from e)
        obtain ⟨f, g1, g2⟩ := allO_at e1
        have hs : (List.zipWith (eqG n) xs ys).length = min its.toArray.size its2.toArray.size := by
          rw [List.length_zipWith, List.size_toArray, List.size_toArray]
          omega
        have hd : decide (xs.length = ys.length) = (its.toArray.size == its2.toArray.size) := by
          rw [Bool.eq_iff_iff, decide_eq_true_eq, beq_iff_eq, List.size_toArray, List.size_toArray, l1, l2]
        rw [← e2, g2, hs, hd] at q
        refine cp_tuples neg (n := 64 + n) p1 p2 (fun j h1 h2 => ?_) (by omega) ⟨.bl _, H, I, rfl, q⟩
        rw [List.size_toArray] at h1 h2
        obtain ⟨v1, k1, k2⟩ := rp_pick r1 w1 (j := j) h1 (by omega)
        obtain ⟨v2, k3, k4⟩ := rp_pick r2 w2 (j := j) h2 (by omega)
        exact eqG_tree I n k1 k3 k2 k4 (zipW_at g1 (by omega) (by omega))
    | _ => cases e
  | dctF h1 z1 o1 r1 =>
    cases hy with
    | dctF h2 z2 o2 r2 =>
      rename_i a ks xs vs a' ls ys us
      obtain rfl : vv = Value.ref a := rv
      obtain rfl : uu = Value.ref a' := ru
      · obtain ⟨_, s1, ka, rka, da⟩ := dk_rd I.hok h1
        obtain ⟨_, s2, kb, rkb, db⟩ := dk_rd I.hok h2
        obtain ⟨c, e1, e2⟩ := Option.map_eq_some_iff.mp (show (allO (List.zipWith (fun k x => match dlook ls ys k with
          | some y => eqG n x y
          | none => some false) ks xs)).map (fun b => decide (ks.length = ls.length) && b) = some b from e)
        have nd : ks.Nodup := ksB_nd z1.2
        have hxl : ks.length = xs.length := by rw [z1.1, r1.len]
        obtain ⟨g1, g2⟩ := al (F := fun k x => match dlook ls ys k with
          | some y => eqG n x y
          | none => some false) nd hxl e1
        have kl1 : ka.length = ks.length := by
          have := rka.length
          rw [List.length_zip] at this
          omega
        have kl2 : kb.length = ls.length := by
          have := rkb.length
          have := z2.1
          rw [List.length_zip] at *
          omega
        have ke : ka.map (·.1) = ks := by
          rw [← rka.keys, List.map_fst_zip (by rw [z1.1] <;> exact Nat.le_refl _)]
        have hb : ∀ k, (valueAt kb k).isSome = (dlook ls ys k).isSome := fun k => by
          rw [← (rkb.val k).isSome_eq, dlook_some r2 z2.1]
        have eK : ∃ eK : DKey → Bool, eK = fun k => ((match dlook ks xs k with
          | some x => (match dlook ls ys k with
            | some y => eqG n x y
            | none => some false)
          | none => none).getD true) := ⟨_, rfl⟩
        obtain ⟨eK, hK⟩ := eK
        have fin : b = (ka.length == kb.length && ka.all fun p => (valueAt kb p.1).isSome && eK p.1) := by
          have h1 : decide (ks.length = ls.length) = (ks.length == ls.length) := by
            rw [Bool.eq_iff_iff, decide_eq_true_eq, beq_iff_eq]
          rw [← e2, g2, kl1, kl2, h1, all_keys ke (fun k => (valueAt kb k).isSome && eK k)]
          congr 1
          refine all_cong fun k hk => ?_
          obtain ⟨x, d, q1, q2⟩ := g1 k hk
          rw [hb k, hK]
          simp only [q1]
          cases q3 : dlook ls ys k with
          | none => rfl
          | some y => rfl
        rw [fin] at q
        refine cp_dicts neg (n := 64 + n) (f := eK) s1 s2 da db (fun k v y hm hv => ?_) (by omega) ⟨.bl _, H, I, rfl, q⟩
        have hk : k ∈ ks := by
          rw [← ke]
          exact List.mem_map_of_mem hm
        obtain ⟨x, d, q1, q2⟩ := g1 k hk
        have vk : valueAt ka k = some v := valueAt_of_mem (by rw [ke]; exact nd) hm
        obtain ⟨w1, p1, p2⟩ := (dlook_val (j := k) r1 z1.1).1 x q1
        have t1 := rka.val k
        rw [p1, vk] at t1
        have t2 := rkb.val k
        rw [hv] at t2
        cases q3 : dlook ls ys k with
        | none =>
          have := hb k
          rw [hv, q3] at this
          cases this
        | some y' =>
          obtain ⟨w2, p3, p4⟩ := (dlook_val (j := k) r2 z2.1).1 y' q3
          rw [p3] at t2
          have q4 : eqG n x y' = some d := by
            simpa only [q3] using q2
          have q5 : eK k = d := by
            rw [hK]
            simp only [q1, q3, q4]
            rfl
          rw [q5]
          exact eqG_tree I n p2 p4 t1 t2 q4
    | _ => cases e
  | _ => cases hy <;> cases e
theorem op_dif (neg : Bool) {pins : List (Addr × Obj)} {s : Shared} {σ : St} {H : Hp} {ok ok' : Addr → Prop} {Q : VK} (hu : X.A.units + 80 < cLine) (I : Inv X pins σ H s) {x y : PV} {v u : V} {vv uu : Value} (hx : Rp X.K H ok x v []) (hy : Rp X.K H ok' y u []) (rv : RelV v vv) (ru : RelV u uu) (e : dif x y = true) (q : Q (.bl (sg neg false)) H) :
    wpAny (model X.prog X.w) X.A (compareOp (cpO neg) vv uu) (EP X pins σ Q) X.xe s := by
  cases hx with
  | dctF h1 z1 o1 r1 =>
    cases hy with
    | str z hz =>
      rename_i a ks xs vs
      obtain rfl : vv = Value.ref a := rv
      obtain ⟨t, rfl⟩ := ru
      obtain ⟨_, s1, ka, rka, da⟩ := dk_rd I.hok h1
      exact cp_ds neg z t da (by omega) ⟨.bl _, H, I, rfl, q⟩
    | _ => cases e
  | str z hz =>
    cases hy with
    | dctF h1 z1 o1 r1 =>
      rename_i a ks xs vs
      obtain rfl : uu = Value.ref a := ru
      obtain ⟨t, rfl⟩ := rv
      obtain ⟨_, s1, ka, rka, da⟩ := dk_rd I.hok h1
      exact cp_sd neg z t da (by omega) ⟨.bl _, H, I, rfl, q⟩
    | _ => cases e
  | _ => cases hy <;> cases e
theorem op_cmp (hu0 : X.A.units + 80 < cLine) (op : Cop) : OpR X (compareOp (pyC op)) (rOp X.K (cmpop op)) := by
  intro pins s σ H v u vv uu Q I rv ru h
  have hu : X.A.units + 64 < cLine := by omega
  cases op with
  | isin => exact op_in (by omega) false pins s σ H v u vv uu Q I rv ru h
  | notin => exact op_in (by omega) true pins s σ H v u vv uu Q I rv ru h
  | eq =>
    obtain ⟨ok, x, y, z, fr, hx, hy, e, q⟩ := h
    have e : (if eqok x y = true then Res.ok (PV.bl (peq x y)) else (match eqG 8 x y with | some b => .ok (.bl b) | none => if dif x y = true then .ok (.bl false) else .bad)) = .ok z := e
    by_cases c : eqok x y = true
    case neg =>
      rw [if_neg c] at e
      cases h : eqG 8 x y with
      | none =>
        rw [h] at e
        have e : (if dif x y = true then Res.ok (PV.bl false) else .bad) = .ok z := e
        by_cases c2 : dif x y = true
        · rw [if_pos c2] at e
          cases e
          exact op_dif false hu0 I hx hy rv ru c2 q.bl
        · rw [if_neg c2] at e
          cases e
      | some b =>
        rw [h] at e
        cases e
        exact op_eqG false hu0 I (n := 7) (by decide) hx hy rv ru c h q.bl
    rw [if_pos c] at e
    cases e
    unfold eqok at c
    rw [Bool.and_eq_true] at c
    exact op_eqD hu pins s σ H _ _ _ _ Q I rv ru ⟨toD x, toD y, rp_dp hx c.1, rp_dp hy c.2, rp_shaped hx c.1, rp_shaped hy c.2, q.bl⟩
  | ne =>
    obtain ⟨ok, x, y, z, fr, hx, hy, e, q⟩ := h
    have e : (if eqok x y = true then Res.ok (PV.bl (!peq x y)) else (match eqG 8 x y with | some b => .ok (.bl (!b)) | none => if dif x y = true then .ok (.bl true) else .bad)) = .ok z := e
    by_cases c : eqok x y = true
    case neg =>
      rw [if_neg c] at e
      cases h : eqG 8 x y with
      | none =>
        rw [h] at e
        have e : (if dif x y = true then Res.ok (PV.bl true) else .bad) = .ok z := e
        by_cases c2 : dif x y = true
        · rw [if_pos c2] at e
          cases e
          exact op_dif true hu0 I hx hy rv ru c2 q.bl
        · rw [if_neg c2] at e
          cases e
      | some b =>
        rw [h] at e
        cases e
        exact op_eqG true hu0 I (n := 7) (by decide) hx hy rv ru c h q.bl
    rw [if_pos c] at e
    cases e
    unfold eqok at c
    rw [Bool.and_eq_true] at c
    exact op_neD hu pins s σ H _ _ _ _ Q I rv ru ⟨toD x, toD y, rp_dp hx c.1, rp_dp hy c.2, rp_shaped hx c.1, rp_shaped hy c.2, q.bl⟩
  | lt =>
    obtain ⟨ok, x, y, z, fr, hx, hy, e, q⟩ := h
    cases hx <;> first | cases e | (cases hy <;> first | cases e | skip)
    exact op_lt pins s σ H _ _ _ _ Q I rv ru ⟨_, _, rfl, rfl, q.bl⟩
  | le =>
    obtain ⟨ok, x, y, z, fr, hx, hy, e, q⟩ := h
    cases hx <;> first | cases e | (cases hy <;> first | cases e | skip)
    exact op_le pins s σ H _ _ _ _ Q I rv ru ⟨_, _, rfl, rfl, q.bl⟩
  | gt =>
    obtain ⟨ok, x, y, z, fr, hx, hy, e, q⟩ := h
    cases hx <;> first | cases e | (cases hy <;> first | cases e | skip)
    exact op_gt pins s σ H _ _ _ _ Q I rv ru ⟨_, _, rfl, rfl, q.bl⟩
  | ge =>
    obtain ⟨ok, x, y, z, fr, hx, hy, e, q⟩ := h
    cases hx <;> first | cases e | (cases hy <;> first | cases e | skip)
    exact op_ge pins s σ H _ _ _ _ Q I rv ru ⟨_, _, rfl, rfl, q.bl⟩
  | isN =>
    obtain ⟨ok, x, y, z, fr, hx, hy, e, q⟩ := h
    cases hy <;> first | cases e | skip
    refine op_isN pins s σ H _ _ _ _ Q I rv ru ⟨rfl, ?_⟩
    cases hx <;> exact q.bl
  | isnt =>
    obtain ⟨ok, x, y, z, fr, hx, hy, e, q⟩ := h
    cases hy <;> first | cases e | skip
    · refine op_notN pins s σ H _ _ _ _ Q I rv ru ⟨rfl, ?_⟩
      cases hx <;> exact q.bl
    · cases hx <;> first | cases e | skip
      cases rv
      cases ru
      exact op_isntB I q.bl
end
end BW

/-! Dicts in the two readings: a key set, pairs put in. -/
namespace BW
open PySem PySem.Spec PyProof.Rows
open L2 hiding St
theorem Rps.appA {K : PySem.W.Frag} {H : Hp} {ok : Addr → Prop} {xs ys : List PV} {vs us : List V} {f g : List Addr} (h : Rps K H ok xs vs f) (k : Rps K H ok ys us g) : Rps K H ok (xs ++ ys) (vs ++ us) (f ++ g) := h.app k
theorem dset_not {j : DKey} {y : PV} : ∀ {ks : List DKey} {xs : List PV}, j ∉ ks → dset ks xs j y = xs
  | [], xs, _ => by cases xs <;> rfl
  | k :: ks, [], _ => rfl
  | k :: ks, x :: xs, h => by
    show (if k = j then y else x) :: dset ks xs j y = _
    rw [if_neg fun e => h (by rw [e]; exact List.mem_cons_self), dset_not fun z => h (List.mem_cons_of_mem _ z)]
theorem zmap_not {j : DKey} {v : V} : ∀ {ks : List DKey} {us : List V}, j ∉ ks → (ks.zip us).map (fun kv => if kv.1 = j then (kv.1, v) else kv) = ks.zip us
  | [], us, _ => rfl
  | k :: ks, [], _ => rfl
  | k :: ks, u :: us, h => by
    show (if k = j then (k, v) else (k, u)) :: (ks.zip us).map _ = (k, u) :: ks.zip us
    rw [if_neg fun e => h (by rw [e]; exact List.mem_cons_self), zmap_not fun z => h (List.mem_cons_of_mem _ z)]
theorem dset_rep {K : PySem.W.Frag} {H : Hp} {ok : Addr → Prop} {j : DKey} {y : PV} {v : V} {fp : List Addr} (ry : Rp K H ok y v fp) : ∀ {ks : List DKey} {xs : List PV} {us : List V} {fq : List Addr}, Rps K H ok xs us fq → ks.length = us.length → ks.Nodup → j ∈ ks →
    ∃ us' fq', (ks.zip us).map (fun kv => if kv.1 = j then (kv.1, v) else kv) = ks.zip us' ∧ ks.length = us'.length ∧ Rps K H ok (dset ks xs j y) us' fq' ∧ (∀ b ∈ fq', b ∈ fq ∨ b ∈ fp) ∧ (fq.Nodup → fp.Nodup → (∀ b ∈ fp, b ∉ fq) → fq'.Nodup)
  | [], _, _, _, _, _, _, h => by cases h
  | k :: ks, [], us, fq, r, hl, _, _ => by
    cases r
    cases hl
  | k :: ks, x :: xs, us, fq, r, hl, nd, h => by
    obtain ⟨u, us', f, fs, e1, e2, r1, rs⟩ := r.inv
    subst e1 e2
    obtain ⟨n1, n2⟩ := List.nodup_cons.mp nd
    have hl' : ks.length = us'.length := by simpa using hl
    by_cases q : k = j
    · subst q
      refine ⟨v :: us', fp ++ fs, ?_, by simp [hl'], ?_, fun b z => (List.mem_append.mp z).elim .inr fun z => .inl (List.mem_append_right _ z), fun a b c => ?_⟩
      · show (if k = k then (k, v) else (k, u)) :: (ks.zip us').map _ = (k, v) :: ks.zip us'
        rw [if_pos rfl, zmap_not n1]
      · show Rps K H ok ((if k = k then y else x) :: dset ks xs k y) _ _
        rw [if_pos rfl, dset_not n1]
        exact .cons ry rs
      · exact List.nodup_append.mpr ⟨b, (List.nodup_append.mp a).2.1, fun x h1 z h2 e => c x h1 (by rw [e]; exact List.mem_append_right _ h2)⟩
    · have hj : j ∈ ks := (List.mem_cons.mp h).elim (fun e => absurd e.symm q) fun z => z
      obtain ⟨us2, fq2, g1, g2, g3, g4, g5⟩ := dset_rep ry rs hl' n2 hj
      refine ⟨u :: us2, f ++ fq2, ?_, by simp [g2], ?_, fun b z => ?_, fun a b c => ?_⟩
      · show (if k = j then (k, v) else (k, u)) :: (ks.zip us').map _ = (k, u) :: ks.zip us2
        rw [if_neg q, g1]
      · show Rps K H ok ((if k = j then y else x) :: dset ks xs j y) _ _
        rw [if_neg q]
        exact .cons r1 g3
      · rcases List.mem_append.mp z with z | z
        · exact .inl (List.mem_append_left _ z)
        · exact (g4 b z).imp (fun z => List.mem_append_right _ z) fun z => z
      · obtain ⟨a1, a2, a3⟩ := List.nodup_append.mp a
        refine List.nodup_append.mpr ⟨a1, g5 a2 b fun x hx hz => c x hx (List.mem_append_right _ hz), fun x h1 z h2 e => ?_⟩
        subst e
        rcases g4 x h2 with z | z
        · exact a3 x h1 x z rfl
        · exact c x z (List.mem_append_left _ h1)
theorem dlook_mem {j : DKey} : ∀ {ks : List DKey} {xs : List PV}, ks.length = xs.length → ((dlook ks xs j).isSome = true ↔ j ∈ ks)
  | [], xs, _ => by
    cases xs <;> exact ⟨fun z => (nomatch z), fun z => nomatch z⟩
  | k :: ks, [], h => by cases h
  | k :: ks, x :: xs, h => by
    by_cases q : k = j
    · have e : dlook (k :: ks) (x :: xs) j = some x := if_pos q
      rw [e, q]
      exact ⟨fun _ => List.mem_cons_self, fun _ => rfl⟩
    · have e : dlook (k :: ks) (x :: xs) j = dlook ks xs j := if_neg q
      rw [e, dlook_mem (by simpa using h)]
      exact ⟨fun z => List.mem_cons_of_mem _ z, fun z => (List.mem_cons.mp z).elim (fun e => absurd e.symm q) fun z => z⟩
theorem zip_snoc {α β : Type} {a : α} {b : β} : ∀ {xs : List α} {ys : List β}, xs.length = ys.length → (xs ++ [a]).zip (ys ++ [b]) = xs.zip ys ++ [(a, b)]
  | [], [], _ => rfl
  | x :: xs, y :: ys, h => by
    show (x, y) :: (xs ++ [a]).zip (ys ++ [b]) = _
    rw [zip_snoc (by simpa using h)]
    rfl
  | [], _ :: _, h => by cases h
  | _ :: _, [], h => by cases h
/-- a key is set: the two readings -/
theorem put_rep {K : PySem.W.Frag} {H : Hp} {ok : Addr → Prop} {j : DKey} {y : PV} {v : V} {fp fq : List Addr} {ks : List DKey} {xs : List PV} {us : List V} (ry : Rp K H ok y v fp) (rx : Rps K H ok xs us fq) (hz : ks.length = us.length ∧ ksB ks = true) (hk : kB j = true) :
    ∃ us' fq', putK (ks.zip us) j v = (putD ks xs j y).1.zip us' ∧ ((putD ks xs j y).1.length = us'.length ∧ ksB (putD ks xs j y).1 = true) ∧ Rps K H ok (putD ks xs j y).2 us' fq' ∧ (∀ b ∈ fq', b ∈ fq ∨ b ∈ fp) ∧ (fq.Nodup → fp.Nodup → (∀ b ∈ fp, b ∉ fq) → fq'.Nodup) := by
  have hx : ks.length = xs.length := by rw [hz.1, rx.len]
  have hb := hz.2
  unfold ksB at hb
  rw [Bool.and_eq_true, decide_eq_true_eq] at hb
  have hs := dlook_some (j := j) (K := K) (H := H) (ok := fun a => ok a ∨ a ∈ fq) (ks := ks) (xs := frzs xs) (vs := us) (rx.frz (fun _ z => .inl z) fun _ z => .inr z) hz.1
  have hsome : (valV (ks.zip us) j).isSome = true ↔ j ∈ ks := by
    rw [← hs]
    exact dlook_mem (by rw [hz.1, ← (rx.frz (ok' := fun a => ok a ∨ a ∈ fq) (fun _ z => .inl z) fun _ z => .inr z).len])
  by_cases q : j ∈ ks
  · have e : putD ks xs j y = (ks, dset ks xs j y) := if_pos ((dlook_mem hx).mpr q)
    obtain ⟨us', fq', g1, g2, g3, g4, g5⟩ := dset_rep (j := j) ry rx hz.1 hb.2 q
    rw [e]
    refine ⟨us', fq', ?_, ⟨g2, hz.2⟩, g3, g4, g5⟩
    unfold putK
    rw [valV_any, if_pos (hsome.mpr q)]
    exact g1
  · have e : putD ks xs j y = (ks ++ [j], xs ++ [y]) := if_neg fun z => q ((dlook_mem hx).mp z)
    rw [e]
    refine ⟨us ++ [v], fq ++ (fp ++ []), ?_, ⟨by simp [hz.1], ?_⟩, rx.app (.cons ry .nil), fun b z => ?_, fun a b c => ?_⟩
    · rw [putK_new v (by
        cases e2 : valV (ks.zip us) j with
        | none => rfl
        | some w => exact absurd (hsome.mp (by rw [e2]; rfl)) q)]
      exact (zip_snoc hz.1).symm
    · unfold ksB
      rw [Bool.and_eq_true, decide_eq_true_eq, List.all_append, hb.1]
      refine ⟨by rw [List.all_cons, hk]; rfl, List.nodup_append.mpr ⟨hb.2, by simp, fun x h1 z h2 e => q (by rw [← List.mem_singleton.mp h2, ← e]; exact h1)⟩⟩
    · rw [List.append_nil] at z
      exact List.mem_append.mp z
    · rw [List.append_nil]
      exact List.nodup_append.mpr ⟨a, b, fun x h1 z h2 e => c z h2 (by rw [← e]; exact h1)⟩
theorem kB_of {K : PySem.W.Frag} {H : Hp} {ok : Addr → Prop} {x : PV} {v : V} {fp : List Addr} {j : DKey} (h : Rp K H ok x v fp) (e : keyV x = some j) : kB j = true := by
  have q := (key_rp h e).2.2
  cases j with
  | inl i => rfl
  | inr z => exact q z rfl
theorem mrg_rep {K : PySem.W.Frag} {H : Hp} {ok : Addr → Prop} : ∀ {ls : List DKey} {ys : List PV} {ws : List V} {ks : List DKey} {xs : List PV} {us : List V} {fq : List Addr}, Rps K H ok ys ws [] → ls.all kB = true → ls.length = ws.length → Rps K H ok xs us fq → (ks.length = us.length ∧ ksB ks = true) → fq.Nodup →
    ∃ us' fq', mergeK (ks.zip us) (ls.zip ws) = (mrg ks xs ls ys).1.zip us' ∧ ((mrg ks xs ls ys).1.length = us'.length ∧ ksB (mrg ks xs ls ys).1 = true) ∧ Rps K H ok (mrg ks xs ls ys).2 us' fq' ∧ (∀ b ∈ fq', b ∈ fq) ∧ fq'.Nodup
  | [], ys, ws, ks, xs, us, fq, ry, hk, hl, rx, hz, nd => by
    have e : mrg ks xs [] ys = (ks, xs) := by cases ys <;> rfl
    rw [e]
    exact ⟨us, fq, rfl, hz, rx, fun _ z => z, nd⟩
  | l :: ls, [], ws, ks, xs, us, fq, ry, hk, hl, rx, hz, nd => by
    cases ry
    cases hl
  | l :: ls, y :: ys, ws, ks, xs, us, fq, ry, hk, hl, rx, hz, nd => by
    obtain ⟨v, vs, rfl, r1, rs⟩ := ry.inv0
    rw [List.all_cons, Bool.and_eq_true] at hk
    obtain ⟨us1, fq1, g1, g2, g3, g4, g5⟩ := put_rep (j := l) r1 rx hz hk.1
    obtain ⟨us', fq', k1, k2, k3, k4, k5⟩ := mrg_rep rs hk.2 (by simpa using hl) g3 g2 (g5 nd .nil fun _ z => nomatch z)
    refine ⟨us', fq', ?_, k2, k3, (fun b hb => (g4 b (k4 b hb)).elim (fun z => z) fun z => nomatch z), k5⟩
    show mergeK (putK (ks.zip us) l v) (ls.zip vs) = _
    rw [g1]
    exact k1
/-- pairs, one by one -/
theorem prs_rep {K : PySem.W.Frag} {H : Hp} {ok : Addr → Prop} : ∀ {xs : List PV} {vs : List V} {p : List DKey × List PV}, prsV xs = some p → Rps K H ok xs vs [] → ∃ (ps : List Addr) (ws : List V), vs = ps.map V.ref ∧ Paired (fun q kv => SqT K H q [kV kv.1, kv.2]) ps (p.1.zip ws) ∧ p.1.length = ws.length ∧ p.1.all kB = true ∧ Rps K H ok p.2 ws []
  | [], vs, p, e, r => by
    cases r
    cases e
    exact ⟨[], [], rfl, .nil, rfl, rfl, .nil⟩
  | x :: xs, vs, p, e, r => by
    obtain ⟨v, vs', rfl, r1, rs⟩ := r.inv0
    cases r1 with
    | @tup a ys us fp hs ry =>
      match ys, e, ry with
      | [k, y], e, ry =>
        have e : ((keyV k).bind fun j => (prsV xs).map fun p => (j :: p.1, frz y :: p.2)) = some p := e
        obtain ⟨j, hj, e⟩ := Option.bind_eq_some_iff.mp e
        obtain ⟨p', hp', rfl⟩ := Option.map_eq_some_iff.mp e
        obtain ⟨ps, ws, rfl, h1, h2, h3, h4⟩ := prs_rep hp' rs
        obtain ⟨u, us', rfl, q1, q2⟩ := ry.inv0
        obtain ⟨u2, us2, rfl, q3, q4⟩ := q2.inv0
        cases q4
        obtain ⟨rfl, _, _⟩ := key_rp q1 hj
        exact ⟨a :: ps, u2 :: ws, rfl, .cons hs h1, by simp [h2], by rw [List.all_cons, kB_of q1 hj, h3]; rfl, .cons0 (q3.frz (fun _ z => z) fun _ z => nomatch z) h4⟩
      | [], e, _ => cases e
      | [_], e, _ => cases e
      | _ :: _ :: _ :: _, e, _ => cases e
    | _ => cases e
end BW

/-! Expressions. -/
namespace BW
open PySem PySem.Spec L2

/-! ### builtins, subscripts, slices by values -/
def rUn (K : PySem.W.Frag) (g : List PV → Res PV) : List V → Hp → VK → Prop := fun vs H Q => ∃ ok xs z, Fre ok H ∧ Rps K H ok xs vs [] ∧ g xs = .ok z ∧ Got K H ok Q z
theorem atI_map {xs : List PV} {vs : List V} {K : PySem.W.Frag} {H : Hp} {ok : Addr → Prop} (h : Rps K H ok xs vs []) {i : Int} {x : PV} (e : atI xs i = some x) : ∃ v, atI vs i = some v ∧ Rp K H ok x v [] := by
  unfold atI at e ⊢
  rw [← h.len]
  cases q : ixN xs.length i with
  | none => rw [q] at e; cases e
  | some j =>
    rw [q] at e
    exact h.get e
section
variable {X : Cx}
theorem rps_int {K : PySem.W.Frag} {H : Hp} {ok : Addr → Prop} : ∀ is : List Int, Rps K H ok (is.map PV.int) (is.map V.int) []
  | [] => .nil
  | i :: is => .cons0 (.int i) (rps_int is)
theorem strOk_one {x : Str} {c : Nat} (z : PyData.strOk x = true) (h : c ∈ x.cps.toList) : PyData.strOk ⟨#[c]⟩ = true := by
  unfold PyData.strOk at *
  rw [Array.all_eq_true'] at *
  intro d hd
  rw [List.mem_singleton.mp (Array.mem_def.mp hd)]
  exact z c (Array.mem_def.mpr h)
theorem strOk_cut {x : Str} (z : PyData.strOk x = true) (lo hi : Option Int) : PyData.strOk (cutS x lo hi) = true := by
  unfold PyData.strOk at *
  rw [Array.all_eq_true'] at *
  intro d hd
  have hd : d ∈ (x.cps.toList.drop (HT.sIx x.length 0 lo)).take (HT.sIx x.length x.length hi - HT.sIx x.length 0 lo) := by
    have := Array.mem_def.mp hd
    simpa [cutS] using this
  exact z d (Array.mem_def.mpr (List.mem_of_mem_drop (List.mem_of_mem_take hd)))
theorem ix_op (hu : X.A.units + 1 < cLine) : IxR X (rOp X.K idxop) := by
  intro value slice pins s σ H x y v u Q I rx ry h hs'
  obtain ⟨ok, px, py, z, fr, hx, hy, e, q⟩ := h
  cases hx with
  | tup ht r =>
    cases hy with
    | int i =>
      rename_i a xs vs
      have e : (match atI xs i with | some v => Res.ok (frz v) | none => .bad) = .ok z := e
      cases q2 : atI xs i with
      | none => rw [q2] at e; cases e
      | some w =>
        rw [q2] at e
        cases e
        obtain ⟨w', h1, h2⟩ := atI_map r q2
        exact ix_tup value slice pins s σ H _ _ v u Q I rx ry ⟨a, vs, i, w', rfl, rfl, ht, h1, q.old (h2.frz (fun _ z => z) fun _ z => nomatch z)⟩ hs'
    | _ => cases e
  | ftp ht0 r =>
    have ht := ht0.sq (K := X.K)
    cases hy with
    | int i =>
      rename_i a xs vs
      have e : (match atI xs i with | some v => Res.ok (frz v) | none => .bad) = .ok z := e
      cases q2 : atI xs i with
      | none => rw [q2] at e; cases e
      | some w =>
        rw [q2] at e
        cases e
        obtain ⟨w', h1, h2⟩ := atI_map r q2
        exact ix_tup value slice pins s σ H _ _ v u Q I rx ry ⟨a, vs, i, w', rfl, rfl, ht, h1, q.old (h2.frz (fun _ z => z) fun _ z => nomatch z)⟩ hs'
    | _ => cases e
  | lstF ht o r =>
    cases hy with
    | int i =>
      rename_i a xs vs
      have e : (match atI xs i with | some v => Res.ok (frz v) | none => .bad) = .ok z := e
      cases q2 : atI xs i with
      | none => rw [q2] at e; cases e
      | some w =>
        rw [q2] at e
        cases e
        obtain ⟨w', h1, h2⟩ := atI_map r q2
        exact ix_list value slice pins s σ H _ _ v u Q I rx ry ⟨a, vs, i, w', rfl, rfl, .inl ht, h1, q.old (h2.frz (fun _ z => z) fun _ z => nomatch z)⟩ hs'
    | _ => cases e
  | scr hs =>
    cases hy with
    | int i =>
      rename_i a is
      have e : (match atI (is.map PV.int) i with | some v => Res.ok (frz v) | none => .bad) = .ok z := e
      cases q2 : atI (is.map PV.int) i with
      | none => rw [q2] at e; cases e
      | some w =>
        rw [q2] at e
        cases e
        obtain ⟨w', h1, h2⟩ := atI_map (rps_int (K := X.K) (H := H) (ok := ok) is) q2
        exact ix_list value slice pins s σ H _ _ v u Q I rx ry ⟨a, _, i, w', rfl, rfl, hs.seq, h1, q.old (h2.frz (fun _ z => z) fun _ z => nomatch z)⟩ hs'
    | _ => cases e
  | dctF ht hz o r =>
    rename_i a ks xs vs
    have e : (match keyV py with
      | some j => (match dlook ks xs j with | some v => Res.ok (frz v) | none => .bad)
      | none => .bad) = .ok z := e
    cases q2 : keyV py with
    | none => rw [q2] at e; cases e
    | some j =>
      rw [q2] at e
      obtain ⟨ev, _, _⟩ := key_rp hy q2
      subst ev
      cases q3 : dlook ks xs j with
      | none =>
        simp only [q3] at e
        cases e
      | some w =>
        simp only [q3] at e
        cases e
        obtain ⟨w', h1, h2⟩ := (dlook_val (j := j) r hz.1).1 w q3
        obtain rfl : v = Value.ref a := rx
        have g : DGet H a (kV j) (some w') := .inl ⟨_, j, ht, rfl, h1.symm⟩
        exact PyProof.Rows.tail_any (dict_typeIs I g) PySem.F.slot_dict_getitem.lookup (d_getItem hu I g ry fun w2 s3 I3 rw2 => ⟨w', H, I3, rw2, q.old (h2.frz (fun _ z => z) fun _ z => nomatch z)⟩) hs'
  | str x zx =>
    cases hy with
    | int i =>
      have e : (match atI x.cps.toList i with | some c => if decide (x.length ≤ most) = true then Res.ok (PV.str ⟨#[c]⟩) else .bad | none => .bad) = .ok z := e
      cases q2 : atI x.cps.toList i with
      | none => rw [q2] at e; cases e
      | some w =>
        rw [q2] at e
        obtain ⟨c, rfl⟩ := iteOk e
        rw [decide_eq_true_eq, most_eq] at c
        refine ix_str value slice pins s σ H _ _ v u Q I rx ry ⟨x, i, w, rfl, rfl, c, q2, q.str ?_⟩ hs'
        obtain ⟨j, _, hj, _⟩ := atI_get q2
        exact strOk_one zx (List.mem_of_getElem? hj)
    | _ => cases e
  | _ => cases e
def rSl (K : PySem.W.Frag) : V → Option Int → Option Int → Hp → VK → Prop := fun v lo hi H Q => ∃ ok x z, Fre ok H ∧ Rp K H ok x v [] ∧ slcop x lo hi = .ok z ∧ Got K H ok Q z
theorem sl_op : SlR X (rSl X.K) := by
  intro pins s σ H x v vl vu lo hi sl Q I rx hs pl pu h
  obtain ⟨ok, px, z, fr, hx, e, q⟩ := h
  cases hx with
  | lstF ht o r =>
    cases e
    refine sl_list pins s σ H _ v vl vu lo hi sl Q I rx hs pl pu ⟨_, _, rfl, .inl ht, fun p hp => ?_⟩
    refine q.lst (Rps.frz (ok := ok) (fp := []) ?_ (fun _ z => z) fun _ z => nomatch z) hp
    unfold cutP
    rw [r.len]
    exact (r.drop _).take _
  | scr hs' =>
    rename_i a is
    have r : Rps X.K H ok (is.map PV.int) (is.map V.int) [] := rps_int is
    cases e
    refine sl_list pins s σ H _ v vl vu lo hi sl Q I rx hs pl pu ⟨_, _, rfl, hs'.seq, fun p hp => ?_⟩
    refine q.lst (Rps.frz (ok := ok) (fp := []) ?_ (fun _ z => z) fun _ z => nomatch z) hp
    unfold cutP
    rw [r.len]
    exact (r.drop _).take _
  | tup ht r =>
    rename_i a xs vs
    have r2 : Rps X.K H ok (frzs (cutP xs lo hi)) (cutV vs lo hi) [] := by
      refine Rps.frz (ok := ok) (fp := []) ?_ (fun _ z => z) fun _ z => nomatch z
      unfold cutP cutV
      rw [r.len]
      exact (r.drop _).take _
    cases e
    refine sl_tupA pins s σ H _ v vl vu lo hi sl Q I rx hs pl pu ⟨_, _, rfl, ht, fun hw => ?_, fun _ p hp => q.tup r2 hp⟩
    refine q.old (.tup ht ?_)
    have e2 : cutV vs lo hi = vs := by
      unfold cutV
      rw [hw.1, hw.2, List.drop_zero, Nat.sub_zero, List.take_length]
    rw [e2] at r2
    exact r2
  | ftp ht0 r =>
    rename_i a xs vs
    have ht := ht0.sq (K := X.K)
    have r2 : Rps X.K H ok (frzs (cutP xs lo hi)) (cutV vs lo hi) [] := by
      refine Rps.frz (ok := ok) (fp := []) ?_ (fun _ z => z) fun _ z => nomatch z
      unfold cutP cutV
      rw [r.len]
      exact (r.drop _).take _
    cases e
    refine sl_tupA pins s σ H _ v vl vu lo hi sl Q I rx hs pl pu ⟨_, _, rfl, ht, fun hw => ?_, fun _ p hp => q.tup r2 hp⟩
    refine q.old (.tup ht ?_)
    have e2 : cutV vs lo hi = vs := by
      unfold cutV
      rw [hw.1, hw.2, List.drop_zero, Nat.sub_zero, List.take_length]
    rw [e2] at r2
    exact r2
  | str x zx =>
    obtain ⟨c, rfl⟩ := iteOk (show (if decide (x.length ≤ most) = true then Res.ok (PV.str (cutS x lo hi)) else .bad) = .ok z from e)
    rw [decide_eq_true_eq, most_eq] at c
    exact sl_str pins s σ H _ v vl vu lo hi sl Q I rx hs pl pu ⟨x, rfl, c, q.str (strOk_cut zx lo hi)⟩
  | _ => cases e

/-- a tuple made of a list, with its object -/
theorem call_ftp : CallR X (.type "tuple") (fun xs H Q => ∃ p ys, xs = [.ref p] ∧ SqL X.K H p ys ∧ ∀ l, H l = none → ∀ o : Obj, o.dict = none → Q (.ref l) (upd H l (.frz o (.tup ys)))) := by
  intro pins s σ H xs us Q I r h
  obtain ⟨p, ys, rfl, hq, q⟩ := h
  obtain ⟨u, rfl, rx⟩ := vals1 r
  cases rx
  obtain ⟨its, r', pl, hz⟩ := I.list hq
  have hlen := r'.length
  refine PySem.call_tuple_list pl.isList (fun h' kp => ?_) (by simp only [List.size_toArray] <;> omega)
  have I1 : Inv X pins σ H { s with heap := h' } := I.kept (t' := s.toks) kp
  have I2 : Inv X pins σ (upd H h'.objs.size (.frz { cls := .type "tuple", data := .seq its.toArray } (.tup ys))) { s with heap := h'.push { cls := .type "tuple", data := .seq its.toArray } } :=
    I1.laid (t' := s.toks) (fun b o e => Heap.get?_push_of_some _ e) (Nat.le_refl _) (show ObjOk X.prog X.w _ _ _ (.frz _ (.tup ys)) from ⟨Heap.get?_push_size _ rfl, hz, its, r', PyProof.Rows.IsTup.new _ _⟩)
  exact ⟨.ref h'.objs.size, _, I2, rfl, q _ (I1.hok.fresh (Nat.le_refl _)) _ rfl⟩
theorem Got.ftp {K : PySem.W.Frag} {H : Hp} {ok : Addr → Prop} {Q : VK} {xs : List PV} {vs : List V} (q : Got K H ok Q (.ftp xs)) (r : Rps K H ok xs vs []) {p : Addr} (hp : H p = none) {o : Obj} (hd : o.dict = none) : Q (.ref p) (upd H p (.frz o (.tup vs))) :=
  q _ _ [] (same_upd hp) (.ftp ⟨o, upd_same, hd⟩ ((r.same (same_upd hp)).imp fun a z => ⟨z, (fun e => nomatch e)⟩)) (fun a z => nomatch z) .nil
def biId : Bi → Value
  | .len => .builtin "len"
  | .int => .type "int"
  | .list => .type "list"
  | .tuple => .type "tuple"
  | .ftup => .type "tuple"
  | .dict => .type "dict"
  | .min => .builtin "min"
  | .max => .builtin "max"
  | .sum => .builtin "sum"
  | .all => .builtin "all"
  | .sorted => .builtin "sorted"
  | _ => .none
def isIs : Bi → Bool
  | .isInt => true
  | .isBool => true
  | .isList => true
  | .isTuple => true
  | .isDict => true
  | .isStr => true
  | _ => false
theorem zip_keys {ks : List DKey} {vs : List V} (h : ks.length = vs.length) : ((ks.zip vs).map fun kv => kV kv.1) = ks.map kV := by
  induction ks generalizing vs with
  | nil => rfl
  | cons k ks ih =>
    cases vs with
    | nil => cases h
    | cons v vs =>
      show kV k :: ((ks.zip vs).map fun kv => kV kv.1) = kV k :: ks.map kV
      rw [ih (by simpa using h)]
theorem rps_keysA {K : PySem.W.Frag} {H : Hp} {ok : Addr → Prop} {ks : List DKey} (h : ks.all kB = true) : Rps K H ok (ks.map keyP) (ks.map kV) [] := by
  induction ks with
  | nil => exact .nil
  | cons k ks ih =>
    rw [List.all_cons, Bool.and_eq_true] at h
    cases k with
    | inl i => exact .cons0 (.int i) (ih h.2)
    | inr x => exact .cons0 (.str x h.1) (ih h.2)
theorem rps_keys {K : PySem.W.Frag} {H : Hp} {ok : Addr → Prop} {ks : List DKey} (h : ksB ks = true) : Rps K H ok (ks.map keyP) (ks.map kV) [] := by
  unfold ksB at h
  rw [Bool.and_eq_true] at h
  exact rps_keysA h.1
theorem Got.dct {K : PySem.W.Frag} {H : Hp} {ok : Addr → Prop} {Q : VK} {ks : List DKey} {xs : List PV} {vs : List V} (q : Got K H ok Q (.dct true ks xs)) (r : Rps K H ok xs vs []) (hz : ks.length = vs.length ∧ ksB ks = true) {p : Addr} (hp : H p = none) : Q (.ref p) (upd H p (.dK (ks.zip vs))) :=
  q _ _ [p] (same_upd hp) (.dctO upd_same hz ((r.inD.imp fun a z => ⟨z.1, fun e => by
    obtain ⟨u, hu⟩ := z.2
    rw [List.mem_singleton.mp e, hp] at hu
    cases hu⟩).same (same_upd hp))) (fun a z => by rw [List.mem_singleton.mp z]; exact hp) (by simp)
theorem one0 {K : PySem.W.Frag} {H : Hp} {ok : Addr → Prop} {x : PV} {vs : List V} (h : Rps K H ok [x] vs []) : ∃ v, vs = [v] ∧ Rp K H ok x v [] := by
  obtain ⟨v, vs', e, r, rs⟩ := h.inv0
  cases rs
  exact ⟨v, e, r⟩
theorem two0 {K : PySem.W.Frag} {H : Hp} {ok : Addr → Prop} {x y : PV} {vs : List V} (h : Rps K H ok [x, y] vs []) : ∃ v u, vs = [v, u] ∧ Rp K H ok x v [] ∧ Rp K H ok y u [] := by
  obtain ⟨v, vs', e, r, rs⟩ := h.inv0
  obtain ⟨u, e2, r2⟩ := one0 rs
  exact ⟨v, u, by rw [e, e2], r, r2⟩
theorem allI_V {K : PySem.W.Frag} {H : Hp} {ok : Addr → Prop} : ∀ {xs : List PV} {vs : List V} {is : List Int}, allI xs = some is → Rps K H ok xs vs [] → vs = is.map V.int
  | [], _, _, e, r => by
    cases e
    cases r
    rfl
  | x :: xs, vs, is, e, r => by
    obtain ⟨v, vs', ev, r1, r2⟩ := r.inv0
    subst ev
    cases r1 with
    | int i =>
      obtain ⟨js, e1, rfl⟩ := Option.map_eq_some_iff.mp (show (allI xs).map (i :: ·) = some is from e)
      rw [allI_V e1 r2]
      rfl
    | _ => cases e
theorem allB_V {K : PySem.W.Frag} {H : Hp} {ok : Addr → Prop} : ∀ {xs : List PV} {vs : List V} {is : List Bool}, allB xs = some is → Rps K H ok xs vs [] → vs = is.map V.bl
  | [], _, _, e, r => by
    cases e
    cases r
    rfl
  | x :: xs, vs, is, e, r => by
    obtain ⟨v, vs', ev, r1, r2⟩ := r.inv0
    subst ev
    cases r1 with
    | bl i =>
      obtain ⟨js, e1, rfl⟩ := Option.map_eq_some_iff.mp (show (allB xs).map (i :: ·) = some is from e)
      rw [allB_V e1 r2]
      rfl
    | _ => cases e
theorem allS_V {K : PySem.W.Frag} {H : Hp} {ok : Addr → Prop} : ∀ {xs : List PV} {vs : List V} {is : List Str}, allS xs = some is → Rps K H ok xs vs [] → vs = is.map V.str ∧ ∀ z ∈ is, PyData.strOk z = true
  | [], _, _, e, r => by
    cases e
    cases r
    exact ⟨rfl, fun _ z => nomatch z⟩
  | x :: xs, vs, is, e, r => by
    obtain ⟨v, vs', ev, r1, r2⟩ := r.inv0
    subst ev
    cases r1 with
    | str i zi =>
      obtain ⟨js, e1, rfl⟩ := Option.map_eq_some_iff.mp (show (allS xs).map (i :: ·) = some is from e)
      obtain ⟨q1, q2⟩ := allS_V e1 r2
      rw [q1]
      exact ⟨rfl, fun z hz => (List.mem_cons.mp hz).elim (fun e => by rw [e]; exact zi) (q2 z)⟩
    | _ => cases e
theorem rps_strsA {K : PySem.W.Frag} {H : Hp} {ok : Addr → Prop} : ∀ xs : List Str, (∀ x ∈ xs, PyData.strOk x = true) → Rps K H ok (xs.map PV.str) (xs.map V.str) []
  | [], _ => .nil
  | x :: xs, h => .cons0 (.str x (h x List.mem_cons_self)) (rps_strsA xs fun y hy => h y (List.mem_cons_of_mem _ hy))
theorem leT_iff {a b : Str} : leT a b = true ↔ a.cps.toList ≤ b.cps.toList := by
  unfold leT
  rw [PyProof.Rows.ltCps_eq, Bool.not_eq_true', decide_eq_false_iff_not]
  exact List.not_lt
theorem leT_tt (a b : Str) : leT a b = true ∨ leT b a = true := by
  rw [leT_iff, leT_iff]
  exact List.le_total _ _
theorem leT_tr (a b c : Str) (h : leT a b = true) (k : leT b c = true) : leT a c = true := by
  rw [leT_iff] at *
  exact List.le_trans h k
theorem leT_as {a b : Str} (h : leT a b = true) (k : leT b a = true) : a = b := by
  rw [leT_iff] at *
  have q := List.le_antisymm h k
  cases a
  cases b
  simpa using q
theorem rising_pw : ∀ (l : List Str) (p : Str), PyProof.Rows.risingS p l = true → (p :: l).Pairwise (fun a b => leT a b = true)
  | [], p, _ => by simp
  | x :: r, p, h => by
    have h : (!ltCps x.cps.toList p.cps.toList && PyProof.Rows.risingS x r) = true := h
    rw [Bool.and_eq_true] at h
    have q := rising_pw r x h.2
    have px : leT p x = true := h.1
    refine List.pairwise_cons.mpr ⟨fun z hz => ?_, q⟩
    rcases List.mem_cons.mp hz with e | hz
    · rw [e]
      exact px
    · exact leT_tr _ _ _ px ((List.pairwise_cons.mp q).1 z hz)
theorem sortedS_pw : ∀ l : List Str, PyProof.Rows.sortedS l = true → l.Pairwise (fun a b => leT a b = true)
  | [], _ => .nil
  | x :: r, h => rising_pw r x h
theorem srt_uniqT {ys xs : List Str} (p : ys.Perm xs) (h : PyProof.Rows.sortedS ys = true) : ys = srt leT xs :=
  List.Perm.eq_of_pairwise (fun a b _ _ h1 h2 => leT_as h1 h2) (sortedS_pw ys h) (srt_sorted leT_tt leT_tr xs) (p.trans (srt_perm leT xs).symm)
theorem srt_uniqI {ys xs : List Int} (p : ys.Perm xs) (h : ys.Pairwise (· ≤ ·)) : ys = srt leI xs := by
  refine List.Perm.eq_of_pairwise (le := fun a b => leI a b = true) (fun a b _ _ h1 h2 => ?_) (h.imp fun h => decide_eq_true h) (srt_sorted (fun a b => ?_) (fun a b c h k => ?_) xs) (p.trans (srt_perm leI xs).symm)
  · have h1 := of_decide_eq_true h1
    have h2 := of_decide_eq_true h2
    omega
  · by_cases q : a ≤ b
    · exact .inl (decide_eq_true q)
    · exact .inr (decide_eq_true (by omega))
  · have h := of_decide_eq_true h
    have k := of_decide_eq_true k
    exact decide_eq_true (by omega)
theorem mnI_mem : ∀ (i : Int) (r : List Int), mnI i r ∈ i :: r
  | i, [] => List.mem_cons_self
  | i, j :: r => by
    unfold mnI
    have h := mnI_mem (if j < i then j else i) r
    rcases List.mem_cons.mp h with e | h
    · rw [e]
      split
      · exact List.mem_cons_of_mem _ List.mem_cons_self
      · exact List.mem_cons_self
    · exact List.mem_cons_of_mem _ (List.mem_cons_of_mem _ h)
theorem mnI_le : ∀ (i : Int) (r : List Int), ∀ y ∈ i :: r, mnI i r ≤ y
  | i, [], y, h => by
    rw [List.mem_singleton.mp h]
    exact Int.le_refl _
  | i, j :: r, y, h => by
    unfold mnI
    have k := mnI_le (if j < i then j else i) r
    have hv : (if j < i then j else i) ≤ i ∧ (if j < i then j else i) ≤ j := by split <;> omega
    generalize (if j < i then j else i) = v at *
    have k0 := k _ List.mem_cons_self
    rcases List.mem_cons.mp h with rfl | h
    · omega
    · rcases List.mem_cons.mp h with rfl | h
      · omega
      · exact k y (List.mem_cons_of_mem _ h)
theorem mxI_mem : ∀ (i : Int) (r : List Int), mxI i r ∈ i :: r
  | i, [] => List.mem_cons_self
  | i, j :: r => by
    unfold mxI
    have h := mxI_mem (if i < j then j else i) r
    rcases List.mem_cons.mp h with e | h
    · rw [e]
      split
      · exact List.mem_cons_of_mem _ List.mem_cons_self
      · exact List.mem_cons_self
    · exact List.mem_cons_of_mem _ (List.mem_cons_of_mem _ h)
theorem mxI_le : ∀ (i : Int) (r : List Int), ∀ y ∈ i :: r, y ≤ mxI i r
  | i, [], y, h => by
    rw [List.mem_singleton.mp h]
    exact Int.le_refl _
  | i, j :: r, y, h => by
    unfold mxI
    have k := mxI_le (if i < j then j else i) r
    have hv : i ≤ (if i < j then j else i) ∧ j ≤ (if i < j then j else i) := by split <;> omega
    generalize (if i < j then j else i) = v at *
    have k0 := k _ List.mem_cons_self
    rcases List.mem_cons.mp h with rfl | h
    · omega
    · rcases List.mem_cons.mp h with rfl | h
      · omega
      · exact k y (List.mem_cons_of_mem _ h)
theorem allK_ok : ∀ {ks : List DKey} {zs : List Str}, allK ks = some zs → ks = zs.map Sum.inr
  | [], _, e => by cases e; rfl
  | .inr i :: r, zs, e => by
    have e : (allK r).map (i :: ·) = some zs := e
    obtain ⟨ys, h, rfl⟩ := Option.map_eq_some_iff.mp e
    rw [allK_ok h]
    rfl
  | .inl _ :: _, _, e => by cases e
theorem bi_op (hc : X.calm = true) (b : Bi) (hb : isIs b = false) : CallR X (biId b) (rUn X.K (biV b)) := by
  intro pins s σ H vs us Q I rv h
  obtain ⟨ok, xs, z, fr, hx, e, q⟩ := h
  match xs, hx, e with
  | [], hx, e => cases e
  | _ :: _ :: _ :: _ :: _, hx, e => cases e
  | [x], hx, e =>
    obtain ⟨v, ev, r⟩ := one0 hx
    subst ev
    have e : bi1 b x = .ok z := e
    cases b with
    | len =>
      cases r with
      | lstF ht o r => cases e; exact call_len_seq pins s σ H _ us Q I rv ⟨_, _, rfl, .inl (.inl ht), by rw [← r.len]; exact q.int⟩
      | tup ht r => cases e; exact call_len_seq pins s σ H _ us Q I rv ⟨_, _, rfl, .inr ht, by rw [← r.len]; exact q.int⟩
      | ftp ht r => cases e; exact call_len_seq pins s σ H _ us Q I rv ⟨_, _, rfl, .inr ht.sq, by rw [← r.len]; exact q.int⟩
      | dctF ht hz o r =>
        cases e
        obtain ⟨u, rfl, ru⟩ := rv.one
        cases ru
        refine d_len I ht fun t s' I' => ⟨.int _, H, I', ⟨t, rfl⟩, ?_⟩
        rw [List.length_zip, ← hz.1, Nat.min_self]
        exact q.int
      | str x zx =>
        obtain ⟨c, rfl⟩ := iteOk (show (if decide (x.length ≤ most) = true then Res.ok (PV.int x.length) else .bad) = .ok z from e)
        rw [decide_eq_true_eq, most_eq] at c
        exact call_len_str pins s σ H _ us Q I rv ⟨x, rfl, c, q.int⟩
      | scr hs => cases e; exact call_len_seq pins s σ H _ us Q I rv ⟨_, _, rfl, .inl hs.seq, by rw [List.length_map]; rw [List.length_map] at q; exact q.int⟩
      | _ => cases e
    | int =>
      cases r with
      | int i => cases e; exact call_int1 pins s σ H _ us Q I rv (.inl ⟨i, rfl, q.int⟩)
      | bl k => cases e; exact call_int1 pins s σ H _ us Q I rv (.inr ⟨k, rfl, q.int⟩)
      | _ => cases e
    | dict =>
      cases r with
      | dctF ht hz o r =>
        cases e
        exact call_dictD pins s σ H _ us Q I rv ⟨_, _, rfl, ht, fun p hp => q.dct (r.frz (fun _ z => z) fun _ z => nomatch z) hz hp⟩
      | @lstF a0 ys us ht o r =>
        have e : (match prsV ys with
          | some p => Res.ok (PV.dct true (mrg [] [] p.1 p.2).1 (mrg [] [] p.1 p.2).2)
          | none => .bad) = .ok z := e
        cases q2 : prsV ys with
        | none => rw [q2] at e; cases e
        | some p =>
          rw [q2] at e
          cases e
          obtain ⟨ps, ws, rfl, h1, h2, h3, h4⟩ := prs_rep q2 r
          obtain ⟨us', fq', k1, k2, k3, k4, k5⟩ := mrg_rep (ks := []) (xs := []) (us := []) (fq := []) h4 h3 h2 .nil ⟨rfl, rfl⟩ .nil
          have ef : fq' = [] := List.eq_nil_iff_forall_not_mem.mpr fun b hb => nomatch k4 b hb
          subst ef
          refine call_dictP hc pins s σ H _ us Q I rv ⟨_, ps, _, rfl, .inl ht, h1, fun p hp => ?_⟩
          rw [show mergeK [] (_ : List (DKey × V)) = _ from k1]
          exact q.dct k3 k2 hp
      | _ => cases e
    | list =>
      cases r with
      | dctF ht hz o r =>
        cases e
        refine call_listD hc pins s σ H _ us Q I rv ⟨_, _, rfl, ht, fun p hp => q.lst ?_ hp⟩
        rw [zip_keys hz.1]
        exact rps_keys hz.2
      | lstF ht o r => cases e; exact call_list_of pins s σ H _ us Q I rv ⟨_, _, rfl, .inl (.inl ht), fun l hl => q.lst (r.frz (fun _ z => z) fun _ z => nomatch z) hl⟩
      | tup ht r => cases e; exact call_list_of pins s σ H _ us Q I rv ⟨_, _, rfl, .inr ht, fun l hl => q.lst (r.frz (fun _ z => z) fun _ z => nomatch z) hl⟩
      | ftp ht r => cases e; exact call_list_of pins s σ H _ us Q I rv ⟨_, _, rfl, .inr ht.sq, fun l hl => q.lst (r.frz (fun _ z => z) fun _ z => nomatch z) hl⟩
      | _ => cases e
    | ftup =>
      cases r with
      | lstF ht o r => cases e; exact call_ftp pins s σ H _ us Q I rv ⟨_, _, rfl, .inl ht, fun l hl ob hd => q.ftp (r.frz (fun _ z => z) fun _ z => nomatch z) hl hd⟩
      | _ => cases e
    | tuple =>
      cases r with
      | lstF ht o r => cases e; exact call_tuple_of pins s σ H _ us Q I rv ⟨_, _, rfl, .inl ⟨.inl ht, fun l hl => q.tup (r.frz (fun _ z => z) fun _ z => nomatch z) hl⟩⟩
      | tup ht r => cases e; exact call_tuple_of pins s σ H _ us Q I rv ⟨_, _, rfl, .inr ⟨ht, q.old (.tup ht (r.frz (fun _ z => z) fun _ z => nomatch z))⟩⟩
      | _ => cases e
    | isInt => cases hb
    | isBool => cases hb
    | isList => cases hb
    | isTuple => cases hb
    | isDict => cases hb
    | isStr => cases hb
    | sum =>
      cases r with
      | @lstF a0 ys us ht o r =>
        have e : (match allI ys with | some is => Res.ok (PV.int is.sum) | none => .bad) = .ok z := e
        cases q2 : allI ys with
        | none => rw [q2] at e; cases e
        | some is =>
          rw [q2] at e
          cases e
          have ev := allI_V q2 r
          subst ev
          exact cr_sum hc pins s σ H _ us Q I rv ⟨_, is, rfl, .inl ht, q.int⟩
      | _ => cases e
    | all =>
      cases r with
      | @lstF a0 ys us ht o r =>
        have e : (match allB ys with | some bs => Res.ok (PV.bl (bs.all id)) | none => .bad) = .ok z := e
        cases q2 : allB ys with
        | none => rw [q2] at e; cases e
        | some is =>
          rw [q2] at e
          cases e
          have ev := allB_V q2 r
          subst ev
          exact cr_all hc pins s σ H _ us Q I rv ⟨_, is, rfl, .inl ht, q.bl⟩
      | _ => cases e
    | sorted =>
      cases r with
      | @lstF a0 ys us ht o r =>
        have e : (match allS ys with
          | some zs => if decide (zs.length < 64) = true then Res.ok (PV.lst true ((srt leT zs).map PV.str)) else .bad
          | none => (match allI ys with | some is => Res.ok (PV.lst true ((srt leI is).map PV.int)) | none => sortT ys)) = .ok z := e
        cases q2 : allS ys with
        | some zs =>
          rw [q2] at e
          obtain ⟨c, rfl⟩ := iteOk e
          obtain ⟨ev, zo⟩ := allS_V q2 r
          subst ev
          refine cr_sortedS pins s σ H _ us Q I rv ⟨_, zs, rfl, .inl ht, of_decide_eq_true c, fun us p pm so hp => ?_⟩
          rw [srt_uniqT pm so]
          exact q.lst (rps_strsA _ fun x hx => zo x ((srt_perm leT zs).mem_iff.mp hx)) hp
        | none =>
          rw [q2] at e
          cases q3 : allI ys with
          | none =>
            simp only [q3] at e
            replace e : (match allT ys with
              | some kss => if shpB kss = true then Res.ok (PV.lst true ((srt leL kss).map keyT)) else .bad
              | none => .bad) = .ok z := e
            cases q4 : allT ys with
            | none => rw [q4] at e; cases e
            | some kss =>
              rw [q4] at e
              obtain ⟨c, rfl⟩ := iteOk e
              obtain ⟨ev, zo⟩ := allT_V q4 r
              refine cr_sortTp pins s σ H _ _ Q I rv ⟨_, _, kss, rfl, .inl ht, ev, c, fun ys p pm hp => ?_⟩
              exact q.lst (prT_rps pm fun ks hk => zo ks ((srt_perm leL kss).mem_iff.mp hk)) hp
          | some is =>
            simp only [q3] at e
            cases e
            have ev := allI_V q3 r
            subst ev
            refine cr_sortedI pins s σ H _ us Q I rv ⟨_, is, rfl, .inl ht, fun ns p pm pw hp => ?_⟩
            rw [srt_uniqI pm pw]
            exact q.lst (rps_int _) hp
      | @dctF a0 ks ys ws ht hz o r =>
        have e : (match allK ks with
          | some zs => if decide (zs.length < 64) = true then Res.ok (PV.lst true ((srt leT zs).map PV.str)) else .bad
          | none => .bad) = .ok z := e
        cases q2 : allK ks with
        | none => rw [q2] at e; cases e
        | some zs =>
          rw [q2] at e
          obtain ⟨c, rfl⟩ := iteOk e
          have ek := allK_ok q2
          subst ek
          refine call_sortedD hc pins s σ H _ us Q I rv ⟨_, _, zs, rfl, ht, ?_, of_decide_eq_true c, fun ys p pm so hp => ?_⟩
          · rw [List.map_fst_zip (by rw [hz.1]; exact Nat.le_refl _)]
          · rw [srt_uniqT pm so]
            have zo : ∀ x ∈ zs, PyData.strOk x = true := fun x hx => by
              have h2 := hz.2
              unfold ksB at h2
              rw [Bool.and_eq_true] at h2
              exact List.all_eq_true.mp h2.1 (.inr x) (List.mem_map_of_mem hx)
            exact q.lst (rps_strsA _ fun x hx => zo x ((srt_perm leT zs).mem_iff.mp hx)) hp
      | _ => cases e
    | min =>
      cases r with
      | @lstF a0 ys us ht o r =>
        have e : (match allI ys with | some (i :: r) => Res.ok (PV.int (mnI i r)) | _ => .bad) = .ok z := e
        cases q2 : allI ys with
        | none => rw [q2] at e; cases e
        | some is =>
          rw [q2] at e
          cases is with
          | nil => cases e
          | cons i is =>
            cases e
            have ev := allI_V q2 r
            subst ev
            refine cr_min hc pins s σ H _ us Q I rv ⟨_, i :: is, rfl, .inl ht, by simp, fun m h1 h2 => ?_⟩
            have a := h2 _ (mnI_mem i is)
            have b := mnI_le i is m h1
            rw [show m = mnI i is by omega]
            exact q.int
      | _ => cases e
    | max =>
      cases r with
      | @lstF a0 ys us ht o r =>
        have e : (match allI ys with | some (i :: r) => Res.ok (PV.int (mxI i r)) | _ => .bad) = .ok z := e
        cases q2 : allI ys with
        | none => rw [q2] at e; cases e
        | some is =>
          rw [q2] at e
          cases is with
          | nil => cases e
          | cons i is =>
            cases e
            have ev := allI_V q2 r
            subst ev
            refine cr_max hc pins s σ H _ us Q I rv ⟨_, i :: is, rfl, .inl ht, by simp, fun m h1 h2 => ?_⟩
            have a := h2 _ (mxI_mem i is)
            have b := mxI_le i is m h1
            rw [show m = mxI i is by omega]
            exact q.int
      | _ => cases e
    | str => cases e
  | [x, y, w], hx, e =>
    obtain ⟨v, vs', ev, r, r0⟩ := hx.inv0
    obtain ⟨u, t, ev2, r2, r3⟩ := two0 r0
    subst ev ev2
    have e : bi3 b x y w = .ok z := e
    cases b with
    | max =>
      cases r with
      | int i =>
        cases r2 with
        | int j =>
          cases r3 with
          | int k =>
            cases e
            refine call_max3Nu hc pins s σ H _ us Q I rv ⟨_, _, _, .int (big (big i j) k), rfl, ?_, q.int⟩
            show ((some (decide (i < j))).map fun c => if c = true then V.int j else V.int i).bind _ = _
            unfold big
            by_cases h1 : i < j
            · by_cases h2 : j < k <;> simp [h1, h2, nuMax2, nuLt, nuCB]
            · by_cases h2 : i < k <;> simp [h1, h2, nuMax2, nuLt, nuCB]
          | _ => cases e
        | _ => cases e
      | _ => cases e
    | _ => cases e
  | [x, y], hx, e =>
    obtain ⟨v, u, ev, r, r2⟩ := two0 hx
    subst ev
    have e : bi2 b x y = .ok z := e
    cases b with
    | min =>
      cases r with
      | int i =>
        cases r2 with
        | int j => cases e; exact call_min2 hc pins s σ H _ us Q I rv ⟨i, j, rfl, q.int⟩
        | _ => cases e
      | _ => cases e
    | max =>
      cases r with
      | int i =>
        cases r2 with
        | int j => cases e; exact call_max2 hc pins s σ H _ us Q I rv ⟨i, j, rfl, q.int⟩
        | _ => cases e
      | _ => cases e
    | isInt => cases hb
    | isBool => cases hb
    | isList => cases hb
    | isTuple => cases hb
    | isDict => cases hb
    | isStr => cases hb
    | _ => cases e
end
end BW

/-! The text's own trees against the little language's. -/
namespace BW
open PySem PySem.Spec L2

structure Tc where
  N : List Str
  sc : Scope
  fn : List (Str × Nat)
  gl : List (Str × Gk) := []
def visB (sc : Scope) (x : Str) : Bool := match sc.names.lookup x with
  | some .local => true
  | some .cell => true
  | some .free => true
  | _ => false
def glB (sc : Scope) (x : Str) : Bool := match sc.names.lookup x with
  | some .globalImplicit => true
  | _ => false
def locB (sc : Scope) (x : Str) : Bool := match sc.names.lookup x with
  | some .local => true
  | some .cell => true
  | _ => false
def odd (x : Str) : Bool := (x == ("__debug__" : Str)) || (x == ("__classdict__" : Str))
/-- none of the forms that stand out in a list of arguments, as an index, in a comparison -/
def plainX : Expr → Bool
  | .Starred _ _ => false
  | .Set _ _ _ => false
  | .Slice _ _ _ _ => false
  | _ => true
def nameB (tc : Tc) (i : Nat) (x : Str) : Bool := decide (tc.N[i]? = some x) && (visB tc.sc x && !odd x)
def ckTs (tc : Tc) : List Nat → List Expr → Bool
  | [], [] => true
  | i :: is, .Name x _ :: es => decide (tc.N[i]? = some x) && locB tc.sc x && ckTs tc is es
  | _, _ => false
def ckT (tc : Tc) (t : List Nat) (e : Expr) : Bool := match e with
  | .Name x _ => (match t with
    | [i] => decide (tc.N[i]? = some x) && locB tc.sc x
    | _ => false)
  | .Tuple es _ _ => decide (2 ≤ t.length) && ckTs tc t es
  | _ => false
def ownN (N : List Str) (own : List Nat) : List (Str × Nat) := own.filterMap fun i => (N[i]?).map fun x => (x, i)
def biNm : Bi → Str
  | .len => "len"
  | .int => "int"
  | .list => "list"
  | .tuple => "tuple"
  | .ftup => "tuple"
  | .dict => "dict"
  | .min => "min"
  | .max => "max"
  | .sum => "sum"
  | .all => "all"
  | .sorted => "sorted"
  | _ => "?"
def mthNm : Mth → Str
  | .count => "count"
  | .index => "index"
  | .join => "join"
/-- not a call, as what a method is asked of -/
def plainO : Expr → Bool
  | .Call _ _ _ _ => false
  | _ => true
def biTy : Bi → String
  | .isInt => "int"
  | .isBool => "bool"
  | .isList => "list"
  | .isTuple => "tuple"
  | .isDict => "dict"
  | .isStr => "str"
  | _ => "?"
def biHas : Bi → Bool
  | .len => true
  | .int => true
  | .list => true
  | .tuple => true
  | .ftup => true
  | .dict => true
  | .min => true
  | .max => true
  | .sum => true
  | .all => true
  | .sorted => true
  | _ => false
def lenX : Exs → Nat
  | .nil => 0
  | .cons _ es => lenX es + 1
def isiN (tc : Tc) (b : Bi) : List Expr → Bool
  | [_, .Name y _] => glB tc.sc y && decide (y = (biTy b : Str))
  | _ => false
/-- what zip hands on is taken apart at once -/
def tupOk (it : Iw) (t : List Nat) : Bool := match it with
  | .zip _ => decide (2 ≤ t.length)
  | _ => true
mutual
def ckE (tc : Tc) : Ex → Expr → Bool
  | .var i, py => (match py with
    | .Name x _ => nameB tc i x
    | _ => false)
  | .non, py => (match py with
    | .Constant .none _ _ => true
    | _ => false)
  | .bl b, py => (match py with
    | .Constant (.bool c) _ _ => b == c
    | _ => false)
  | .int i, py => (match py with
    | .Constant (.int j) _ _ => decide (i = j)
    | _ => false)
  | .str x, py => (match py with
    | .Constant (.str y) _ _ => decide (x = y) && PyData.strOk x
    | _ => false)
  | .bin op a b, py => (match py with
    | .BinOp l o r _ => decide (o = pyB op) && (ckE tc a l && ckE tc b r)
    | _ => false)
  | .neg a, py => (match py with
    | .UnaryOp .USub o _ => ckE tc a o
    | _ => false)
  | .not a, py => (match py with
    | .UnaryOp .Not o _ => ckE tc a o
    | _ => false)
  | .and a b, py => (match py with
    | .BoolOp .And [x, y] _ => ckE tc a x && ckE tc b y
    | .BoolOp .And (x :: y :: z :: r) pos => ckE tc a x && ckE tc b (.BoolOp .And (y :: z :: r) pos)
    | _ => false)
  | .or a b, py => (match py with
    | .BoolOp .Or [x, y] _ => ckE tc a x && ckE tc b y
    | .BoolOp .Or (x :: y :: z :: r) pos => ckE tc a x && ckE tc b (.BoolOp .Or (y :: z :: r) pos)
    | _ => false)
  | .cmp op a b, py => (match py with
    | .Compare l [o] [r] _ => decide (o = pyC op) && (ckE tc a l && ckE tc b r)
    | _ => false)
  | .chn op op' a b c, py => (match py with
    | .Compare l [o, o'] [m, r] _ => decide (o = pyC op) && decide (o' = pyC op') && (ckE tc a l && (ckE tc b m && ckE tc c r))
    | _ => false)
  | .tup es, py => (match py with
    | .Tuple xs _ _ => decide (lenX es ≤ 1000) && ckEs tc es xs
    | _ => false)
  | .lst es, py => (match py with
    | .List xs _ => decide (lenX es ≤ 1000) && ckEs tc es xs
    | _ => false)
  | .idx a i, py => (match py with
    | .Subscript v s _ => plainX s && (ckE tc a v && ckE tc i s)
    | _ => false)
  | .slc a lo hi, py => (match py with
    | .Subscript v (.Slice l h none _) _ => ckE tc a v && (ckO tc lo l && ckO tc hi h)
    | _ => false)
  | .call f es, py => (match py with
    | .Call (.Name x _) (e :: xs) [] _ => glB tc.sc x && !odd x && decide (tc.fn.lookup x = some f) && ckEs tc es (e :: xs)
    | _ => false)
  | .bi b es, py => (match py with
    | .Call (.Name x _) xs [] _ => glB tc.sc x && ((biHas b && decide (x = biNm b) && ckEs tc es xs && decide (xs.length ≠ 0)) ||
        (isIs b && decide (x = ("isinstance" : Str)) && isiN tc b xs && decide (lenX es = 1) && ckEs tc es (xs.take 1)))
    | _ => false)
  | .con g, py => (match py with
    | .Name x _ => glB tc.sc x && !odd x && decide (tc.gl.lookup x = some g)
    | _ => false)
  | .dnew, py => (match py with
    | .Dict [] [] _ => true
    | _ => false)
  | .meth m o es, py => (match py with
    | .Call (.Attribute ob nm apos) [y] [] cpos => decide (nm = mthNm m) && ((apos.endLine == cpos.line) && (plainO ob && (ckE tc o ob && ckEs tc es [y])))
    | _ => false)
  | .sset e, py => (match py with
    | .Call (.Name x _) [.Call (.Name y _) [v] [] _] [] _ => glB tc.sc x && (decide (x = ("sorted" : Str)) && (glB tc.sc y && (decide (y = ("set" : Str)) && (plainX v && ckE tc e v))))
    | _ => false)
  | .items e, py => (match py with
    | .Call (.Name x _) [.Call (.Attribute ob nm apos) [] [] cpos] [] _ => glB tc.sc x && (decide (x = ("list" : Str)) && (decide (nm = ("items" : Str)) && ((apos.endLine == cpos.line) && (plainO ob && ckE tc e ob))))
    | _ => false)
  | .dsp es, py => (match py with
    | .Dict keys values _ => (decide (keys.length = values.length) && (decide (keys.length ≤ 15) && (!keys.isEmpty && keys.all (·.isSome)))) && ckKv tc es keys values
    | _ => false)
  | .lrg e, py => (match py with
    | .Call (.Name x _) [.Call (.Name y _) [v] [] _] [] _ => glB tc.sc x && (decide (x = ("list" : Str)) && (glB tc.sc y && (decide (y = ("range" : Str)) && (plainX v && ckE tc e v))))
    | _ => false)
  | .get o k d, py => (match py with
    | .Call (.Attribute ob nm apos) [a, b] [] cpos => decide (nm = ("get" : Str)) && ((apos.endLine == cpos.line) && (plainO ob && (plainX a && (plainX b && (ckE tc o ob && (ckE tc k a && ckE tc d b))))))
    | _ => false)
  | .bitl e, py => (match py with
    | .Call (.Attribute ob nm apos) [] [] cpos => decide (nm = ("bit_length" : Str)) && ((apos.endLine == cpos.line) && (plainO ob && ckE tc e ob))
    | _ => false)
  | .lc t own it c e, py => (match py with
    | .ListComp elt [⟨tg, iter, ifs, z⟩] scope _ => tupOk it t && decide (z = 0) && decide (t = own) && (blkC tc.N tc.sc scope (ownN tc.N own) && decide ((ownN tc.N own).map (·.2) = own) && (ckI tc it iter &&
        (ckT ⟨tc.N, scope, tc.fn, tc.gl⟩ t tg && decide (plainX iter = true) && (ckC ⟨tc.N, relS scope tc.sc, tc.fn, tc.gl⟩ c ifs && ckE ⟨tc.N, relS scope tc.sc, tc.fn, tc.gl⟩ e elt))))
    | _ => false)
/-- a display: keys and things in turn -/
def ckKv (tc : Tc) : Exs → List (Option Expr) → List Expr → Bool
  | .nil, ks, vs => (match ks, vs with
    | [], [] => true
    | _, _ => false)
  | .cons _ .nil, _, _ => false
  | .cons k (.cons e es), ks, vs => (match ks, vs with
    | some x :: ks, y :: vs => ckE tc k x && (ckE tc e y && ckKv tc es ks vs)
    | _, _ => false)
def ckEs (tc : Tc) : Exs → List Expr → Bool
  | .nil, py => (match py with
    | [] => true
    | _ => false)
  | .cons e es, py => (match py with
    | x :: xs => plainX x && (ckE tc e x && ckEs tc es xs)
    | _ => false)
def ckO (tc : Tc) : Exo → Option Expr → Bool
  | .none, py => (match py with
    | none => true
    | _ => false)
  | .some e, py => (match py with
    | some x => ckE tc e x
    | _ => false)
def ckC (tc : Tc) : Exo → List Expr → Bool
  | .none, py => (match py with
    | [] => true
    | _ => false)
  | .some e, py => (match py with
    | [x] => ckE tc e x
    | _ => false)
def ckI (tc : Tc) : Iw → Expr → Bool
  | .ex e, py => plainX py && ckE tc e py
  | .rng es, py => (match py with
    | .Call (.Name x _) xs [] _ => glB tc.sc x && decide (x = ("range" : Str)) && decide (1 ≤ lenX es ∧ lenX es ≤ 3) && ckEs tc es xs
    | _ => false)
  | .rev e, py => (match py with
    | .Call (.Name x _) [v] [] _ => glB tc.sc x && decide (x = ("reversed" : Str)) && plainX v && ckE tc e v
    | _ => false)
  | .revr es, py => (match es, py with
    | .cons e .nil, .Call (.Name x _) [.Call (.Name y _) [v] [] _] [] _ => glB tc.sc x && (decide (x = ("reversed" : Str)) && (glB tc.sc y && (decide (y = ("range" : Str)) && (plainX v && ckE tc e v))))
    | _, _ => false)
  | .zip es, py => (match py with
    | .Call (.Name x _) [a, b] [] _ => glB tc.sc x && (decide (x = ("zip" : Str)) && ckEs tc es [a, b])
    | _ => false)
end
end BW

/-! What the text's expressions are worth is what the little language says. -/
namespace BW
open PySem PySem.Spec L2

/-! ### what is wanted behind -/
def Post (K : PySem.W.Frag) (ca : Nat → Addr) (E : XK) (ok : Addr → Prop) (H : Hp) (Q : VK) : Res PV → Prop
  | .ok x => Got K H ok Q x
  | .exc c => ∀ (d : Unit) H', Same H H' → E (.ref (ca c)) none H'
  | .bad => False
def PostA (K : PySem.W.Frag) (ca : Nat → Addr) (E : XK) (ok : Addr → Prop) (H : Hp) (Q : List V → Hp → Prop) : Res (List PV) → Prop
  | .ok xs => ∀ H' vs fp, Same H H' → Rps K H' (okn ok fp) xs vs fp → (∀ a ∈ fp, H a = none) → fp.Nodup → Q vs H'
  | .exc c => ∀ (d : Unit) H', Same H H' → E (.ref (ca c)) none H'
  | .bad => False
/-- of plain answers -/
def PostP {α : Type} (ca : Nat → Addr) (E : XK) (H : Hp) (Q : α → Hp → Prop) : Res α → Prop
  | .ok b => ∀ H', Same H H' → Q b H'
  | .exc c => ∀ (d : Unit) H', Same H H' → E (.ref (ca c)) none H'
  | .bad => False
def EIn (K : PySem.W.Frag) (H : Hp) (ok : Addr → Prop) (env : PEnv) (σ : L2.St) (is : List Nat) : Prop := env.length = σ.length ∧ ∀ i ∈ is, ∀ x, getE env i = .ok x → ∃ v, σ[i]? = some (some v) ∧ Rp K H ok x v []
section
variable {K : PySem.W.Frag} {ca : Nat → Addr} {E : XK} {ok : Addr → Prop} {H H1 : Hp} {Q : VK} {env : PEnv} {σ : L2.St}
theorem Got.mono {x : PV} (s : Same H H1) (g : Got K H ok Q x) : Got K H1 ok Q x := fun H' v fp s' r f n => g H' v fp (s.trans s') r (fun a z => s.free (f a z)) n
theorem Post.mono {r : Res PV} (s : Same H H1) (h : Post K ca E ok H Q r) : Post K ca E ok H1 Q r := by
  cases r with
  | ok x => exact Got.mono s h
  | exc c => exact fun d H' s' => h d H' (s.trans s')
  | bad => exact h
theorem PostA.mono {Q : List V → Hp → Prop} {r : Res (List PV)} (s : Same H H1) (h : PostA K ca E ok H Q r) : PostA K ca E ok H1 Q r := by
  cases r with
  | ok x => exact fun H' v fp s' r f n => h H' v fp (s.trans s') r (fun a z => s.free (f a z)) n
  | exc c => exact fun d H' s' => h d H' (s.trans s')
  | bad => exact h
theorem PostP.mono {α : Type} {Q : α → Hp → Prop} {r : Res α} (s : Same H H1) (h : PostP ca E H Q r) : PostP ca E H1 Q r := by
  cases r with
  | ok x => exact fun H' s' => h H' (s.trans s')
  | exc c => exact fun d H' s' => h d H' (s.trans s')
  | bad => exact h
theorem EIn.same {is : List Nat} (s : Same H H1) (h : EIn K H ok env σ is) : EIn K H1 ok env σ is := ⟨h.1, fun i hi x e => by
  obtain ⟨v, h1, h2⟩ := h.2 i hi x e
  exact ⟨v, h1, h2.same s⟩⟩
theorem EIn.left {is js : List Nat} (h : EIn K H ok env σ (is ++ js)) : EIn K H ok env σ is := ⟨h.1, fun i hi => h.2 i (List.mem_append_left _ hi)⟩
theorem EIn.right {is js : List Nat} (h : EIn K H ok env σ (is ++ js)) : EIn K H ok env σ js := ⟨h.1, fun i hi => h.2 i (List.mem_append_right _ hi)⟩
/-- a value, then the rest: P the kind of the whole's wish -/
theorem bind_v {α : Type} {P : Hp → Res α → Prop} {r : Res PV} {f : PV → Res α} {Q1 : VK} (hx : ∀ c, P H (.exc c) → ∀ (d : Unit) H', Same H H' → E (.ref (ca c)) none H') (hb : P H .bad → False) (hm : ∀ H1 z, Same H H1 → P H z → P H1 z) (h : P H (r.bind f))
    (k : ∀ x H' v fp, r = .ok x → Same H H' → Rp K H' (okn ok fp) x v fp → (∀ a ∈ fp, H a = none) → fp.Nodup → P H' (f x) → Q1 v H') : Post K ca E ok H Q1 r := by
  cases r with
  | ok x => exact fun H' v fp s r f n => k x H' v fp rfl s r f n (hm H' _ s h)
  | exc c => exact hx c h
  | bad => exact hb h
theorem bind_a {α : Type} {P : Hp → Res α → Prop} {r : Res (List PV)} {f : List PV → Res α} {Q1 : List V → Hp → Prop} (hx : ∀ c, P H (.exc c) → ∀ (d : Unit) H', Same H H' → E (.ref (ca c)) none H') (hb : P H .bad → False) (hm : ∀ H1 z, Same H H1 → P H z → P H1 z) (h : P H (r.bind f))
    (k : ∀ x H' v fp, r = .ok x → Same H H' → Rps K H' (okn ok fp) x v fp → (∀ a ∈ fp, H a = none) → fp.Nodup → P H' (f x) → Q1 v H') : PostA K ca E ok H Q1 r := by
  cases r with
  | ok x => exact fun H' v fp s r f n => k x H' v fp rfl s r f n (hm H' _ s h)
  | exc c => exact hx c h
  | bad => exact hb h
theorem bind_p {α β : Type} {P : Hp → Res α → Prop} {r : Res β} {f : β → Res α} {Q1 : β → Hp → Prop} (hx : ∀ c, P H (.exc c) → ∀ (d : Unit) H', Same H H' → E (.ref (ca c)) none H') (hb : P H .bad → False) (hm : ∀ H1 z, Same H H1 → P H z → P H1 z) (h : P H (r.bind f))
    (k : ∀ x H', r = .ok x → Same H H' → P H' (f x) → Q1 x H') : PostP ca E H Q1 r := by
  cases r with
  | ok x => exact fun H' s => k x H' rfl s (hm H' _ s h)
  | exc c => exact hx c h
  | bad => exact hb h
theorem Post.bindv {r : Res PV} {f : PV → Res PV} {Q1 : VK} (h : Post K ca E ok H Q (r.bind f)) (k : ∀ x H' v fp, r = .ok x → Same H H' → Rp K H' (okn ok fp) x v fp → (∀ a ∈ fp, H a = none) → fp.Nodup → Post K ca E ok H' Q (f x) → Q1 v H') : Post K ca E ok H Q1 r :=
  bind_v (P := fun H z => Post K ca E ok H Q z) (fun _ z => z) (fun z => z) (fun _ _ s z => z.mono s) h k
theorem Post.binda {r : Res (List PV)} {f : List PV → Res PV} {Q1 : List V → Hp → Prop} (h : Post K ca E ok H Q (r.bind f)) (k : ∀ x H' v fp, r = .ok x → Same H H' → Rps K H' (okn ok fp) x v fp → (∀ a ∈ fp, H a = none) → fp.Nodup → Post K ca E ok H' Q (f x) → Q1 v H') : PostA K ca E ok H Q1 r :=
  bind_a (P := fun H z => Post K ca E ok H Q z) (fun _ z => z) (fun z => z) (fun _ _ s z => z.mono s) h k
theorem Post.bindp {β : Type} {r : Res β} {f : β → Res PV} {Q1 : β → Hp → Prop} (h : Post K ca E ok H Q (r.bind f)) (k : ∀ x H', r = .ok x → Same H H' → Post K ca E ok H' Q (f x) → Q1 x H') : PostP ca E H Q1 r :=
  bind_p (P := fun H z => Post K ca E ok H Q z) (fun _ z => z) (fun z => z) (fun _ _ s z => z.mono s) h k
theorem PostP.bindv {α : Type} {Q : α → Hp → Prop} {r : Res PV} {f : PV → Res α} {Q1 : VK} (h : PostP ca E H Q (r.bind f)) (k : ∀ x H' v fp, r = .ok x → Same H H' → Rp K H' (okn ok fp) x v fp → (∀ a ∈ fp, H a = none) → fp.Nodup → PostP ca E H' Q (f x) → Q1 v H') : Post K ca E ok H Q1 r :=
  bind_v (P := fun H z => PostP ca E H Q z) (fun _ z => z) (fun z => z) (fun _ _ s z => z.mono s) h k
theorem PostP.bindp {α β : Type} {Q : α → Hp → Prop} {r : Res β} {f : β → Res α} {Q1 : β → Hp → Prop} (h : PostP ca E H Q (r.bind f)) (k : ∀ x H', r = .ok x → Same H H' → PostP ca E H' Q (f x) → Q1 x H') : PostP ca E H Q1 r :=
  bind_p (P := fun H z => PostP ca E H Q z) (fun _ z => z) (fun z => z) (fun _ _ s z => z.mono s) h k
theorem PostA.bindv {Q : List V → Hp → Prop} {r : Res PV} {f : PV → Res (List PV)} {Q1 : VK} (h : PostA K ca E ok H Q (r.bind f)) (k : ∀ x H' v fp, r = .ok x → Same H H' → Rp K H' (okn ok fp) x v fp → (∀ a ∈ fp, H a = none) → fp.Nodup → PostA K ca E ok H' Q (f x) → Q1 v H') : Post K ca E ok H Q1 r :=
  bind_v (P := fun H z => PostA K ca E ok H Q z) (fun _ z => z) (fun z => z) (fun _ _ s z => z.mono s) h k
theorem PostA.binda {Q : List V → Hp → Prop} {r : Res (List PV)} {f : List PV → Res (List PV)} {Q1 : List V → Hp → Prop} (h : PostA K ca E ok H Q (r.bind f)) (k : ∀ x H' v fp, r = .ok x → Same H H' → Rps K H' (okn ok fp) x v fp → (∀ a ∈ fp, H a = none) → fp.Nodup → PostA K ca E ok H' Q (f x) → Q1 v H') : PostA K ca E ok H Q1 r :=
  bind_a (P := fun H z => PostA K ca E ok H Q z) (fun _ z => z) (fun z => z) (fun _ _ s z => z.mono s) h k
/-- a thing just told, no longer one's own -/
theorem Rp.fz {x : PV} {v : V} {fp : List Addr} (r : Rp K H1 (okn ok fp) x v fp) (fr : Fre ok H) (f : ∀ a ∈ fp, H a = none) : Rp K H1 ok (BW.frz x) v [] := r.frz (fun _ z => z.1) fun a z => fr a (f a z)
theorem Rps.fz {x : List PV} {v : List V} {fp : List Addr} (r : Rps K H1 (okn ok fp) x v fp) (fr : Fre ok H) (f : ∀ a ∈ fp, H a = none) : Rps K H1 ok (BW.frzs x) v [] := r.frz (fun _ z => z.1) fun a z => fr a (f a z)
end

/-! ### readings -/
section
variable (K : PySem.W.Frag) (ca : Nat → Addr) (cl : Cl) (W : WX)
def tE (e : Ex) : TE := fun σ H Q => ∃ env ok, EIn K H ok env σ (vE e) ∧ Fre ok H ∧ Post K ca (WE W σ) ok H Q (evE cl env e)
def tT (e : Ex) : TT := fun σ H Q => ∃ env ok, EIn K H ok env σ (vE e) ∧ Fre ok H ∧ PostP ca (WE W σ) H Q ((evE cl env e).bind asB)
def tAs (es : Exs) : TA := fun σ H Q => ∃ env ok, EIn K H ok env σ (vEs es) ∧ Fre ok H ∧ PostA K ca (WE W σ) ok H Q (evEs cl env es)
def tOp1 (o : Exo) : TO := fun σ H Q => ∃ env ok, EIn K H ok env σ (vO o) ∧ Fre ok H ∧ PostP ca (WE W σ) H Q (evO cl env o)
/-- behind a call; what was handed on with it, at fp, may have changed -/
def PostC (K : PySem.W.Frag) (ca : Nat → Addr) (E : XK) (ok : Addr → Prop) (fp : List Addr) (H : Hp) (Q : VK) : Res PV → Prop
  | .ok x => ∀ H' v fq, (∀ a o, H a = some o → a ∉ fp → H' a = some o) → (∀ a, H' a = none → H a = none) → Rp K H' (okn ok fq) x v fq → (∀ a ∈ fq, a ∈ fp ∨ H a = none) → fq.Nodup → Q v H'
  | .exc c => ∀ (d : Unit) H', (∀ a o, H a = some o → a ∉ fp → H' a = some o) → E (.ref (ca c)) none H'
  | .bad => False
def spF (np : Nat) (f : Nat) : Sp := fun vs H Q E => vs.length = np ∧ ∃ ok xs fp, Fre ok H ∧ (∀ a ∈ fp, ok a) ∧ Rps K H (okn ok fp) xs vs fp ∧ fp.Nodup ∧ PostC K ca E ok fp H Q (cl f xs)
end
theorem Post.toC {K : PySem.W.Frag} {ca : Nat → Addr} {E : XK} {ok : Addr → Prop} {H : Hp} {Q : VK} {r : Res PV} (h : Post K ca E ok H Q r) : PostC K ca E ok [] H Q r := by
  cases r with
  | ok x => exact fun H' v fq k _ r f n => h H' v fq (fun a o z => k a o z fun q => nomatch q) r (fun a z => (f a z).elim (fun q => nomatch q) id) n
  | exc c => exact fun d H' k => h d H' fun a o z => k a o z fun q => nomatch q
  | bad => exact h.elim
/-- a module's constant as it stands -/
def GlOk (K : PySem.W.Frag) (o : Option Value) : Gk → Prop
  | .int i => ∃ t, o = some (.int i t)
  | .str x => PyData.strOk x = true ∧ ∃ t, o = some (.str x t)
  | .txs xs => (∀ x ∈ xs, PyData.strOk x = true) ∧ ∃ (a : Addr) (ob : Obj) (its : Array Value) (n : Nat), o = some (.ref a) ∧ K.lookup a = some ob ∧ ob.cls = .type "tuple" ∧ ob.dict = none ∧ ob.data = .seq its n ∧ its.size ≤ sizeLine ∧ Vals (xs.map V.str) its.toList
structure Cok (X : Cx) (W : WX) (tc : Tc) (cl : Cl) (n : Nat) (ca fa : Nat → Addr) : Prop where
  calm : X.calm = true
  nd : X.N.Nodup
  N : tc.N = X.N
  sc : tc.sc = X.env.scope
  room : Room n X.A
  pass : ∀ σ, PassesAt (L2.CX X.prog X.w) X σ (WE W σ)
  blt : ∀ x ∈ bnames, X.mg x = none
  gls : ∀ x g, tc.gl.lookup x = some g → GlOk X.K (X.mg x) g
  fns : ∀ x f, tc.fn.lookup x = some f → X.mg x = some (.ref (fa f)) ∧ PySem.W.keepIn X.K (.ref (fa f)) = true ∧
    ∃ fd ps, FnOk X.prog X.w X.K X.mg X.base (L2.CX X.prog X.w) n (fa f) fd ps (spF X.K ca cl ps.length f) ∧ Binds X.K fd ps [] ∧ ∀ xs, cl f xs ≠ .bad → xs.length = ps.length

theorem PE.imp {X : Cx} {e : Expr} {t t' : TE} (h : PE X e t) (k : ∀ σ H Q, t' σ H Q → t σ H Q) : PE X e t' := ⟨fun pins s σ H Q I q => h.run pins s σ H Q I (k σ H Q q)⟩
theorem PT.imp {X : Cx} {e : Expr} {t t' : TT} (h : PT X e t) (k : ∀ σ H Q, t' σ H Q → t σ H Q) : PT X e t' := ⟨fun pins s σ H Q I q => h.run pins s σ H Q I (k σ H Q q)⟩
theorem PW.imp {X : Cx} {e : Expr} {t t' : TT} (h : PW X e t) (k : ∀ σ H Q, t' σ H Q → t σ H Q) : PW X e t' := ⟨fun wh pins s σ H Q I q => h.run wh pins s σ H Q I (k σ H Q q)⟩
theorem PA.imp {X : Cx} {e : List Expr} {t t' : TA} (h : PA X e t) (k : ∀ σ H Q, t' σ H Q → t σ H Q) : PA X e t' := ⟨fun pos pins s σ H Q I q => h.run pos pins s σ H Q I (k σ H Q q)⟩
theorem PO.imp {X : Cx} {e : Option Expr} {t t' : TO} (h : PO X e t) (k : ∀ σ H Q, t' σ H Q → t σ H Q) : PO X e t' := ⟨fun pins s σ H Q I q => h.run pins s σ H Q I (k σ H Q q)⟩
theorem star_of {e : Expr} {es : List Expr} {env : Env} (h : plainX e = true) : starEach (e :: es) env = (false, eval e env) :: starEach es env := by
  cases e <;> first | rfl | cases h
theorem back_of {pos : Pos} {env : Env} : ∀ {es : List Expr}, (∀ e ∈ es, plainX e = true) → (backTo pos (starEach es env)).any (·.1) = false
  | [], _ => rfl
  | e :: es, h => by
    rw [star_of (h e List.mem_cons_self)]
    show (false || (backTo pos (starEach es env)).any (·.1)) = false
    rw [back_of fun e z => h e (List.mem_cons_of_mem _ z)]
    rfl
theorem ix_of {e : Expr} (h : plainX e = true) : PlainIx e := by
  intro o i
  cases e <;> first | rfl | cases h
theorem mark_of {e : Expr} {op : CmpOp} (h : plainX e = true) : behindInMarks op e = false := by
  cases e <;> first | rfl | cases h
/-- forms whose truth is asked of the value -/
def truthX : Expr → Bool
  | .Name _ _ => true
  | .Constant _ _ _ => true
  | .BinOp _ _ _ _ => true
  | .Tuple _ _ _ => true
  | .List _ _ => true
  | .Subscript _ _ _ => true
  | .Call _ _ _ _ => true
  | .ListComp _ _ _ _ => true
  | .Dict _ _ _ => true
  | .UnaryOp .USub _ _ => true
  | _ => false
theorem truth_of {e : Expr} {env : Env} (h : truthX e = true) (whole : Sem Value) : isTrue e env whole = (do let v ← whole; standAt e.pos; holding [v] (truthy v)) := by
  cases e with
  | UnaryOp op a p => cases op <;> first | rfl | cases h
  | _ => first | rfl | cases h
end BW

/-! One lemma a form. -/
namespace BW
open PySem PySem.Spec L2

structure SndE (X : Cx) (ca : Nat → Addr) (cl : Cl) (W : WX) (e : Ex) (py : Expr) : Prop where
  pe : PE X py (tE X.K ca cl W e)
  pt : PT X py (tT X.K ca cl W e)
  pw : ∀ op vs pos, py = .BoolOp op vs pos → PW X py (tT X.K ca cl W e)
def noBool : Expr → Bool
  | .BoolOp _ _ _ => false
  | _ => true
section
variable {X : Cx} {ca fa : Nat → Addr} {cl : Cl} {W : WX} {tc : Tc} {n : Nat}
theorem asB_ok {r : Res PV} {b : Bool} {α : Type} {f : Bool → Res α} {x : PV} (h : (asB x).bind f ≠ .bad) : ∃ b, x = .bl b := by
  cases x <;> first | exact ⟨_, rfl⟩ | exact absurd rfl h
/-- a value's truth, where it is asked of the value -/
theorem pt_of {e : Ex} {py : Expr} (h : PE X py (tE X.K ca cl W e)) (ht : truthX py = true) : PT X py (tT X.K ca cl W e) := by
  refine PT.imp (pt_val h (truth_of ht)) fun σ H Q ⟨env, ok, hi, fr, hm⟩ => ?_
  refine ⟨env, ok, hi, fr, hm.bindv fun x H' v fp e1 s r f nd q => ?_⟩
  cases r <;> first | exact q.elim | exact ⟨_, rfl, q _ (Same.refl _)⟩
theorem snd_val {e : Ex} {py : Expr} (h : PE X py (tE X.K ca cl W e)) (ht : truthX py = true) : SndE X ca cl W e py :=
  ⟨h, pt_of h ht, fun op vs pos z => by subst z; cases ht⟩
theorem s_var {i : Nat} {x : Str} {p : Pos} (C : Cok X W tc cl n ca fa) (h : nameB tc i x = true) : SndE X ca cl W (.var i) (.Name x p) := by
  unfold nameB at h
  rw [Bool.and_eq_true, Bool.and_eq_true, decide_eq_true_eq] at h
  obtain ⟨h1, h2, h3⟩ := h
  have hv : Vis X.env.scope x := by
    rw [C.sc] at h2
    unfold visB at h2
    unfold Vis
    split at h2 <;> first | exact .inl (by assumption) | exact .inr (.inl (by assumption)) | exact .inr (.inr (by assumption)) | cases h2
  have ho : (x == ("__debug__" : Str)) = false ∧ (x == ("__classdict__" : Str)) = false := by
    unfold odd at h3
    rw [Bool.not_eq_true', Bool.or_eq_false_iff] at h3
    exact h3
  refine snd_val (PE.imp (pe_var (by rw [← C.N]; exact h1) hv ho.1 ho.2) fun σ H Q ⟨env, ok, hi, fr, hm⟩ => ?_) rfl
  have hm : Post X.K ca (WE W σ) ok H Q (getE env i) := hm
  cases e : getE env i with
  | ok y =>
    obtain ⟨v, h1, h2⟩ := hi.2 i (List.mem_singleton.mpr rfl) y e
    rw [e] at hm
    exact ⟨v, h1, Got.old hm h2⟩
  | exc c =>
    unfold getE at e
    split at e <;> cases e
  | bad =>
    rw [e] at hm
    exact hm.elim
theorem s_int {i : Int} {k : Nat} {p : Pos} : SndE X ca cl W (.int i) (.Constant (.int i) k p) := snd_val (PE.imp pe_int fun σ H Q ⟨env, ok, hi, fr, hm⟩ => Got.int hm) rfl
theorem s_bl {i : Bool} {k : Nat} {p : Pos} : SndE X ca cl W (.bl i) (.Constant (.bool i) k p) := snd_val (PE.imp pe_bl fun σ H Q ⟨env, ok, hi, fr, hm⟩ => Got.bl hm) rfl
theorem s_non {k : Nat} {p : Pos} : SndE X ca cl W .non (.Constant .none k p) := snd_val (PE.imp pe_non fun σ H Q ⟨env, ok, hi, fr, hm⟩ => Got.non hm) rfl
theorem s_str {x : Str} {k : Nat} {p : Pos} (z : PyData.strOk x = true) : SndE X ca cl W (.str x) (.Constant (.str x) k p) := snd_val (PE.imp pe_str fun σ H Q ⟨env, ok, hi, fr, hm⟩ => Got.str hm z) rfl
/-- two values, an operator -/
theorem bin_imp {a b : Ex} {g : PV → PV → Res PV} {e : Ex} (hv : vE e = vE a ++ vE b) (he : ∀ env, evE cl env e = (evE cl env a).bind fun x => (evE cl env b).bind fun y => g (frz x) (frz y)) (hg : ∀ x y c, g x y ≠ .exc c) {σ : L2.St} {H : Hp} {Q : VK}
    (h : tE X.K ca cl W e σ H Q) : tOp (rOp X.K g) (tE X.K ca cl W a) (tE X.K ca cl W b) σ H Q := by
  obtain ⟨env, ok, hi, fr, hm⟩ := h
  rw [hv] at hi
  rw [he] at hm
  refine ⟨env, ok, hi.left, fr, hm.bindv fun x H1 v fp e1 s1 r1 f1 n1 q1 => ?_⟩
  refine ⟨env, ok, hi.right.same s1, fr.same s1, q1.bindv fun y H2 u fp2 e2 s2 r2 f2 n2 q2 => ?_⟩
  cases e3 : g (frz x) (frz y) with
  | ok z =>
    rw [e3] at q2
    exact ⟨ok, frz x, frz y, z, (fr.same s1).same s2, (r1.fz fr f1).same s2, r2.fz (fr.same s1) f2, e3, q2⟩
  | exc c => exact absurd e3 (hg _ _ c)
  | bad =>
    rw [e3] at q2
    exact q2.elim
theorem binI_ne {op : Bop} {i j : Int} {c : Nat} : binI op i j ≠ .exc c := by
  intro h
  cases op <;> simp only [binI] at h <;> first | cases h | (split at h <;> cases h)
theorem binop_ne {op : Bop} {x y : PV} {c : Nat} : binop op x y ≠ .exc c := by
  intro h
  unfold binop at h
  split at h <;> first | exact binI_ne h | (cases h; done) | (split at h <;> cases h)
theorem cmpop_ne {op : Cop} {x y : PV} {c : Nat} : cmpop op x y ≠ .exc c := by
  intro h
  unfold cmpop at h
  cases op <;> simp only at h
  · split at h <;> first | (cases h; done) | (split at h <;> first | (cases h; done) | (split at h <;> cases h))
  · split at h <;> first | (cases h; done) | (split at h <;> first | (cases h; done) | (split at h <;> cases h))
  · split at h <;> cases h
  · split at h <;> cases h
  · split at h <;> cases h
  · split at h <;> cases h
  · split at h <;> cases h
  · split at h
    · cases h
    · split at h <;> cases h
    · cases h
  · unfold inop at h
    split at h <;> first | (cases h; done) | (split at h <;> first | (cases h; done) | (split at h <;> cases h))
  · unfold inop at h
    split at h <;> first | (cases h; done) | (split at h <;> first | (cases h; done) | (split at h <;> cases h))
theorem idxop_ne {x y : PV} {c : Nat} : idxop x y ≠ .exc c := by
  intro h
  unfold idxop at h
  split at h <;> first | (cases h; done) | (split at h <;> first | (cases h; done) | (split at h <;> cases h))
theorem s_bin {op : Bop} {a b : Ex} {l r : Expr} {p : Pos} (ha : SndE X ca cl W a l) (hb : SndE X ca cl W b r) : SndE X ca cl W (.bin op a b) (.BinOp l (pyB op) r p) :=
  snd_val (PE.imp (pe_op (op_bin op) ha.pe hb.pe) fun σ H Q h => bin_imp (g := binop op) rfl (fun _ => rfl) (fun _ _ _ => binop_ne) h) rfl
theorem tB_of {e : Ex} {t : TE} (k : ∀ σ H Q, tE X.K ca cl W e σ H Q → t σ H Q) {σ : L2.St} {H : Hp} {Q : Bool → Hp → Prop} (h : tT X.K ca cl W e σ H Q) : tTest t σ H Q := by
  obtain ⟨env, ok, hi, fr, hm⟩ := h
  refine k σ H _ ⟨env, ok, hi, fr, hm.bindv fun x H' v fp e1 s r f nd q => ?_⟩
  cases r <;> first | exact q.elim | exact ⟨_, rfl, q _ (Same.refl _)⟩
theorem s_cmp {op : Cop} {a b : Ex} {l r : Expr} {p : Pos} (hu : X.A.units + 80 < cLine) (ha : SndE X ca cl W a l) (hb : SndE X ca cl W b r) (hr : plainX r = true) : SndE X ca cl W (.cmp op a b) (.Compare l [pyC op] [r] p) := by
  have k : ∀ σ H Q, tE X.K ca cl W (.cmp op a b) σ H Q → tOp (rOp X.K (cmpop op)) (tE X.K ca cl W a) (tE X.K ca cl W b) σ H Q := fun σ H Q h => bin_imp (g := cmpop op) rfl (fun _ => rfl) (fun _ _ _ => cmpop_ne) h
  exact ⟨PE.imp (pe_cmpR (op_cmp hu op) ha.pe hb.pe (mark_of hr)) k, PT.imp (pt_cmpR (op_cmp hu op) ha.pe hb.pe (mark_of hr)) fun σ H Q h => tB_of k h, fun _ _ _ z => by cases z⟩
theorem s_idx {a b : Ex} {l r : Expr} {p : Pos} (hu : X.A.units + 1 < cLine) (ha : SndE X ca cl W a l) (hb : SndE X ca cl W b r) (hr : plainX r = true) : SndE X ca cl W (.idx a b) (.Subscript l r p) :=
  snd_val (PE.imp (pe_ix (ix_op hu) ha.pe hb.pe (ix_of hr)) fun σ H Q h => bin_imp (g := idxop) rfl (fun _ => rfl) (fun _ _ _ => idxop_ne) h) rfl
theorem s_neg {a : Ex} {l : Expr} {p : Pos} (ha : SndE X ca cl W a l) : SndE X ca cl W (.neg a) (.UnaryOp .USub l p) := by
  refine snd_val (PE.imp (pe_un un_neg ha.pe) fun σ H Q ⟨env, ok, hi, fr, hm⟩ => ⟨env, ok, hi, fr, hm.bindv fun x H1 v fp e1 s1 r1 f1 n1 q1 => ?_⟩) rfl
  cases r1 <;> first | exact q1.elim | exact ⟨_, rfl, Got.int q1⟩
theorem s_not {a : Ex} {l : Expr} {p : Pos} (ha : SndE X ca cl W a l) : SndE X ca cl W (.not a) (.UnaryOp .Not l p) := by
  have k : ∀ σ H (Q : VK), tE X.K ca cl W (.not a) σ H Q → tNotV (tE X.K ca cl W a) σ H Q := fun σ H Q ⟨env, ok, hi, fr, hm⟩ => by
    refine ⟨env, ok, hi, fr, hm.bindv fun x H1 v fp e1 s1 r1 f1 n1 q1 => ?_⟩
    cases r1 <;> first | exact q1.elim | exact ⟨_, rfl, Got.bl q1⟩
  refine ⟨PE.imp (pe_not ha.pe) k, PT.imp (pt_not ha.pt) fun σ H Q ⟨env, ok, hi, fr, hm⟩ => ?_, fun _ _ _ z => by cases z⟩
  refine ⟨env, ok, hi, fr, ?_⟩
  have hm : PostP ca (WE W σ) H Q (((evE cl env a).bind fun x => (asB x).bind fun b => .ok (.bl (!b))).bind asB) := hm
  cases e : evE cl env a with
  | ok x =>
    rw [e] at hm
    cases x <;> first | exact hm.elim | exact fun H' s => hm H' s
  | exc c =>
    rw [e] at hm
    exact hm
  | bad =>
    rw [e] at hm
    exact hm.elim
theorem s_and {a b : Ex} {l : Expr} {r : List Expr} {p : Pos} (ha : SndE X ca cl W a l) (hb : PE X (.BoolOp .And r p) (tE X.K ca cl W b)) (hw : PW X (.BoolOp .And r p) (tT X.K ca cl W b)) (hr : r ≠ []) :
    SndE X ca cl W (.and a b) (.BoolOp .And (l :: r) p) := by
  obtain ⟨y, r', rfl⟩ : ∃ y r', r = y :: r' := by
    cases r with
    | nil => exact absurd rfl hr
    | cons y r' => exact ⟨y, r', rfl⟩
  have w : PW X (.BoolOp .And (l :: y :: r') p) (tT X.K ca cl W (.and a b)) := by
    refine PW.imp (pw_and ha.pt hw) fun σ H Q ⟨env, ok, hi, fr, hm⟩ => ?_
    have hm : PostP ca (WE W σ) H Q (((evE cl env a).bind fun x => (asB x).bind fun k => if k = true then evE cl env b else .ok (.bl false)).bind asB) := hm
    have hm : PostP ca (WE W σ) H Q (((evE cl env a).bind asB).bind fun k => if k = true then (evE cl env b).bind asB else .ok false) := by
      cases e : evE cl env a with
      | ok x =>
        rw [e] at hm
        cases x <;> first | exact hm | (rename_i k; cases k <;> exact hm)
      | exc c => rw [e] at hm; exact hm
      | bad => rw [e] at hm; exact hm
    refine ⟨env, ok, hi.left, fr, hm.bindp fun k H1 e1 s1 q1 => ?_⟩
    cases k with
    | true =>
      rw [if_pos rfl] at q1 ⊢
      exact ⟨env, ok, hi.right.same s1, fr.same s1, q1⟩
    | false =>
      rw [if_neg (by decide)] at q1 ⊢
      exact q1 _ (Same.refl _)
  refine ⟨PE.imp (pe_and ha.pe hb) fun σ H Q ⟨env, ok, hi, fr, hm⟩ => ⟨env, ok, hi.left, fr, hm.bindv fun x H1 v fp e1 s1 r1 f1 n1 q1 => ?_⟩, w.pt, fun _ _ _ _ => w⟩
  cases r1 <;> first | exact q1.elim | skip
  rename_i k
  refine ⟨k, rfl, ?_⟩
  cases k with
  | true =>
    rw [if_pos rfl]
    exact ⟨env, ok, hi.right.same s1, fr.same s1, q1⟩
  | false =>
    rw [if_neg (by decide)]
    exact Got.bl q1
theorem s_or {a b : Ex} {l : Expr} {r : List Expr} {p : Pos} (ha : SndE X ca cl W a l) (hb : PE X (.BoolOp .Or r p) (tE X.K ca cl W b)) (hw : PW X (.BoolOp .Or r p) (tT X.K ca cl W b)) (hr : r ≠ []) :
    SndE X ca cl W (.or a b) (.BoolOp .Or (l :: r) p) := by
  obtain ⟨y, r', rfl⟩ : ∃ y r', r = y :: r' := by
    cases r with
    | nil => exact absurd rfl hr
    | cons y r' => exact ⟨y, r', rfl⟩
  have w : PW X (.BoolOp .Or (l :: y :: r') p) (tT X.K ca cl W (.or a b)) := by
    refine PW.imp (pw_or ha.pt hw) fun σ H Q ⟨env, ok, hi, fr, hm⟩ => ?_
    have hm : PostP ca (WE W σ) H Q (((evE cl env a).bind fun x => (asB x).bind fun k => if k = true then .ok (.bl true) else evE cl env b).bind asB) := hm
    have hm : PostP ca (WE W σ) H Q (((evE cl env a).bind asB).bind fun k => if k = true then .ok true else (evE cl env b).bind asB) := by
      cases e : evE cl env a with
      | ok x =>
        rw [e] at hm
        cases x <;> first | exact hm | (rename_i k; cases k <;> exact hm)
      | exc c => rw [e] at hm; exact hm
      | bad => rw [e] at hm; exact hm
    refine ⟨env, ok, hi.left, fr, hm.bindp fun k H1 e1 s1 q1 => ?_⟩
    cases k with
    | true =>
      rw [if_pos rfl] at q1 ⊢
      exact q1 _ (Same.refl _)
    | false =>
      rw [if_neg (by decide)] at q1 ⊢
      exact ⟨env, ok, hi.right.same s1, fr.same s1, q1⟩
  refine ⟨PE.imp (pe_or ha.pe hb) fun σ H Q ⟨env, ok, hi, fr, hm⟩ => ⟨env, ok, hi.left, fr, hm.bindv fun x H1 v fp e1 s1 r1 f1 n1 q1 => ?_⟩, w.pt, fun _ _ _ _ => w⟩
  cases r1 <;> first | exact q1.elim | skip
  rename_i k
  refine ⟨k, rfl, ?_⟩
  cases k with
  | true =>
    rw [if_pos rfl]
    exact Got.bl q1
  | false =>
    rw [if_neg (by decide)]
    exact ⟨env, ok, hi.right.same s1, fr.same s1, q1⟩
theorem s_chn {op op' : Cop} {a b c : Ex} {l m r : Expr} {p : Pos} (hu : X.A.units + 80 < cLine) (ha : SndE X ca cl W a l) (hb : SndE X ca cl W b m) (hc : SndE X ca cl W c r) (hr : plainX r = true) :
    SndE X ca cl W (.chn op op' a b c) (.Compare l [pyC op, pyC op'] [m, r] p) := by
  have hmk : lastMarks [pyC op, pyC op'] [m, r] = false := mark_of hr
  have k : ∀ σ H Q, tE X.K ca cl W (.chn op op' a b c) σ H Q → tChain (rOp X.K (cmpop op)) (rOp X.K (cmpop op')) (tE X.K ca cl W a) (tE X.K ca cl W b) (tE X.K ca cl W c) σ H Q := fun σ H Q ⟨env, ok, hi, fr, hm⟩ => by
    refine ⟨env, ok, hi.left, fr, hm.bindv fun x H1 v fp e1 s1 r1 f1 n1 q1 => ?_⟩
    refine ⟨env, ok, hi.right.left.same s1, fr.same s1, q1.bindv fun y H2 u fp2 e2 s2 r2 f2 n2 q2 => ?_⟩
    have fr2 := (fr.same s1).same s2
    have ry := r2.fz (fr.same s1) f2
    cases e3 : cmpop op (frz x) (frz y) with
    | ok z =>
      rw [e3] at q2
      refine ⟨ok, frz x, frz y, z, fr2, (r1.fz fr f1).same s2, ry, e3, fun H3 w fp3 s3 r3 f3 n3 => ?_⟩
      replace q2 : Post X.K ca (WE W σ) ok H2 Q ((asB z).bind fun k => if k = true then (evE cl env c).bind fun u => cmpop op' (frz y) (frz u) else .ok (.bl false)) := q2
      cases r3 <;> first | exact q2.elim | skip
      rename_i k
      refine ⟨k, rfl, ?_⟩
      have q3 := q2.mono s3
      cases k with
      | true =>
        rw [if_pos rfl]
        refine ⟨env, ok, ((hi.right.right.same s1).same s2).same s3, fr2.same s3, Post.bindv q3 fun t H4 w4 fp4 e4 s4 r4 f4 n4 q4 => ?_⟩
        cases e5 : cmpop op' (frz y) (frz t) with
        | ok z4 =>
          rw [e5] at q4
          exact ⟨ok, frz y, frz t, z4, (fr2.same s3).same s4, (ry.same s3).same s4, r4.fz (fr2.same s3) f4, e5, q4⟩
        | exc c => exact absurd e5 cmpop_ne
        | bad => rw [e5] at q4; exact q4.elim
      | false =>
        rw [if_neg (by decide)]
        exact Got.bl q3
    | exc c => exact absurd e3 cmpop_ne
    | bad => rw [e3] at q2; exact q2.elim
  exact ⟨PE.imp (pe_chain (op_cmp hu op) (op_cmp hu op') ha.pe hb.pe hc.pe hmk) k, PT.imp (pt_chain (op_cmp hu op) (op_cmp hu op') ha.pe hb.pe hc.pe hmk) fun σ H Q h => tB_of k h, fun _ _ _ z => by cases z⟩
theorem evEs_len : ∀ {es : Exs} {env : PEnv} {xs : List PV}, evEs cl env es = .ok xs → xs.length = lenX es
  | .nil, _, _, h => by cases h; rfl
  | .cons e es, env, xs, h => by
    have h : ((evE cl env e).bind fun x => (evEs cl env es).bind fun xs => .ok (x :: xs)) = .ok xs := h
    cases e1 : evE cl env e with
    | ok x =>
      rw [e1] at h
      cases e2 : evEs cl env es with
      | ok ys =>
        rw [e2] at h
        cases h
        show ys.length + 1 = lenX es + 1
        rw [evEs_len e2]
      | exc c => rw [e2] at h; cases h
      | bad => rw [e2] at h; cases h
    | exc c => rw [e1] at h; cases h
    | bad => rw [e1] at h; cases h
theorem line1000 {m : Nat} (h : m ≤ 1000) : m ≤ sizeLine := by rw [sizeLine_eq]; omega
theorem s_tup {es : Exs} {xs : List Expr} {k : Nat} {p : Pos} (h : PA X xs (tAs X.K ca cl W es)) (hl : lenX es ≤ 1000) : SndE X ca cl W (.tup es) (.Tuple xs k p) := by
  refine snd_val (PE.imp (pe_tup h) fun σ H Q ⟨env, ok, hi, fr, hm⟩ => ⟨env, ok, hi, fr, Post.binda hm fun x H1 v fp e1 s1 r1 f1 n1 q1 => ⟨?_, fun q hq => ?_⟩⟩) rfl
  · rw [← r1.len, evEs_len e1]
    exact line1000 hl
  · have hm : Post X.K ca (WE W σ) ok H Q ((evEs cl env es).bind fun vs => .ok (.tup vs)) := hm
    rw [e1] at hm
    exact hm _ _ fp (s1.trans (same_upd hq)) (.tup (.of upd_same) (r1.same (same_upd hq))) f1 n1
theorem s_lst {es : Exs} {xs : List Expr} {p : Pos} (h : PA X xs (tAs X.K ca cl W es)) (hl : lenX es ≤ 1000) : SndE X ca cl W (.lst es) (.List xs p) := by
  refine snd_val (PE.imp (pe_lst h) fun σ H Q ⟨env, ok, hi, fr, hm⟩ => ⟨env, ok, hi, fr, Post.binda hm fun x H1 v fp e1 s1 r1 f1 n1 q1 => ⟨?_, fun q hq => ?_⟩⟩) rfl
  · rw [← r1.len, evEs_len e1]
    exact line1000 hl
  · have hm : Post X.K ca (WE W σ) ok H Q ((evEs cl env es).bind fun vs => .ok (.lst true vs)) := hm
    rw [e1] at hm
    refine hm _ _ (q :: fp) (s1.trans (same_upd hq)) (.lstO upd_same ((r1.inD.imp fun a z => ⟨z.1.1, fun e => by
      rcases List.mem_cons.mp e with e | e
      · obtain ⟨u, hu⟩ := z.2
        rw [e, hq] at hu
        cases hu
      · exact z.1.2 e⟩).same (same_upd hq))) (fun a z => ?_) (List.nodup_cons.mpr ⟨fun z => ?_, n1⟩)
    · rcases List.mem_cons.mp z with e | z
      · rw [e]; exact s1.free hq
      · exact f1 a z
    · obtain ⟨u, e, _⟩ := r1.dom q z
      rw [hq] at e
      cases e
theorem s_call {f : Nat} {es : Exs} {x : Str} {e : Expr} {xs : List Expr} {p p2 : Pos} (C : Cok X W tc cl n ca fa) (h : PA X (e :: xs) (tAs X.K ca cl W es)) (hp : ∀ y ∈ e :: xs, plainX y = true) (hg : glB tc.sc x = true) (ho : odd x = false) (hf : tc.fn.lookup x = some f) :
    SndE X ca cl W (.call f es) (.Call (.Name x p) (e :: xs) [] p2) := by
  obtain ⟨m1, m2, fd, ps, F, B, L⟩ := C.fns x f hf
  have hG : Gl X x := by
    rw [C.sc] at hg
    unfold glB at hg
    show X.env.scope.names.lookup x = _
    split at hg
    · assumption
    · cases hg
  have hd : (x == ("__debug__" : Str)) = false := by
    unfold odd at ho
    rw [Bool.or_eq_false_iff] at ho
    exact ho.1
  refine snd_val (PE.imp (pe_callS F C.room hG m1 m2 B C.pass h hd (star_of (hp e List.mem_cons_self)) (back_of fun y z => hp y (List.mem_cons_of_mem _ z))) fun σ H Q ⟨env, ok, hi, fr, hm⟩ => ⟨env, ok, hi, fr, Post.binda hm fun y H1 v fp e1 s1 r1 f1 n1 q1 => ?_⟩) rfl
  have q1 : Post X.K ca (WE W σ) ok H1 Q (cl f (frzs y)) := q1
  have ry := r1.fz fr f1
  refine ⟨?_, ok, frzs y, [], fr.same s1, (fun _ z => nomatch z), ry.imp fun a z => ⟨z, fun q => nomatch q⟩, .nil, q1.toC⟩
  rw [← ry.len]
  refine L _ fun z => ?_
  rw [z] at q1
  exact q1
theorem lenV_ne {x : PV} {c : Nat} : lenV x ≠ .exc c := fun h => by
  unfold lenV at h
  split at h <;> first | (cases h; done) | (split at h <;> cases h)
theorem sumV_ne {x : PV} {c : Nat} : sumV x ≠ .exc c := fun h => by
  unfold sumV at h
  split at h <;> first | (cases h; done) | (split at h <;> cases h)
theorem allV_ne {x : PV} {c : Nat} : allV x ≠ .exc c := fun h => by
  unfold allV at h
  split at h <;> first | (cases h; done) | (split at h <;> cases h)
theorem dctV_ne {x : PV} {c : Nat} : dctV x ≠ .exc c := by
  intro h
  unfold dctV at h
  split at h
  · cases h
  · split at h <;> cases h
  · cases h
theorem sortT_ne {xs : List PV} {c : Nat} : sortT xs ≠ .exc c := fun h => by
  unfold sortT at h
  split at h <;> first | (cases h; done) | (split at h <;> cases h)
theorem sortV_ne {x : PV} {c : Nat} : sortV x ≠ .exc c := fun h => by
  unfold sortV at h
  split at h <;> first | (cases h; done) | (split at h <;> first | (cases h; done) | (split at h <;> first | (cases h; done) | exact sortT_ne h))
theorem mnV_ne {x : PV} {c : Nat} : mnV x ≠ .exc c := fun h => by
  unfold mnV at h
  split at h <;> first | (cases h; done) | (split at h <;> cases h)
theorem mxV_ne {x : PV} {c : Nat} : mxV x ≠ .exc c := fun h => by
  unfold mxV at h
  split at h <;> first | (cases h; done) | (split at h <;> cases h)
theorem biV_ne {b : Bi} {vs : List PV} {c : Nat} : biV b vs ≠ .exc c := by
  intro h
  unfold biV at h
  split at h
  · rename_i x
    have is : ∀ o : Option Bool, isR o ≠ .exc c := fun o z => by
      unfold isR at z
      split at z <;> cases z
    cases b <;> first | exact is _ h | exact lenV_ne h | exact sumV_ne h | exact allV_ne h | exact sortV_ne h | exact mnV_ne h | exact mxV_ne h | cases h | exact dctV_ne h | (cases x <;> cases h)
  · rename_i x y
    cases b <;> first | cases h | (cases x <;> first | cases h | (cases y <;> cases h))
  · rename_i x y z
    cases b <;> first | cases h | (cases x <;> first | cases h | (cases y <;> first | cases h | (cases z <;> cases h)))
  · cases h
theorem gl_of (C : Cok X W tc cl n ca fa) {x : Str} (hg : glB tc.sc x = true) : Gl X x := by
  rw [C.sc] at hg
  unfold glB at hg
  show X.env.scope.names.lookup x = _
  split at hg
  · assumption
  · cases hg
theorem tCB_of {e : Ex} {es : Exs} {g : List PV → Res PV} (hv : vE e = vEs es) (he : ∀ env, evE cl env e = (evEs cl env es).bind fun vs => g (frzs vs)) (hg : ∀ x c, g x ≠ .exc c) {σ : L2.St} {H : Hp} {Q : VK} (h : tE X.K ca cl W e σ H Q) :
    tCB (rUn X.K g) (tAs X.K ca cl W es) σ H Q := by
  obtain ⟨env, ok, hi, fr, hm⟩ := h
  rw [hv] at hi
  rw [he] at hm
  refine ⟨env, ok, hi, fr, Post.binda hm fun y H1 v fp e1 s1 r1 f1 n1 q1 => ?_⟩
  cases e3 : g (frzs y) with
  | ok z =>
    rw [e3] at q1
    exact ⟨ok, frzs y, z, fr.same s1, r1.fz fr f1, e3, q1⟩
  | exc c => exact absurd e3 (hg _ c)
  | bad => rw [e3] at q1; exact q1.elim
theorem s_bi {b : Bi} {es : Exs} {e : Expr} {xs : List Expr} {p p2 : Pos} (C : Cok X W tc cl n ca fa) (h : PA X (e :: xs) (tAs X.K ca cl W es)) (hp : ∀ y ∈ e :: xs, plainX y = true) (hg : glB tc.sc (biNm b) = true) (hb : biHas b = true) :
    SndE X ca cl W (.bi b es) (.Call (.Name (biNm b) p) (e :: xs) [] p2) := by
  have hG := gl_of C hg
  have he := star_of (es := xs) (env := X.env) (hp e List.mem_cons_self)
  have hk := back_of (pos := p2) (env := X.env) fun y z => hp y (List.mem_cons_of_mem _ z)
  refine snd_val (PE.imp (t := tCB (rUn X.K (biV b)) (tAs X.K ca cl W es)) ?_ fun σ H Q h => tCB_of (g := biV b) rfl (fun _ => rfl) (fun _ _ => biV_ne) h) rfl
  cases b with
  | len => exact pe_callB (bi_op C.calm .len rfl) hG (C.blt _ (by decide +kernel)) PySem.boot_len h (by decide +kernel) (by decide +kernel) he hk
  | int => exact pe_callTy (bi_op C.calm .int rfl) hG (C.blt _ (by decide +kernel)) PyProof.Rows.boot_int h (by decide +kernel) (by decide +kernel) he hk
  | list => exact pe_callTy (bi_op C.calm .list rfl) hG (C.blt _ (by decide +kernel)) PyProof.Rows.boot_list h (by decide +kernel) (by decide +kernel) he hk
  | dict => exact pe_callTy (bi_op C.calm .dict rfl) hG (C.blt _ (by decide +kernel)) (by decide +kernel) h (by decide +kernel) (by decide +kernel) he hk
  | ftup => exact pe_callTy (bi_op C.calm .ftup rfl) hG (C.blt _ (by decide +kernel)) PyProof.Rows.boot_tuple h (by decide +kernel) (by decide +kernel) he hk
  | tuple => exact pe_callTy (bi_op C.calm .tuple rfl) hG (C.blt _ (by decide +kernel)) PyProof.Rows.boot_tuple h (by decide +kernel) (by decide +kernel) he hk
  | min => exact pe_callB (bi_op C.calm .min rfl) hG (C.blt _ (by decide +kernel)) PyProof.Rows.boot_min h (by decide +kernel) (by decide +kernel) he hk
  | sum => exact pe_callB (bi_op C.calm .sum rfl) hG (C.blt _ (by decide +kernel)) (by decide +kernel) h (by decide +kernel) (by decide +kernel) he hk
  | all => exact pe_callB (bi_op C.calm .all rfl) hG (C.blt _ (by decide +kernel)) (by decide +kernel) h (by decide +kernel) (by decide +kernel) he hk
  | sorted => exact pe_callB (bi_op C.calm .sorted rfl) hG (C.blt _ (by decide +kernel)) (by decide +kernel) h (by decide +kernel) (by decide +kernel) he hk
  | max => exact pe_callB (bi_op C.calm .max rfl) hG (C.blt _ (by decide +kernel)) PyProof.Rows.boot_max h (by decide +kernel) (by decide +kernel) he hk
  | _ => cases hb
theorem rps_strs {K : PySem.W.Frag} {H : Hp} {ok : Addr → Prop} : ∀ xs : List Str, (∀ x ∈ xs, PyData.strOk x = true) → Rps K H ok (xs.map PV.str) (xs.map V.str) []
  | [], _ => .nil
  | x :: xs, h => .cons0 (.str x (h x List.mem_cons_self)) (rps_strs xs fun y hy => h y (List.mem_cons_of_mem _ hy))
theorem s_con {g : Gk} {x : Str} {p : Pos} (C : Cok X W tc cl n ca fa) (hg : glB tc.sc x = true) (ho : odd x = false) (hl : tc.gl.lookup x = some g) : SndE X ca cl W (.con g) (.Name x p) := by
  have hG := gl_of C hg
  have hd : (x == ("__debug__" : Str)) = false := by
    unfold odd at ho
    rw [Bool.or_eq_false_iff] at ho
    exact ho.1
  have q := C.gls x g hl
  cases g with
  | int i =>
    obtain ⟨t, e⟩ := q
    exact snd_val (PE.imp (pe_glob (v := .int i) hG e ⟨t, rfl⟩ hd) fun σ H Q ⟨env, ok, hi, fr, hm⟩ => Got.int hm) rfl
  | str z =>
    obtain ⟨z1, t, e⟩ := q
    exact snd_val (PE.imp (pe_glob (v := .str z) hG e ⟨t, rfl⟩ hd) fun σ H Q ⟨env, ok, hi, fr, hm⟩ => Got.str hm z1) rfl
  | txs xs =>
    obtain ⟨z1, a, ob, its, m, e, k1, k2, k3, k4, k5, k6⟩ := q
    refine snd_val (PE.imp (pe_glob (v := .ref a) hG e rfl hd) fun σ H Q ⟨env, ok, hi, fr, hm⟩ => ?_) rfl
    replace hm : Got X.K H ok Q (.tup (xs.map PV.str)) := hm
    exact hm.old (.tup (.inr ⟨ob, its, m, k1, k2, k4, k5, k6⟩) (rps_strs xs z1))
theorem s_dnew {p : Pos} : SndE X ca cl W .dnew (.Dict [] [] p) := by
  refine snd_val (PE.imp pe_dnewK fun σ H Q ⟨env, ok, hi, fr, hm⟩ p hp => ?_) rfl
  replace hm : Got X.K H ok Q (.dct true [] []) := hm
  exact hm.dct (vs := []) .nil ⟨rfl, rfl⟩ hp
end
end BW

/-! sorted(set(xs)), xs a list of texts. -/
namespace BW
open PySem PySem.Spec PyProof.Rows PySem.Froz
open L2 hiding St
def newS (w : World) : Obj := sObj "set" (#[], 0, .fresh 0 0 (!w.params.followText "set-order"))
/-- the texts L are the set at a -/
def STx (P : Program) (w : World) (h : Heap) (a : Addr) (L : List Str) : Prop := ∃ D : SD, h.get? a = some (sObj "set" D) ∧ TxOk P w D L ∧ Ris D.2.2.place.toList ∧ (w.params.followText "set-order" = true ∨ D.2.2.led = true)
def STn (P : Program) (w : World) (h : Heap) (a : Addr) (xs : List Str) : Prop := ∃ L, L.Nodup ∧ (∀ z, z ∈ L ↔ z ∈ xs) ∧ STx P w h a L
theorem STx.at {P : Program} {w : World} {h h' : Heap} {a : Addr} {L : List Str} (q : STx P w h a L) (k : ∀ o, h.get? a = some o → h'.get? a = some o) : STx P w h' a L := by
  obtain ⟨D, q1, q2⟩ := q
  exact ⟨D, k _ q1, q2⟩
theorem tail_ris {ep : Nat} {es : Array (Int × Value)} {t : SetTable} {b : Bool} (r : Ris t.place.toList) : Ris (tailTx ep es t b).2.2.place.toList := by
  unfold tailTx
  split
  · exact relayAll_ris _ _ _
  · exact r
theorem tail_led {ep : Nat} {es : Array (Int × Value)} {t : SetTable} {b : Bool} : (tailTx ep es t b).2.2.led = t.led := by
  unfold tailTx
  split
  · exact relayAll_led _ _ _
  · rfl
theorem addTx_ris {D : SD} {h : Int} {v : Value} (r : Ris D.2.2.place.toList) : Ris (addTx h v D).2.2.place.toList := by
  have q := layNew_ris D.2.2 D.1 h v r
  unfold addTx
  refine tail_ris ?_
  split <;> exact q
theorem addTx_led {D : SD} {h : Int} {v : Value} : (addTx h v D).2.2.led = D.2.2.led := by
  have q := layNew_led D.2.2 D.1 h v
  unfold addTx
  rw [tail_led]
  split <;> exact q
section
variable {P : Program} {w : World} {A : Around} {E : Value → Shared → Prop} {s : Shared}
/-- a text that is in it already -/
theorem add_old {a : Addr} {T : String} {D : SD} {l : List Str} {k : Str} {u : Tok} {Q : Bool → Shared → Prop} (ho : s.heap.get? a = some (sObj T D)) (F : TxOk P w D l) (hk : k ∈ l) (hb : l.length < scanBound) (h : Q false s) :
    wpAny (model P w) A (setAddHashed a (.str k u) (hashStr w k)) Q E s := by
  obtain ⟨es, ep, t⟩ := D
  have b0 : es.size < scanBound := by rw [show es.size = l.length from F.sz]; exact hb
  have el : ElemsOf (strKind P w) es.toList := F.el
  have st : List.findIdx? (fun e => (strKind P w).is k e.2) es.toList ≠ none := fun z => by
    obtain ⟨e, he, q⟩ := (F.mem k).mp hk
    have c := List.findIdx?_eq_none_iff.mp z e he
    rw [q] at c
    cases c
  unfold setAddHashed setAddHashedIn
  refine wpAny_holding (wpAny_bind (wpAny_setState_of ho (show (sObj T (es, ep, t)).data = .set es ep t from rfl) F.fit ?_))
  dsimp only
  rw [byScan_of rfl b0 el]
  simp only [↓reduceIte]
  unfold setAddByScan
  refine wpAny_bind (wpAny_bind (wpAny_rule (wpAny_bind (wpAny_setScan_of (knd := strKind P w) (k := k) (is_str k u) ho (show (sObj T (es, ep, t)).data = .set es ep t from rfl) F.fit el ?_))))
  cases c : List.findIdx? (fun e => (strKind P w).is k e.2) es.toList with
  | none => exact absurd c st
  | some j =>
    dsimp only
    exact wpAny_pure (wpAny_pure h)
/-- one more text -/
theorem stn_add {a : Addr} {xs : List Str} {k : Str} {u : Tok} {Q : Bool → Shared → Prop} (q : STn P w s.heap a xs) (hb : xs.length + 1 < scanBound)
    (h : ∀ b h', Heap.SameBut a s.heap h' → STn P w h' a (xs ++ [k]) → Q b { s with heap := h' }) : wpAny (model P w) A (setAddHashed a (.str k u) (hashStr w k)) Q E s := by
  obtain ⟨L, nd, mm, D, q1, q2, q3, q4⟩ := q
  have hl : L.length ≤ xs.length := by
    have len : ∀ (l ys : List Str), l.Nodup → (∀ x ∈ l, x ∈ ys) → l.length ≤ ys.length := fun l => by
      induction l with
      | nil => exact fun _ _ _ => Nat.zero_le _
      | cons x l ih =>
        intro ys n1 h1
        obtain ⟨n2, n3⟩ := List.nodup_cons.mp n1
        have hx := h1 x List.mem_cons_self
        have r := ih (ys.erase x) n3 fun y hy => (List.mem_erase_of_ne fun e => n2 (by rw [← e]; exact hy)).mpr (h1 y (List.mem_cons_of_mem _ hy))
        have := List.length_pos_of_mem hx
        rw [List.length_erase_of_mem hx] at r
        rw [List.length_cons]
        omega
    exact len L xs nd fun x hx => (mm x).mp hx
  by_cases hk : k ∈ L
  · refine add_old q1 q2 hk (by omega) (h false s.heap (Heap.SameBut.refl a _) ⟨L, nd, fun z => ?_, D, q1, q2, q3, q4⟩)
    rw [mm z, List.mem_append, List.mem_singleton]
    exact ⟨.inl, fun z => z.elim id fun e => by rw [e]; exact (mm k).mp hk⟩
  · refine add_x q1 q2 hk (by omega) (h true _ (Heap.SameBut.update _ a _) ⟨k :: L, List.nodup_cons.mpr ⟨hk, nd⟩, fun z => ?_, _, get_upd _ q1 rfl, add_ok u q2, addTx_ris q3, q4.imp id fun z => by rw [addTx_led]; exact z⟩)
    rw [List.mem_cons, mm z, List.mem_append, List.mem_singleton]
    exact Or.comm
end
section
variable {prog : Program} {w : World} {A : Around} {R : Result → Shared → Prop} {I : Addr} {fp wr : List Addr} {G : Array GenState → Array GenState → Prop} {n : Nat} {Pv : Nat → Value → Prop} {St : Nat → Shared → Prop}
theorem loopT (W : WalksS prog w A.in1 I fp wr G n Pv St) (S : Addr) (hS : S ∉ fp) (xs : List Str) (hn : xs.length = n) (hb : n + 1 < scanBound) (hv : ∀ i v, Pv i v → ∃ t z, xs[i]? = some z ∧ v = .str z t) :
    ∀ (k i : Nat) (s : Shared), n - i = k → i ≤ n → St i s → STn prog w s.heap S (xs.take i) → (∀ s', Moved (S :: wr) G s s' → STn prog w s'.heap S xs → R (.ok (.ret .none)) s') →
      codeAny (model prog w) A (.builtin "set.update.loop" ⟨[.ref S, .ref I], []⟩) R s := by
  have sw : S ∉ wr := fun h => hS (W.sub _ h)
  have sb : ∀ b ∈ wr, b ∈ S :: wr := fun b h => List.mem_cons_of_mem _ h
  have kp : ∀ {s s' : Shared} {ys : List Str}, Moved wr G s s' → STn prog w s.heap S ys → STn prog w s'.heap S ys := fun m q => by
    obtain ⟨L, nd, mm, q⟩ := q
    exact ⟨L, nd, mm, q.at fun o e => m.heap S o sw e⟩
  intro k
  induction k with
  | zero =>
    intro i s e1 e2 hst q hR
    obtain rfl : i = n := by omega
    (refine codeAny_builtin PyProof.Rows.F.entry_set_update_loop ?_; rw [Around.under_plainId PyProof.Rows.F.plain_set_update_loop _])
    show wpAny _ A.in1 (pyNext (.ref I) >>= fun x => _) _ _ s
    refine wpAny_bind (W.done s _ _ hst fun s1 m => ?_)
    show wpAny (model prog w) A.in1 (ret .none) _ _ s1
    refine wpAny_pure (hR s1 (m.mono sb) ?_)
    rw [← List.take_of_length_le (l := xs) (i := i) (by omega)]
    exact kp m q
  | succ k ih =>
    intro i s e1 e2 hst q hR
    have hi : i < n := by omega
    (refine codeAny_builtin PyProof.Rows.F.entry_set_update_loop ?_; rw [Around.under_plainId PyProof.Rows.F.plain_set_update_loop _])
    show wpAny _ A.in1 (pyNext (.ref I) >>= fun x => _) _ _ s
    refine wpAny_bind (W.item i s _ _ hi hst fun v s1 pv st1 m => ?_)
    obtain ⟨t, z, ez, rfl⟩ := hv i v pv
    show wpAny _ A.in1 (holding [Value.str z t] (setAdd S (.str z t)) >>= fun x => _) _ _ s1
    refine wpAny_bind (wpAny_holding ?_)
    unfold setAdd
    refine wpAny_holding (wpAny_bind ((strKind prog w).pyHash (k := z) (is_str z t) ?_))
    have et : xs.take (i + 1) = xs.take i ++ [z] := by rw [List.take_succ, ez]; rfl
    refine stn_add (P := prog) (s := { s1 with toks := s1.toks + 1 }) (show STn prog w s1.heap S (xs.take i) from kp m q) (by rw [List.length_take]; omega) fun b h' sm q2 => ?_
    rw [← et] at q2
    refine wpAny_pure ⟨plainId_quiet PyProof.Rows.F.plain_set_update_loop _, ih (i + 1) _ (by omega) hi (W.frame _ s1 _ _ st1 (Nat.le_succ _) fun b hb o e => ?_) q2 fun s2 m2 q3 => ?_⟩
    · exact (sm.2 b (fun z => hS (by rw [← show b = S from z]; exact hb))).trans e
    · refine hR s2 (Moved.trans W.gtrans ((m.mono sb).then_heap (Nat.le_succ _) fun b o hb e => ?_) m2) q3
      exact (sm.2 b (fun z => hb (by rw [show b = S from z]; exact List.mem_cons_self))).trans e
end
section
variable {P : Program} {w : World} {A : Around} {E : Value → Shared → Prop} {s : Shared}
theorem stn_new {h : Heap} {a : Addr} (ho : h.get? a = some (newS w)) : STn P w h a [] :=
  ⟨[], .nil, fun _ => Iff.rfl, _, ho, TxOk.nil rfl, List.Pairwise.nil, by
    show _ ∨ (!w.params.followText "set-order") = true
    cases w.params.followText "set-order" <;> simp⟩
theorem strs_ix {us : List Value} {xs : List Str} (r : StrsAre us xs) : ∀ (i : Nat) (v : Value), us[i]? = some v → ∃ (t : Tok) (z : Str), xs[i]? = some z ∧ v = Value.str z t := by
  induction r with
  | nil => exact fun i v h => by simp at h
  | cons x t _ ih =>
    intro i v h
    cases i with
    | zero =>
      rw [List.getElem?_cons_zero] at h
      cases h
      exact ⟨t, x, rfl, rfl⟩
    | succ i =>
      rw [List.getElem?_cons_succ] at h
      exact ih i v h
/-- set(xs) -/
theorem call_setT {l : Addr} {its : Array Value} {xs : List Str} {Q : Value → Shared → Prop} (hh : A.handled = none) (hl : s.heap.IsList l its) (hi : StrsAre its.toList xs) (hb : xs.length + 1 < scanBound)
    (h : ∀ (h' : Heap) (tk : Nat), STn P w h' s.heap.objs.size xs → (∀ b o, s.heap.get? b = some o → h'.get? b = some o) → Q (.ref s.heap.objs.size) { s with heap := h', toks := tk }) :
    wpAny (model P w) A (call (.type "set") [.ref l]) Q E s := by
  have hn : its.size = xs.length := by rw [← Array.length_toList, StrsAre.length hi]
  obtain ⟨_, _, mro⟩ := PySem.F.called_set.mro
  have made := PySem.F.called_set.made
  have sub := PySem.F.called_set.sub
  have g1 := PySem.F.called_set.notType
  have g2 := PySem.F.called_set.canCreate
  have g3 := PySem.F.typeCall_set_1 (.ref l)
  refine wpAny_call (codeAny_of_tree (show wpAny _ _ (callAny (.type "set") _) _ _ _ from wpAny_pure ⟨Code.quiet_builtin _ (by decide +kernel), codeAny_builtin PySem.F.entry_type_call ?_⟩))
  rw [Around.under_plain (weight_type_call_type "set" [Value.ref l] []) rfl]
  (repeat any_goals first | assumption | wp_step)
  refine codeAny_mono (code_set_led1 (.ref l) (E := E) (Q₁ := fun o s1 => o = .ref s.heap.objs.size ∧ s1 = { s with heap := s.heap.push (newS w) }) ⟨rfl, rfl⟩) fun r s1 hr => ?_
  match r, hr with
  | .ok (.ret o), hr =>
    obtain ⟨rfl, rfl⟩ := hr
    have hS : (s.heap.push (newS w)).get? s.heap.objs.size = some (newS w) := Heap.get?_push_size _ rfl
    have hT : Shared.TypeIs { s with heap := s.heap.push (newS w) } (.ref s.heap.objs.size) "set" := ⟨_, hS, rfl⟩
    have i1 := PySem.F.called_set.init.lookup
    have i2 := PySem.F.called_set.init.bind (.ref s.heap.objs.size)
    (repeat any_goals first | assumption | wp_step)
    refine codeAny_mono (codeAny_call_builtin (R := wants (fun r s2 => r = .none ∧ ∃ h' tk, s2 = { s with heap := h', toks := tk } ∧ STn P w h' s.heap.objs.size xs ∧ (∀ b o, s.heap.get? b = some o → h'.get? b = some o)) E) PySem.F.called_set.init.plain PySem.F.entry_set_init (check_set_init_1 hT ?_)) fun r2 s2 hr2 => ?_
    · obtain ⟨⟨oc, od, dt, osl⟩, ho, hc, nl, hd⟩ := hl
      simp only at hc hd
      subst hc hd
      have ho2 : (s.heap.push (newS w)).get? l = some { cls := .type "list", dict := od, data := .seq its nl, slots := osl } := Heap.get?_push_of_some _ ho
      have n1 := PySem.F.sub_list_set
      have n2 := PySem.F.sub_list_frozenset
      have n3 : (Value.type "list" == Value.type "dict") = false := by decide
      have l1 : (s.heap.push (newS w)).IsList l its := ⟨_, ho2, rfl, nl, rfl⟩
      unfold Builtin.«set.__init__» noKeywords Builtin.Frozenset.updateFrom
      generalize hI : pyIter = PI
      wp_walk
      subst hI
      refine wpAny_pyIter_list l1 (wpAny_bind (wpAny_runValue ?_))
      have ll : l < s.heap.objs.size := Heap.lt_size ho
      have h3 : A.in1.in1.in1.handled = none := by simp [hh]
      have z1 : (s.heap.push (newS w)).objs.size = s.heap.objs.size + 1 := Heap.size_push ..
      refine loopT ((Walks.list h3 _ l (by rw [z1]; exact Nat.ne_of_lt (Nat.lt_succ_of_lt ll)) its).toS) s.heap.objs.size (by rw [z1]; simp only [List.mem_cons, List.not_mem_nil, or_false, not_or]; exact ⟨Nat.ne_of_lt (Nat.lt_succ_self _), Nat.ne_of_gt ll⟩) xs hn.symm (by rw [hn]; exact hb) (fun i v hv => strs_ix hi i v (by rw [Array.getElem?_toList]; exact hv)) (its.size - 0) 0 _ (by omega) (Nat.zero_le _)
        ⟨⟨_, Heap.get?_push_size _ rfl, rfl, rfl⟩, l1.push _⟩ (stn_new (Heap.get?_push_of_some _ hS)) fun s' m q => ?_
      obtain ⟨h', g2, d2, tk, os2⟩ := s'
      obtain rfl : g2 = s.gens := m.gens
      obtain rfl : d2 = s.drawn := m.drawn
      obtain rfl : os2 = s.os := m.os
      refine wpAny_pure (show wpAny _ _ (ret Value.none) _ _ _ from wpAny_pure ⟨rfl, h', tk, rfl, q, fun b o e => ?_⟩)
      have lb := Heap.lt_size e
      refine m.heap b o (fun z => ?_) (Heap.get?_push_of_some _ (Heap.get?_push_of_some _ e))
      rw [z1] at z
      simp only [List.mem_cons, List.not_mem_nil, or_false] at z
      rcases z with z | z
      · exact absurd lb (by rw [z]; exact Nat.lt_irrefl _)
      · exact absurd lb (by rw [z]; exact Nat.not_lt.mpr (Nat.le_succ _))
    · match r2, hr2 with
      | .ok (.ret r), hr2 =>
        obtain ⟨rfl, h', tk, rfl, q, k⟩ := hr2
        (repeat any_goals first | assumption | wp_step)
        exact h h' tk q k
      | .error e, hr2 => exact hr2
  | .error e, hr => exact hr
end
section
variable {P : Program} {w : World} {A : Around} {E : Value → Shared → Prop} {s : Shared}
theorem strsOf {L : List Str} {es : Array (Int × Value)} {ep : Nat} {t : SetTable} (F : TxOk P w (es, ep, t) L) (nd : L.Nodup) : ∃ ys, StrsAre (es.toList.map (·.2)) ys ∧ ys.Perm L := by
  have gen : ∀ l : List (Int × Value), (∀ e ∈ l, e ∈ es.toList) → ∃ ys, StrsAre (l.map (·.2)) ys := fun l => by
    induction l with
    | nil => exact fun _ => ⟨[], .nil⟩
    | cons e l ih =>
      intro h
      obtain ⟨ys, r⟩ := ih fun x hx => h x (List.mem_cons_of_mem _ hx)
      obtain ⟨⟨k, hk, _⟩, _⟩ := F.el e (h e List.mem_cons_self)
      have hk : Value.isStrOf k e.2 = true := hk
      cases q : e.2 with
      | str x u => exact ⟨x :: ys, by rw [List.map_cons, q]; exact .cons x u r⟩
      | _ => rw [q] at hk; simp [Value.isStrOf] at hk
  obtain ⟨ys, r⟩ := gen es.toList fun _ h => h
  refine ⟨ys, r, ?_⟩
  have len : ys.length = L.length := by
    have q := StrsAre.length r
    rw [List.length_map, Array.length_toList] at q
    have z : es.size = L.length := F.sz
    omega
  have mem : ∀ z, z ∈ ys ↔ z ∈ L := fun z => by
    rw [F.mem z]
    have go : ∀ {l : List (Int × Value)} {ys : List Str}, StrsAre (l.map (·.2)) ys → (z ∈ ys ↔ ∃ e ∈ l, (strKind P w).is z e.2 = true) := fun {l} => by
      induction l with
      | nil =>
        intro ys r
        cases r
        simp
      | cons e l ih =>
        intro ys r
        rw [List.map_cons] at r
        generalize he : e.2 = v at r
        cases r with
        | cons x u r =>
          have q := ih r
          have e1 : (strKind P w).is z e.2 = true ↔ z = x := by
            rw [he]
            constructor
            · intro h
              exact (strKind P w).inj (.str x u) z x h (is_str x u)
            · intro h
              rw [h]
              exact is_str x u
          simp only [List.mem_cons, q]
          constructor
          · rintro (h | ⟨f, hf, h⟩)
            · exact ⟨e, .inl rfl, e1.mpr h⟩
            · exact ⟨f, .inr hf, h⟩
          · rintro ⟨f, rfl | hf, h⟩
            · exact .inl (e1.mp h)
            · exact .inr ⟨f, hf, h⟩
    exact go r
  have n2 : ys.Nodup := by
    refine Classical.byContradiction fun no => ?_
    have key : ∀ (l m : List Str), l.Nodup → (∀ x ∈ l, x ∈ m) → l.length ≤ m.length := fun l => by
      induction l with
      | nil => exact fun _ _ _ => Nat.zero_le _
      | cons x l ih =>
        intro m n1 h1
        obtain ⟨n2, n3⟩ := List.nodup_cons.mp n1
        have hx := h1 x List.mem_cons_self
        have r := ih (m.erase x) n3 fun y hy => (List.mem_erase_of_ne fun e => n2 (by rw [← e]; exact hy)).mpr (h1 y (List.mem_cons_of_mem _ hy))
        have := List.length_pos_of_mem hx
        rw [List.length_erase_of_mem hx] at r
        rw [List.length_cons]
        omega
    have dup : ∀ l : List Str, ¬ l.Nodup → ∃ m : List Str, m.length < l.length ∧ ∀ x ∈ l, x ∈ m := fun l => by
      induction l with
      | nil => exact fun h => absurd List.nodup_nil h
      | cons x l ih =>
        intro h
        by_cases hx : x ∈ l
        · exact ⟨l, Nat.lt_succ_self _, fun y hy => (List.mem_cons.mp hy).elim (fun e => by rw [e]; exact hx) id⟩
        · obtain ⟨m, m1, m2⟩ := ih fun q => h (List.nodup_cons.mpr ⟨hx, q⟩)
          exact ⟨x :: m, by rw [List.length_cons, List.length_cons]; omega, fun y hy => (List.mem_cons.mp hy).elim (fun e => by rw [e]; exact List.mem_cons_self) fun hy => List.mem_cons_of_mem _ (m2 y hy)⟩
    obtain ⟨m, m1, m2⟩ := dup ys no
    have := key L m nd fun x hx => m2 x ((mem x).mpr hx)
    omega
  exact (List.perm_ext_iff_of_nodup n2 nd).mpr mem
/-- sorted(a set of texts) -/
theorem sorted_setS {a : Addr} {L : List Str} {Q : Value → Shared → Prop} (R : STx P w s.heap a L) (nd : L.Nodup) (hb : L.length < scanBound) (hh : A.handled = none)
    (hQ : ∀ s' p (out : Array Value) (c : Nat) (ys : List Str), (∀ b o, s.heap.get? b = some o → s'.heap.get? b = some o) → s'.gens = s.gens → s'.os = s.os → s.heap.objs.size ≤ p →
      s'.heap.get? p = some (seqObj "list" out c) → StrsAre out.toList ys → ys.Perm L → sortedS ys = true → Q (.ref p) s') :
    wpAny (model P w) A (call (.builtin "sorted") [.ref a]) Q E s := by
  obtain ⟨⟨es, ep, t⟩, ho, F, hr, hl⟩ := R
  obtain ⟨zs, z1, z2⟩ := strsOf F nd
  have hz : es.size = L.length := F.sz
  refine Calls.call_function_entry kind_sorted plain_sorted entry_sorted (args_sorted1 _) ?_
  unfold Builtin.«sorted»
  refine wpAny_bind (m := checkCount "sorted" 1 1 _) (wpAny_pure (wpAny_bind (collect_set (A := A.in1) hh ⟨_, ho, rfl, rfl⟩ F.fit (by rw [hz]; exact hb) hr hl fun s1 vs k1 sz g1 o1 pm => ?_)))
  have vl : vs.length = L.length := by rw [pm.length_eq, List.length_map, Array.length_toList]; exact hz
  have vL : vs.length ≤ sizeLine := by
    have q := fits_of_scanBound hb
    rw [vl]
    exact q
  obtain ⟨us, u1, u2⟩ : ∃ us, StrsAre vs us ∧ us.Perm zs := by
    have go : ∀ {l m : List Value} (p : l.Perm m) {ys : List Str}, StrsAre m ys → ∃ us, StrsAre l us ∧ us.Perm ys := fun {l m} p => by
      induction p with
      | nil => exact fun r => ⟨_, r, .refl _⟩
      | cons x _ ih =>
        intro ys r
        cases r with
        | cons n u r =>
          obtain ⟨us, h1, h2⟩ := ih r
          exact ⟨n :: us, .cons n u h1, h2.cons n⟩
      | swap x y l =>
        intro ys r
        cases r with
        | cons n u r =>
          cases r with
          | cons n2 u2 r => exact ⟨_, .cons n2 u2 (.cons n u r), .swap ..⟩
      | trans _ _ i1 i2 =>
        intro ys r
        obtain ⟨us, h1, h2⟩ := i2 r
        obtain ⟨us2, h3, h4⟩ := i1 h1
        exact ⟨us2, h3, h4.trans h2⟩
    exact go pm z1
  refine wpAny_bind (wpAny_newList ?_ vL)
  have hoL : (s1.heap.push (seqObj "list" vs.toArray 0)).get? s1.heap.objs.size = some (seqObj "list" vs.toArray 0) := Heap.get?_push_size _ rfl
  refine wpAny_bind (wpAny_holding (wpAny_call_entry slot_list_sort ⟨_, hoL, rfl⟩ entry_list_sort (list_sort_treeKAny strKind_oneLt hoL u1.keysOf (fun v₁ v₂ rest e => keyKind_strs (by rw [← e]; exact u1)) vL fun st hp hs => ⟨_, rfl, ?_⟩) (args_list_sort _)))
  obtain ⟨ys, y1, y2, y3⟩ := sorted_out_str u1 hp hs
  obtain ⟨c, hc⟩ := sortedHeap_at (vs := vs) (out := (arrOf st).map (·.2)) hoL
  refine wpAny_pure ⟨_, rfl, hQ _ s1.heap.objs.size _ c ys (fun b u e => ?_) g1 o1 sz hc y1 ((y2.trans u2).trans z2) y3⟩
  have q := k1 b u e
  have lt := Heap.lt_size q
  show (sortedHeap (s1.heap.push (seqObj "list" vs.toArray 0)) s1.heap.objs.size vs ((arrOf st).map (·.2))).get? b = some u
  rw [sortedHeap_old (Nat.ne_of_lt lt) (by rw [size_push']; exact Nat.lt_succ_of_lt lt)]
  exact Heap.get?_push_of_some _ q
end
/-- as a thing of the abstract heap -/
def STO (P : Program) (w : World) (a : Addr) (L : List Str) : HO := .ext fun h => STx P w h a L
section
variable {X : Cx}
def rSetT (K : PySem.W.Frag) (P : Program) (w : World) : List V → Hp → VK → Prop := fun vs H Q => ∃ (l : Addr) (xs : List Str), vs = [V.ref l] ∧ SqL K H l (xs.map V.str) ∧ xs.length + 1 < scanBound ∧
  ∀ a L, H a = none → L.Nodup → (∀ z, z ∈ L ↔ z ∈ xs) → Q (.ref a) (upd H a (STO P w a L))
theorem cr_setT (hc : X.calm = true) : CallR X (.type "set") (rSetT X.K X.prog X.w) := by
  intro pins s σ H vs us Q I r h
  obtain ⟨l, xs, rfl, hl, hb, q⟩ := h
  rw [Vals.ref1 r]
  obtain ⟨its, rv, pl, hz⟩ := I.list hl
  refine call_setT (P := X.prog) (w := X.w) (xs := xs) (I.ok.hd hc) pl.isList (by simpa using rv.strs) hb fun h' tk st k => ?_
  obtain ⟨L, nd, mm, T⟩ := st
  refine ⟨.ref s.heap.objs.size, upd H s.heap.objs.size (STO X.prog X.w s.heap.objs.size L), I.laid (t' := tk) k (Nat.le_refl _) ?_, rfl, q _ L (I.hok.fresh (Nat.le_refl _)) nd mm⟩
  have ⟨D, d1, d2⟩ := T
  exact ⟨T, ⟨_, d1⟩, fun h1 h2 p kk => STx.at p kk⟩
def rSortT (P : Program) (w : World) : List V → Hp → VK → Prop := fun vs H Q => ∃ (a : Addr) (L : List Str), vs = [V.ref a] ∧ H a = some (STO P w a L) ∧ L.Nodup ∧ L.length < scanBound ∧
  ∀ (ys : List Str) (p : Addr), ys.Perm L → sortedS ys = true → H p = none → Q (.ref p) (upd H p (.lst (ys.map V.str)))
theorem cr_sortT (hc : X.calm = true) : CallR X (.builtin "sorted") (rSortT X.prog X.w) := by
  intro pins s σ H vs us Q I r h
  obtain ⟨a, L, rfl, ha, nd, hb, q⟩ := h
  have T : STx X.prog X.w s.heap a L := (I.hok a _ ha).1
  rw [Vals.ref1 r]
  refine sorted_setS T nd hb (I.ok.hd hc) fun s' p out c ys k g o hp hg hy pm so => ?_
  have hlen : (ys.map V.str).length ≤ sizeLine := by
    rw [List.length_map, pm.length_eq]
    exact fits_of_scanBound hb
  have hn : H p = none := I.hok.fresh hp
  have J : Inv X pins σ (upd H p (.lst (ys.map V.str))) { s with heap := s'.heap, gens := s'.gens, drawn := s'.drawn, toks := s'.toks } :=
    I.call (ch := []) (Un.laid k hp hn) (I.hok.laid k hp ⟨hlen, out.toList, c, vals_of_strs hy, hg⟩) (by rw [g]; exact I.bare) (fun _ z => nomatch z)
  obtain ⟨h', g', d', tk, os⟩ := s'
  obtain rfl : os = s.os := o
  exact ⟨.ref p, _, J, rfl, q ys p pm so hn⟩
end
end BW

/-! What is walked. -/
namespace BW
open PySem PySem.Spec L2

def KeepM (M : Addr → Prop) (H H' : Hp) : Prop := ∀ a o, H a = some o → ¬ M a → H' a = some o
/-- J walks these things, while all but what is at M stays -/
structure Wk (K : PySem.W.Frag) (okx M : Addr → Prop) (J : It) (items : List PV) (H0 : Hp) : Prop where
  go : ∀ i H, KeepM M H0 H → i < items.length → J.go i H
  yld : ∀ i H x H', KeepM M H0 H → i < items.length → J.yld i H x H' → Same H H' ∧ ∃ pv, items[i]? = some pv ∧ Rp K H' okx pv x []
  stop : ∀ i H, KeepM M H0 H → items.length ≤ i → J.stop i H
def PostI (K : PySem.W.Frag) (ca : Nat → Addr) (E : XK) (ok : Addr → Prop) (H : Hp) (R : It → Hp → Prop) : Res (PV × List PV) → Prop
  | .ok p => ∀ J H' okx, Same H H' → (∀ a, okx a → (H a = none ∨ (cls p.1 = false ∧ ok a)) ∧ ∃ u, H' a = some u) → (∀ M, (∀ a, okx a → ¬ M a) → (∀ a, M a → ∃ u, H' a = some u ∧ isMu u = true) → Wk K okx M J p.2 H') → R J H'
  | .exc c => ∀ (d : Unit) H', Same H H' → E (.ref (ca c)) none H'
  | .bad => False
section
variable {K : PySem.W.Frag} {ca : Nat → Addr} {E : XK} {ok okx M : Addr → Prop} {H H0 H1 : Hp} {items : List PV} {vs : List V} {a : Addr}
theorem rp_at {i : Nat} (r : Rps K H okx items vs []) (hi : i < items.length) : ∃ pv v, items[i]? = some pv ∧ vs[i]? = some v ∧ Rp K H okx pv v [] := by
  have e : items[i]? = some items[i] := List.getElem?_eq_getElem hi
  obtain ⟨v, h1, h2⟩ := r.get e
  exact ⟨_, v, e, h1, h2⟩
theorem wk_list (hr : Rd H0 a (.lst vs)) (ha : okx a) (r : Rps K H0 okx items vs []) (hM : ∀ a, okx a → ¬ M a) (hm : ∀ a, M a → ∃ u, H0 a = some u ∧ isMu u = true) : Wk K okx M (Itl K a) items H0 where
  go := fun i H k hi => by
    obtain ⟨pv, v, e1, e2, _⟩ := rp_at r hi
    exact ⟨vs, v, .inl (rd_keep k (hM a ha) hr), e2⟩
  yld := fun i H x H' k hi y => by
    obtain ⟨e, y⟩ := y
    subst e
    obtain ⟨pv, v, e1, e2, q⟩ := rp_at (r.keep k hm (fun _ z => z) hM (fun _ z => nomatch z)) hi
    have e3 := y vs (.inl (rd_keep k (hM a ha) hr))
    rw [e2] at e3
    cases e3
    exact ⟨Same.refl _, pv, e1, q⟩
  stop := fun i H k hi => ⟨vs, .inl (rd_keep k (hM a ha) hr), by rw [← r.len]; exact hi⟩
theorem wk_tup (hr : SqT K H0 a vs) (r : Rps K H0 okx items vs []) (hM : ∀ a, okx a → ¬ M a) (hm : ∀ a, M a → ∃ u, H0 a = some u ∧ isMu u = true) : Wk K okx M (Itt K a) items H0 where
  go := fun i H k hi => by
    obtain ⟨pv, v, e1, e2, _⟩ := rp_at r hi
    exact ⟨vs, v, sqT_keep k hm hr, e2⟩
  yld := fun i H x H' k hi y => by
    obtain ⟨e, y⟩ := y
    subst e
    obtain ⟨pv, v, e1, e2, q⟩ := rp_at (r.keep k hm (fun _ z => z) hM (fun _ z => nomatch z)) hi
    have e3 := y vs (sqT_keep k hm hr)
    rw [e2] at e3
    cases e3
    exact ⟨Same.refl _, pv, e1, q⟩
  stop := fun i H k hi => ⟨vs, sqT_keep k hm hr, by rw [← r.len]; exact hi⟩
theorem rev_at {i : Nat} {α : Type} {xs : List α} (hi : i < xs.length) : xs.reverse[i]? = xs[xs.length - 1 - i]? := List.getElem?_reverse hi
theorem wk_rev (hr : Rd H0 a (.lst vs)) (ha : okx a) (r : Rps K H0 okx items vs []) (hM : ∀ a, okx a → ¬ M a) (hm : ∀ a, M a → ∃ u, H0 a = some u ∧ isMu u = true) : Wk K okx M (Itv K a vs.length) items.reverse H0 where
  go := fun i H k hi => by
    rw [List.length_reverse] at hi
    obtain ⟨pv, v, e1, e2, _⟩ := rp_at (i := items.length - 1 - i) r (by omega)
    rw [r.len] at e2 hi
    exact ⟨hi, vs, v, .inl (rd_keep k (hM a ha) hr), e2⟩
  yld := fun i H x H' k hi y => by
    rw [List.length_reverse] at hi
    obtain ⟨e, y⟩ := y
    subst e
    obtain ⟨pv, v, e1, e2, q⟩ := rp_at (i := items.length - 1 - i) (r.keep k hm (fun _ z => z) hM (fun _ z => nomatch z)) (by omega)
    have e3 := y vs (.inl (rd_keep k (hM a ha) hr))
    rw [r.len] at e2
    rw [e2] at e3
    cases e3
    exact ⟨Same.refl _, pv, by rw [rev_at hi]; exact e1, q⟩
  stop := fun i H k hi => by
    rw [List.length_reverse, r.len] at hi
    exact hi
theorem wk_revT (hr : SqT K H0 a vs) (r : Rps K H0 okx items vs []) (hM : ∀ a, okx a → ¬ M a) (hm : ∀ a, M a → ∃ u, H0 a = some u ∧ isMu u = true) : Wk K okx M (RT.ItvT K a vs.length) items.reverse H0 where
  go := fun i H k hi => by
    rw [List.length_reverse] at hi
    obtain ⟨pv, v, e1, e2, _⟩ := rp_at (i := items.length - 1 - i) r (by omega)
    rw [r.len] at e2 hi
    exact ⟨hi, vs, v, sqT_keep k hm hr, e2⟩
  yld := fun i H x H' k hi y => by
    rw [List.length_reverse] at hi
    obtain ⟨e, y⟩ := y
    subst e
    obtain ⟨pv, v, e1, e2, q⟩ := rp_at (i := items.length - 1 - i) (r.keep k hm (fun _ z => z) hM (fun _ z => nomatch z)) (by omega)
    have e3 := y vs (sqT_keep k hm hr)
    rw [r.len] at e2
    rw [e2] at e3
    cases e3
    exact ⟨Same.refl _, pv, by rw [rev_at hi]; exact e1, q⟩
  stop := fun i H k hi => by
    rw [List.length_reverse, r.len] at hi
    exact hi
theorem rngI_len (lo hi : Int) : (rngI lo hi).length = (hi - lo).toNat := by unfold rngI; rw [List.length_map, List.length_range]
theorem rngI_at (lo hi : Int) {i : Nat} (h : i < (hi - lo).toNat) : (rngI lo hi)[i]? = some (.int (lo + i)) := by
  unfold rngI
  rw [List.getElem?_map, List.getElem?_range h]
  rfl
theorem wk_rng (lo hi : Int) : Wk K okx M (Itr lo (hi - lo).toNat) (rngI lo hi) H0 where
  go := fun i H k h => by rw [rngI_len] at h; exact h
  yld := fun i H x H' k h y => by
    rw [rngI_len] at h
    obtain ⟨e, e2⟩ := y
    subst e e2
    exact ⟨Same.refl _, _, rngI_at lo hi h, .int _⟩
  stop := fun i H k h => by rw [rngI_len] at h; exact h
theorem rngC_at (lo c : Int) {n i : Nat} (h : i < n) : (rngC lo c n)[i]? = some (.int (lo + (i : Int) * c)) := by
  unfold rngC
  rw [List.getElem?_map, List.getElem?_range h]
  rfl
theorem rngC_len (lo c : Int) (n : Nat) : (rngC lo c n).length = n := by unfold rngC; rw [List.length_map, List.length_range]
theorem wk_rngC (lo c : Int) (n : Nat) : Wk K okx M (Itc lo c n) (rngC lo c n) H0 where
  go := fun i H k h => by rw [rngC_len] at h; exact h
  yld := fun i H x H' k h y => by
    rw [rngC_len] at h
    obtain ⟨e, e2⟩ := y
    subst e e2
    exact ⟨Same.refl _, _, rngC_at lo c h, .int _⟩
  stop := fun i H k h => by rw [rngC_len] at h; exact h
theorem wk_rngR (lo hi : Int) : Wk K okx M (Itc (lo + (((hi - lo).toNat : Nat) : Int) - 1) (-1) (hi - lo).toNat) (rngI lo hi).reverse H0 where
  go := fun i H k h => by rw [List.length_reverse, rngI_len] at h; exact h
  yld := fun i H x H' k h y => by
    rw [List.length_reverse, rngI_len] at h
    obtain ⟨e, e2⟩ := y
    subst e e2
    refine ⟨Same.refl _, _, ?_, .int _⟩
    rw [rev_at (by rw [rngI_len]; exact h), rngI_len, rngI_at lo hi (by omega)]
    exact congrArg some (congrArg PV.int (by omega))
  stop := fun i H k h => by rw [List.length_reverse, rngI_len] at h; exact h
end

theorem wk_str {K : PySem.W.Frag} {okx M : Addr → Prop} {H0 : Hp} {z : Str} (hz : PyData.strOk z = true) : Wk K okx M (Its z) (signs z) H0 where
  go := fun i H k h => by
    show i < z.cps.size
    simpa [signs] using h
  yld := fun i H x H' k h y => by
    obtain ⟨e, c, ec, e2⟩ := y
    subst e e2
    have em : z.cps.toList[i]? = some c := by rw [Array.getElem?_toList]; exact ec
    exact ⟨Same.refl _, .str ⟨#[c]⟩, by unfold signs; rw [List.getElem?_map, em]; rfl, .str _ (strOk_one hz (List.mem_of_getElem? em))⟩
  stop := fun i H k h => by
    show z.cps.size ≤ i
    simpa [signs] using h
/-- x, a list or a tuple, or a text -/
def iAny (K : PySem.W.Frag) (tl : TE) : TI := fun σ H R => tl σ H fun x H1 => (∃ a, x = .ref a ∧ (((∃ xs, SqL K H1 a xs) ∧ R (Itl K a) H1) ∨ ((∃ xs, SqT K H1 a xs) ∧ R (Itt K a) H1))) ∨ ∃ z, x = .str z ∧ R (Its z) H1
section
variable {X : Cx} {tg : Expr}
theorem pi_any {l : Expr} {tl : TE} (hl : PE X l tl) : PI X tg l (iAny X.K tl) := by
  refine ⟨fun pins s σ H R I h => ?_⟩
  refine thn (hl.run pins s σ H _ I h) fun v s1 hq => ?_
  obtain ⟨x, H1, I1, r1, q⟩ := hq
  rcases q with ⟨a, e, q⟩ | ⟨z, e, q⟩
  rotate_left
  · subst e
    obtain ⟨t, rfl⟩ := r1
    cases ha : z.cps.all (· < 128)
    · exact wpAny_pyIter_wide ha (pi_one (tk := s1.toks) I1 _ (turn_str _ z t "str_iterator" (.inr rfl)) ⟨_, Heap.get?_push_size _ rfl, rfl, rfl⟩ q)
    · exact wpAny_pyIter_ascii ha (pi_one (tk := s1.toks) I1 _ (turn_str _ z t "str_ascii_iterator" (.inl rfl)) ⟨_, Heap.get?_push_size _ rfl, rfl, rfl⟩ q)
  subst e
  cases r1
  rcases q with ⟨⟨xs, hs⟩, q⟩ | ⟨⟨xs, hs⟩, q⟩
  · obtain ⟨its, rv, p, hz⟩ := I1.list hs
    exact wpAny_pyIter_list p.isList (pi_one (tk := s1.toks) I1 _ (turn_list a _) ⟨_, Heap.get?_push_size _ rfl, rfl, rfl⟩ q)
  · obtain ⟨its, rv, p, hz⟩ := I1.tuple hs
    exact wpAny_pyIter_tuple (show s1.heap.IsTuple a its.toArray from p) (pi_one (tk := s1.toks) I1 _ (turn_tuple a _) ⟨_, Heap.get?_push_size _ rfl, rfl, rfl⟩ q)
theorem PI.imp {e : Expr} {t t' : TI} (h : PI X tg e t) (k : ∀ σ H R, t' σ H R → t σ H R) : PI X tg e t' := ⟨fun pins s σ H R I q => h.run pins s σ H R I (k σ H R q)⟩
variable {ca fa : Nat → Addr} {cl : Cl} {W : WX} {tc : Tc} {n : Nat}
def tI (K : PySem.W.Frag) (ca : Nat → Addr) (cl : Cl) (W : WX) (it : Iw) : TI := fun σ H R => ∃ env ok, EIn K H ok env σ (vI it) ∧ Fre ok H ∧ PostI K ca (WE W σ) ok H R (evI cl env it)
theorem PostI.mono {K : PySem.W.Frag} {E : XK} {ok : Addr → Prop} {H H1 : Hp} {R : It → Hp → Prop} {r : Res (PV × List PV)} (s : Same H H1) (h : PostI K ca E ok H R r) : PostI K ca E ok H1 R r := by
  cases r with
  | ok x => exact fun J H' okx s' c w => h J H' okx (s.trans s') (fun a z => ⟨(c a z).1.imp s.free fun z => z, (c a z).2⟩) w
  | exc c => exact fun d H' s' => h d H' (s.trans s')
  | bad => exact h
/-- held and gone through: what may be of account of it -/
theorem held {K : PySem.W.Frag} {H1 : Hp} {ok : Addr → Prop} {x : PV} {v : V} {fp : List Addr} (r : Rp K H1 (okn ok fp) x v fp) : Rp K H1 (fun a => (a ∈ fp ∨ (cls x = false ∧ ok a)) ∧ ∃ u, H1 a = some u) (frz x) v [] := by
  refine Rp.inD (ok := fun a => a ∈ fp ∨ (cls x = false ∧ ok a)) ?_
  cases c : cls x with
  | true => exact (r.free (ok' := fun _ => False) c).frz (fun _ z => z.elim) fun a z => .inl z
  | false => exact r.frz (fun a z => .inr ⟨rfl, z.1⟩) fun a z => .inl z
theorem itemsX_exc {x : PV} {c : Nat} (h : itemsX x = .exc c) : False := by
  unfold itemsX at h
  split at h
  · cases h
  · unfold itemsV at h
    split at h <;> cases h
theorem i_ex {e : Ex} {py : Expr} (h : SndE X ca cl W e py) : PI X tg py (tI X.K ca cl W (.ex e)) := by
  refine PI.imp (pi_any h.pe) fun σ H R hq => ?_
  obtain ⟨env, ok, hi, fr, hm⟩ := hq
  refine ⟨env, ok, hi, fr, ?_⟩
  have hm : PostI X.K ca (WE W σ) ok H R ((evE cl env e).bind fun x => (itemsX (frz x)).bind fun xs => .ok (x, xs)) := hm
  cases e1 : evE cl env e with
  | ok x =>
    rw [e1] at hm
    intro H1 v fp s1 r1 f1 n1
    have h1 := held r1
    cases e2 : itemsX (frz x) with
    | ok xs =>
      have hm : PostI X.K ca (WE W σ) ok H R ((itemsX (frz x)).bind fun xs => .ok (x, xs)) := hm
      rw [e2] at hm
      have fin : ∀ J, (∀ M, (∀ a, ((a ∈ fp ∨ (cls x = false ∧ ok a)) ∧ ∃ u, H1 a = some u) → ¬ M a) → (∀ a, M a → ∃ u, H1 a = some u ∧ isMu u = true) → Wk X.K (fun a => (a ∈ fp ∨ (cls x = false ∧ ok a)) ∧ ∃ u, H1 a = some u) M J xs H1) → R J H1 :=
        fun J w => hm J H1 _ s1 (fun a z => ⟨z.1.imp (f1 a) fun z => z, z.2⟩) w
      cases h2 : frz x with
      | tup ys =>
        rw [h2] at h1 e2
        cases e2
        cases h1 with
        | tup hs r => exact .inl ⟨_, rfl, .inr ⟨⟨_, hs⟩, fin _ fun M a b => wk_tup hs (r.frz (fun _ z => z) fun _ z => nomatch z) a b⟩⟩
      | ftp ys =>
        rw [h2] at h1 e2
        cases e2
        cases h1 with
        | ftp hs r => exact .inl ⟨_, rfl, .inr ⟨⟨_, hs.sq⟩, fin _ fun M a b => wk_tup hs.sq (r.frz (fun _ z => z) fun _ z => nomatch z) a b⟩⟩
      | lst o ys =>
        rw [h2] at h1 e2
        cases e2
        cases h1 with
        | lstF hs ho r => exact .inl ⟨_, rfl, .inl ⟨⟨_, .inl hs⟩, fin _ fun M a b => wk_list hs ho (r.frz (fun _ z => z) fun _ z => nomatch z) a b⟩⟩
      | str z =>
        rw [h2] at h1 e2
        cases e2
        cases h1 with
        | str _ hz => exact .inr ⟨z, rfl, fin _ fun M _ _ => wk_str hz⟩
      | _ => rw [h2] at e2; cases e2
    | exc c =>
      exact (itemsX_exc e2).elim
    | bad =>
      have hm : PostI X.K ca (WE W σ) ok H R ((itemsX (frz x)).bind fun xs => .ok (x, xs)) := hm
      rw [e2] at hm
      exact hm.elim
  | exc c => rw [e1] at hm; exact hm
  | bad => rw [e1] at hm; exact hm.elim
theorem i_rev {e : Ex} {py : Expr} {p p2 : Pos} (C : Cok X W tc cl n ca fa) (h : SndE X ca cl W e py) (hp : plainX py = true) (hg : glB tc.sc "reversed" = true) : PI X tg (.Call (.Name "reversed" p) [py] [] p2) (tI X.K ca cl W (.rev e)) := by
  refine PI.imp (RT.pi_revA (gl_of C hg) (C.blt _ (by decide +kernel)) h.pe (star_of hp)) fun σ H R hq => ?_
  obtain ⟨env, ok, hi, fr, hm⟩ := hq
  refine ⟨env, ok, hi, fr, ?_⟩
  have hm : PostI X.K ca (WE W σ) ok H R ((evE cl env e).bind fun x => (itemsV (frz x)).bind fun xs => .ok (x, xs.reverse)) := hm
  cases e1 : evE cl env e with
  | ok x =>
    rw [e1] at hm
    intro H1 v fp s1 r1 f1 n1
    have h1 := held r1
    cases e2 : itemsV (frz x) with
    | ok xs =>
      have hm : PostI X.K ca (WE W σ) ok H R ((itemsV (frz x)).bind fun xs => .ok (x, xs.reverse)) := hm
      rw [e2] at hm
      have fin : ∀ J, (∀ M, (∀ a, ((a ∈ fp ∨ (cls x = false ∧ ok a)) ∧ ∃ u, H1 a = some u) → ¬ M a) → (∀ a, M a → ∃ u, H1 a = some u ∧ isMu u = true) → Wk X.K (fun a => (a ∈ fp ∨ (cls x = false ∧ ok a)) ∧ ∃ u, H1 a = some u) M J xs.reverse H1) → R J H1 :=
        fun J w => hm J H1 _ s1 (fun a z => ⟨z.1.imp (f1 a) fun z => z, z.2⟩) w
      cases h2 : frz x with
      | tup ys =>
        rw [h2] at h1 e2
        cases e2
        cases h1 with
        | tup hs r => exact ⟨_, _, rfl, .inr ⟨hs, fin _ fun M a b => wk_revT hs (r.frz (fun _ z => z) fun _ z => nomatch z) a b⟩⟩
      | ftp ys =>
        rw [h2] at h1 e2
        cases e2
        cases h1 with
        | ftp hs r => exact ⟨_, _, rfl, .inr ⟨hs.sq, fin _ fun M a b => wk_revT hs.sq (r.frz (fun _ z => z) fun _ z => nomatch z) a b⟩⟩
      | lst o ys =>
        rw [h2] at h1 e2
        cases e2
        cases h1 with
        | lstF hs ho r => exact ⟨_, _, rfl, .inl ⟨.inl hs, fin _ fun M a b => wk_rev hs ho (r.frz (fun _ z => z) fun _ z => nomatch z) a b⟩⟩
      | _ => rw [h2] at e2; cases e2
    | exc c =>
      unfold itemsV at e2
      split at e2 <;> cases e2
    | bad =>
      have hm : PostI X.K ca (WE W σ) ok H R ((itemsV (frz x)).bind fun xs => .ok (x, xs.reverse)) := hm
      rw [e2] at hm
      exact hm.elim
  | exc c => rw [e1] at hm; exact hm
  | bad => rw [e1] at hm; exact hm.elim
theorem small_of {i : Int} (h : smallI i = true) : -(2 ^ 62) ≤ i ∧ i < 2 ^ 62 := of_decide_eq_true h
theorem frzs_len : ∀ xs : List PV, (frzs xs).length = xs.length
  | [] => rfl
  | x :: xs => by
    show (frzs xs).length + 1 = xs.length + 1
    rw [frzs_len xs]
theorem frzs_rev : ∀ xs : List PV, frzs xs.reverse = (frzs xs).reverse
  | [] => rfl
  | x :: xs => by
    have app : ∀ xs ys : List PV, frzs (xs ++ ys) = frzs xs ++ frzs ys := fun xs ys => by
      induction xs with
      | nil => rfl
      | cons x xs ih => show frz x :: frzs (xs ++ ys) = frz x :: (frzs xs ++ frzs ys); rw [ih]
    show frzs (x :: xs).reverse = (frz x :: frzs xs).reverse
    rw [List.reverse_cons, List.reverse_cons, app, frzs_rev xs]
    rfl
/-- one bound, two bounds -/
theorem rng_1 {es : Exs} {f : Int → Int → It} {rv : Bool} (hl : lenX es = 1) (hw : ∀ (okx M : Addr → Prop) H0 j, Wk X.K okx M (f 0 j) (if rv then (rngI 0 j).reverse else rngI 0 j) H0) {σ : L2.St} {H : Hp} {R : It → Hp → Prop} {env : PEnv} {ok : Addr → Prop} (hi : EIn X.K H ok env σ (vEs es)) (fr : Fre ok H)
    (hm : PostI X.K ca (WE W σ) ok H R ((evEs cl env es).bind fun vs => (rngV (frzs vs)).bind fun xs => .ok (.non, if rv then xs.reverse else xs))) :
    tAs X.K ca cl W es σ H fun vs H1 => ∃ j : Int, vs = [.int j] ∧ -(2 ^ 62) ≤ j ∧ j < 2 ^ 62 ∧ R (f 0 j) H1 := by
  refine ⟨env, ok, hi, fr, ?_⟩
  cases e1 : evEs cl env es with
  | ok ys =>
    rw [e1] at hm
    intro H1 vs fp s1 r1 f1 n1
    replace hm : PostI X.K ca (WE W σ) ok H R ((rngV (frzs ys)).bind fun xs => .ok (.non, if rv then xs.reverse else xs)) := hm
    have rz := r1.fz fr f1
    have hz2 : (frzs ys).length = 1 := by rw [frzs_len, evEs_len e1, hl]
    generalize hz : frzs ys = zs at hm rz hz2
    match zs, rz, hm, hz2 with
    | [], rz, hm, hz2 => cases hz2
    | _ :: _ :: _, rz, hm, hz2 => simp at hz2
    | [z], rz, hm, hz2 =>
      obtain ⟨v, ev, r⟩ := one0 rz
      subst ev
      cases r with
      | int j =>
        replace hm : PostI X.K ca (WE W σ) ok H R ((if smallI j = true then Res.ok (rngI 0 j) else .bad).bind fun xs => .ok (.non, if rv then xs.reverse else xs)) := hm
        cases q : smallI j with
        | false => rw [q] at hm; exact hm.elim
        | true =>
          rw [q] at hm
          exact ⟨j, rfl, (small_of q).1, (small_of q).2, hm (f 0 j) H1 (fun _ => False) s1 (fun _ z => z.elim) fun M _ _ => hw _ M H1 j⟩
      | _ => exact hm.elim
  | exc c => rw [e1] at hm; exact hm
  | bad => rw [e1] at hm; exact hm.elim
theorem rng_2 {es : Exs} {f : Int → Int → It} {rv : Bool} (hl : lenX es = 2) (hw : ∀ (okx M : Addr → Prop) H0 i j, Wk X.K okx M (f i j) (if rv then (rngI i j).reverse else rngI i j) H0) {σ : L2.St} {H : Hp} {R : It → Hp → Prop} {env : PEnv} {ok : Addr → Prop} (hi : EIn X.K H ok env σ (vEs es)) (fr : Fre ok H)
    (hm : PostI X.K ca (WE W σ) ok H R ((evEs cl env es).bind fun vs => (rngV (frzs vs)).bind fun xs => .ok (.non, if rv then xs.reverse else xs))) :
    tAs X.K ca cl W es σ H fun vs H1 => ∃ i j : Int, vs = [.int i, .int j] ∧ (-(2 ^ 62) ≤ i ∧ i < 2 ^ 62 ∧ -(2 ^ 62) ≤ j ∧ j < 2 ^ 62) ∧ R (f i j) H1 := by
  refine ⟨env, ok, hi, fr, ?_⟩
  cases e1 : evEs cl env es with
  | ok ys =>
    rw [e1] at hm
    intro H1 vs fp s1 r1 f1 n1
    replace hm : PostI X.K ca (WE W σ) ok H R ((rngV (frzs ys)).bind fun xs => .ok (.non, if rv then xs.reverse else xs)) := hm
    have rz := r1.fz fr f1
    have hz2 : (frzs ys).length = 2 := by rw [frzs_len, evEs_len e1, hl]
    generalize hz : frzs ys = zs at hm rz hz2
    match zs, rz, hm, hz2 with
    | [], rz, hm, hz2 => cases hz2
    | [_], rz, hm, hz2 => simp at hz2
    | _ :: _ :: _ :: _, rz, hm, hz2 => simp at hz2
    | [z, z2], rz, hm, hz2 =>
      obtain ⟨v, u, ev, r, r2⟩ := two0 rz
      subst ev
      cases r with
      | int i =>
        cases r2 with
        | int j =>
          replace hm : PostI X.K ca (WE W σ) ok H R ((if (smallI i && smallI j) = true then Res.ok (rngI i j) else .bad).bind fun xs => .ok (.non, if rv then xs.reverse else xs)) := hm
          cases q : (smallI i && smallI j) with
          | false => rw [q] at hm; exact hm.elim
          | true =>
            rw [q] at hm
            rw [Bool.and_eq_true] at q
            exact ⟨i, j, rfl, ⟨(small_of q.1).1, (small_of q.1).2, (small_of q.2).1, (small_of q.2).2⟩, hm (f i j) H1 (fun _ => False) s1 (fun _ z => z.elim) fun M _ _ => hw _ M H1 i j⟩
        | _ => exact hm.elim
      | _ => exact hm.elim
  | exc c => rw [e1] at hm; exact hm
  | bad => rw [e1] at hm; exact hm.elim
theorem i_rng1 {es : Exs} {a : Expr} {p p2 : Pos} (C : Cok X W tc cl n ca fa) (h : PA X [a] (tAs X.K ca cl W es)) (hp : plainX a = true) (hl : lenX es = 1) (hg : glB tc.sc "range" = true) : PI X tg (.Call (.Name "range" p) [a] [] p2) (tI X.K ca cl W (.rng es)) := by
  refine PI.imp (pi_range1 (gl_of C hg) (C.blt "range" (by decide +kernel)) h (star_of hp)) fun σ H R hq => ?_
  obtain ⟨env, ok, hi, fr, hm⟩ := hq
  refine rng_1 (f := fun _ j => Itr 0 j.toNat) (rv := false) hl (fun okx M H0 j => ?_) hi fr hm
  have w := wk_rng (K := X.K) (okx := okx) (M := M) (H0 := H0) 0 j
  rw [Int.sub_zero] at w
  exact w
theorem i_rng2 {es : Exs} {a b : Expr} {p p2 : Pos} (C : Cok X W tc cl n ca fa) (h : PA X [a, b] (tAs X.K ca cl W es)) (hp : plainX a = true) (hp2 : plainX b = true) (hl : lenX es = 2) (hg : glB tc.sc "range" = true) : PI X tg (.Call (.Name "range" p) [a, b] [] p2) (tI X.K ca cl W (.rng es)) := by
  refine PI.imp (pi_range2 (gl_of C hg) (C.blt "range" (by decide +kernel)) h (by rw [star_of hp, star_of hp2]; rfl) (star_of hp2)) fun σ H R hq => ?_
  obtain ⟨env, ok, hi, fr, hm⟩ := hq
  exact rng_2 (f := fun i j => Itr i (j - i).toNat) (rv := false) hl (fun okx M H0 i j => wk_rng i j) hi fr hm
theorem three0 {K : PySem.W.Frag} {H : Hp} {ok : Addr → Prop} {x y z : PV} {vs : List V} (h : Rps K H ok [x, y, z] vs []) : ∃ v u t, vs = [v, u, t] ∧ Rp K H ok x v [] ∧ Rp K H ok y u [] ∧ Rp K H ok z t [] := by
  obtain ⟨v, vs', e, r, rs⟩ := h.inv0
  obtain ⟨u, t, e2, r2, r3⟩ := two0 rs
  exact ⟨v, u, t, by rw [e, e2], r, r2, r3⟩
theorem i_rng3 {es : Exs} {a b c : Expr} {p p2 : Pos} (C : Cok X W tc cl n ca fa) (h : PA X [a, b, c] (tAs X.K ca cl W es)) (hp : plainX a = true) (hp2 : ∀ e ∈ [b, c], plainX e = true) (hl : lenX es = 3) (hg : glB tc.sc "range" = true) : PI X tg (.Call (.Name "range" p) [a, b, c] [] p2) (tI X.K ca cl W (.rng es)) := by
  refine PI.imp (pi_range3 (gl_of C hg) (C.blt "range" (by decide +kernel)) h (star_of hp) (back_of hp2)) fun σ H R hq => ?_
  obtain ⟨env, ok, hi, fr, hm⟩ := hq
  refine ⟨env, ok, hi, fr, ?_⟩
  cases e1 : evEs cl env es with
  | ok ys =>
    replace hm : PostI X.K ca (WE W σ) ok H R ((evEs cl env es).bind fun vs => (rngV (frzs vs)).bind fun xs => .ok (.non, xs)) := hm
    rw [e1] at hm
    intro H1 vs fp s1 r1 f1 n1
    replace hm : PostI X.K ca (WE W σ) ok H R ((rngV (frzs ys)).bind fun xs => .ok (.non, xs)) := hm
    have rz := r1.fz fr f1
    have hz2 : (frzs ys).length = 3 := by rw [frzs_len, evEs_len e1, hl]
    generalize hz : frzs ys = zs at hm rz hz2
    match zs, rz, hm, hz2 with
    | [], rz, hm, hz2 => cases hz2
    | [_], rz, hm, hz2 => simp at hz2
    | [_, _], rz, hm, hz2 => simp at hz2
    | _ :: _ :: _ :: _ :: _, rz, hm, hz2 => simp at hz2
    | [z, z2, z3], rz, hm, hz2 =>
      obtain ⟨v, u, t, ev, r, r2, r3⟩ := three0 rz
      subst ev
      cases r with
      | int i =>
        cases r2 with
        | int j =>
          cases r3 with
          | int k =>
            replace hm : PostI X.K ca (WE W σ) ok H R ((if rgOk i j k = true then Res.ok (rngC i k (Builtin.Range.rangeSize i j k).toNat) else .bad).bind fun xs => .ok (.non, xs)) := hm
            cases q : rgOk i j k with
            | false => rw [q] at hm; exact hm.elim
            | true =>
              rw [q] at hm
              have g := of_decide_eq_true (show decide _ = true from q)
              exact ⟨i, j, k, (Builtin.Range.rangeSize i j k).toNat, rfl, g, hm (Itc i k (Builtin.Range.rangeSize i j k).toNat) H1 (fun _ => False) s1 (fun _ z => z.elim) fun M _ _ => wk_rngC _ _ _⟩
          | _ => exact hm.elim
        | _ => exact hm.elim
      | _ => exact hm.elim
  | exc c =>
    replace hm : PostI X.K ca (WE W σ) ok H R ((evEs cl env es).bind fun vs => (rngV (frzs vs)).bind fun xs => .ok (.non, xs)) := hm
    rw [e1] at hm
    exact hm
  | bad =>
    replace hm : PostI X.K ca (WE W σ) ok H R ((evEs cl env es).bind fun vs => (rngV (frzs vs)).bind fun xs => .ok (.non, xs)) := hm
    rw [e1] at hm
    exact hm.elim
end
end BW

/-! Methods that change nothing; sorted(set(xs)); list(d.items()). -/
namespace BW
open PySem PySem.Spec PyProof.Rows
open L2 hiding St
section
variable {X : Cx} {o e : Expr} {es : List Expr} {to : TE} {t : TA} {name : Str} {apos cpos : Pos}
/-- o.name(e): the method by what o is -/
def tMD (K : PySem.W.Frag) (X : Cx) (name : Str) (to : TE) (t : TA) : TE := fun σ H Q => to σ H fun x H1 => ∃ (T id : String) (r : V → List V → Hp → VK → Prop), PlainAttrs T ∧ Slot T name id ∧ typeOf (.builtin id) = pure (.type "method_descriptor") ∧ MtR X id r ∧ (tyV K T x H1 ∨ (T = "tuple" ∧ ∃ a xs, x = .ref a ∧ Fz H1 a xs)) ∧ t σ H1 fun xs H2 => r x xs H2 Q
theorem pe_md (ho : PE X o to) (ha : PA X (e :: es) t) (hb : attributeBase o name X.env (eval o X.env) = eval o X.env)
    (hf : ((backTo cpos (starEach (e :: es) X.env)).all (fun x => !x.1) && (backToKw cpos (keywordEach [] X.env)).all (fun x => x.1.isSome)
      && decide ((e :: es).length + ([] : List Keyword).length + (if ([] : List Keyword).isEmpty then 0 else 1) < 30)) = true)
    (hl : (apos.endLine == cpos.line) = true) (hs : starEach (e :: es) X.env = (false, eval e X.env) :: starEach es X.env) (hp : (backTo cpos (starEach es X.env)).any (·.1) = false) :
    PE X (.Call (.Attribute o name apos) (e :: es) [] cpos) (tMD X.K X name to t) := by
  refine ⟨fun pins s σ H Q I h => ?_⟩
  refine wpAny_Call_method_late hb hf hl rfl (thn (ho.run pins s σ H _ I h) fun v s1 ⟨x, H1, I1, r1, T, id, r, pa, slot, ty0, hm, ty, q1⟩ => ?_)
  obtain ⟨k1, k2⟩ : s1.TypeIs v T ∧ ∀ a, v = .ref a → ∃ ob, s1.heap.get? a = some ob ∧ ob.dict = none := by
    rcases ty with ty | ⟨rfl, a, xs, rfl, o, h1, h2⟩
    · exact tyV_is I1 r1 ty
    · cases r1
      obtain ⟨g, z, its, rv, o', g', hc, n, hd⟩ := I1.hok a _ h1
      rw [g] at g'
      cases g'
      refine ⟨⟨o, g, hc⟩, fun b e => ?_⟩
      cases e
      exact ⟨o, g, h2⟩
  refine ⟨T, id, pa, slot, ty0, k1, k2, ?_⟩
  have hA := ha.run cpos pins s1 σ H1 _ I1 q1
  rw [hs] at hA ⊢
  refine Calls.callWith_builtin (show (false || (backTo cpos (starEach es X.env)).any (·.1)) = false from by rw [hp]; rfl) (Calls.evalArgs_plain (thn hA fun us s2 ⟨vs, H2, I2, r2, q2⟩ => hm pins s2 σ H2 x vs v us Q I2 r1 r2 q2))
end
section
variable {X : Cx}
theorem count_vals {K : PySem.W.Frag} {H : Hp} {ok : Addr → Prop} {y : PV} {v : V} {uy : Value} (ry : Rp K H ok y v []) (fy : flat y = true) : ∀ {xs : List PV} {vs : List V} {its : List Value}, Rps K H ok xs vs [] → Vals vs its → xs.all flat = true → its.countP (eqU v) = xs.countP fun z => feq z y
  | [], _, _, r, w, _ => by
    cases r
    cases w
    rfl
  | x :: xs, _, _, r, w, f => by
    obtain ⟨u, us, e, r1, r2⟩ := r.inv0
    subst e
    cases w with
    | cons w1 w2 =>
      rw [List.all_cons, Bool.and_eq_true] at f
      rw [List.countP_cons, List.countP_cons, count_vals (uy := uy) ry fy r2 w2 f.2, eqU_of w1 (flat_V r1 f.1), feq_V r1 ry f.1 fy]
def rCnt (K : PySem.W.Frag) : V → List V → Hp → VK → Prop := fun x vs H Q => ∃ (a : Addr) (ok : Addr → Prop) (xs : List PV) (us : List V) (y : PV) (v : V), x = .ref a ∧ vs = [v] ∧ SqL K H a us ∧ Rps K H ok xs us [] ∧ Rp K H ok y v [] ∧ xs.all flat = true ∧ flat y = true ∧ Q (.int ((xs.countP fun z => feq z y : Nat) : Int)) H
theorem mt_cnt : MtR X "list.count" (rCnt X.K) := by
  intro pins s σ H x vs v us Q I rx rv h
  obtain ⟨a, ok, xs, ws, y, u, rfl, rfl, hs, r1, r2, f1, f2, q⟩ := h
  cases rx
  obtain ⟨uy, rfl, ru⟩ := rv.one
  obtain ⟨its, rw_, ⟨⟨cls, dd, data, sl⟩, n, ho, hc, hdn, hd⟩, hlen⟩ := I.list hs
  simp only at hc hd
  subst hc hd
  refine call_meets PySem.F.slot_list_count ⟨_, ho, rfl⟩ PySem.F.entry_list_count (PySem.F.args_list_count_2 _ _)
    (SeqAt.list_countAt a its.toArray n dd sl uy (eqU u)) ⟨ho, fun u' hu' => mem_eqAt ru (flat_V r2 f2) rw_ (flats_V r1 f1) u' (by simpa using hu'), ?_⟩
  refine ⟨.int _, H, I.tok _, ⟨_, rfl⟩, ?_⟩
  rw [show its.toArray.toList = its from rfl, count_vals (uy := uy) r2 f2 r1 rw_ f1]
  exact q
end
theorem glue_ok {a : Str} (ha : PyData.strOk a = true) : ∀ {ys : List Str}, (∀ y ∈ ys, PyData.strOk y = true) → PyData.strOk (Str.join a ys) = true
  | [], _ => by
    show PyData.strOk Str.empty = true
    decide +kernel
  | [x], h => h x List.mem_cons_self
  | x :: y :: r, h => strOk_app (strOk_app (h x List.mem_cons_self) ha) (glue_ok ha fun z hz => h z (List.mem_cons_of_mem _ hz))
theorem join_ok {a : Str} (ha : PyData.strOk a = true) {ys : List Str} (h : ∀ y ∈ ys, PyData.strOk y = true) : PyData.strOk (Txt.join a ys) = true := by
  show PyData.strOk (Builtin.Str.glued a ys) = true
  rw [StrLaws.glued_eq_join]
  exact glue_ok ha h
def rJn (K : PySem.W.Frag) : V → List V → Hp → VK → Prop := fun x xs H Q => ∃ a p, ∃ ys : List Str, x = .str a ∧ xs = [.ref p] ∧ (SqL K H p (ys.map V.str) ∨ SqT K H p (ys.map V.str)) ∧ (ys.map (·.length)).sum + ys.length * a.length ≤ 16777216 ∧ Q (.str (Txt.join a ys)) H
def rTix (K : PySem.W.Frag) : V → List V → Hp → VK → Prop := fun x xs H Q => ∃ p, ∃ ys : List Str, ∃ z j, x = .ref p ∧ xs = [.str z] ∧ SqT K H p (ys.map V.str) ∧ ys[j]? = some z ∧ (∀ m, m < j → ys[m]? ≠ some z) ∧ Q (.int (j : Nat)) H
theorem mt_tix {X : Cx} : MtR X "tuple.index" (rTix X.K) := mt_tup_index
theorem mt_jn {X : Cx} : MtR X "str.join" (rJn X.K) := mt_join
section
variable {X : Cx} {ca fa : Nat → Addr} {cl : Cl} {W : WX} {tc : Tc} {n : Nat}
theorem mthV_ne {m : Mth} {x : PV} {vs : List PV} {c : Nat} : mthV m x vs ≠ .exc c := fun h => by
  unfold mthV at h
  split at h
  · cases m
    · replace h : cntV _ _ = .exc c := h
      unfold cntV at h
      split at h <;> first | (cases h; done) | (split at h <;> cases h)
    · replace h : ixV _ _ = .exc c := h
      unfold ixV at h
      split at h <;> first | (cases h; done) | (split at h <;> first | (cases h; done) | (split at h <;> first | (cases h; done) | (split at h <;> first | (cases h; done) | (split at h <;> cases h))))
    · replace h : joinV _ _ = .exc c := h
      unfold joinV at h
      split at h <;> first | (cases h; done) | (split at h <;> first | (cases h; done) | (split at h <;> first | (cases h; done) | (split at h <;> cases h)))
  · cases h
theorem abase_of {ob : Expr} {nm : Str} {env : Env} (h : plainO ob = true) : attributeBase ob nm env (eval ob env) = eval ob env := by
  cases ob <;> first | rfl | cases h
theorem s_meth {m : Mth} {o : Ex} {es : Exs} {ob e : Expr} {apos cpos : Pos} (ho : SndE X ca cl W o ob) (h : PA X [e] (tAs X.K ca cl W es)) (hp : plainX e = true) (hb : plainO ob = true) (hl : (apos.endLine == cpos.line) = true) :
    SndE X ca cl W (.meth m o es) (.Call (.Attribute ob (mthNm m) apos) [e] [] cpos) := by
  refine snd_val (PE.imp (pe_md ho.pe h (abase_of hb) (by rw [star_of hp]; rfl) hl (star_of hp) rfl) fun σ H Q ⟨env, ok, hi, fr, hm⟩ => ?_) rfl
  replace hm : Post X.K ca (WE W σ) ok H Q ((evE cl env o).bind fun x => if mthOk m (frz x) = true then (evEs cl env es).bind fun vs => mthV m (frz x) (frzs vs) else .bad) := hm
  refine ⟨env, ok, hi.left, fr, hm.bindv fun x H1 v fp e1 s1 r1 f1 n1 q1 => ?_⟩
  by_cases hk : mthOk m (frz x) = true
  · rw [if_pos hk] at q1
    have r1' := r1.fz fr f1
    have hi2 := hi.right.same s1
    have fr2 := fr.same s1
    generalize frz x = fx at hk q1 r1'
    have go : ∀ (r : V → List V → Hp → VK → Prop), (∀ vs H2 ws z, Same H1 H2 → Rps X.K H2 ok vs ws [] → mthV m fx vs = .ok z → Got X.K H2 ok Q z → r v ws H2 Q) → tAs X.K ca cl W es σ H1 fun xs H2 => r v xs H2 Q := fun r k => by
      refine ⟨env, ok, hi2, fr2, Post.binda q1 fun vs H2 ws fp2 e2 s2 r2 f2 n2 q2 => ?_⟩
      cases e3 : mthV m fx (frzs vs) with
      | ok z =>
        rw [e3] at q2
        exact k _ H2 ws z s2 (r2.fz fr2 f2) e3 q2
      | exc c => exact absurd e3 mthV_ne
      | bad => rw [e3] at q2; exact q2.elim
    cases m with
    | count =>
      cases r1' with
      | @lstF a xs us ht hok rs =>
        refine ⟨"list", _, _, PySem.F.plainAttrs_list, PySem.F.slot_list_count, PySem.F.type_list_count, mt_cnt, .inl (.inl ⟨rfl, us, .inl ht⟩), go _ fun vs H2 ws z s2 r2 e3 q2 => ?_⟩
        match vs, r2, e3 with
        | [y], r2, e3 =>
          obtain ⟨u, rfl, ru⟩ := one0 r2
          obtain ⟨c, rfl⟩ := iteOk (show (if (xs.all flat && flat y) = true then Res.ok (PV.int ((xs.countP fun z => feq z y : Nat) : Int)) else .bad) = .ok z from e3)
          rw [Bool.and_eq_true] at c
          exact ⟨a, ok, xs, us, y, u, rfl, rfl, .inl (ht.elim (fun h => .inl (s2 _ _ h)) fun ⟨o, h⟩ => .inr ⟨o, s2 _ _ h⟩), rs.same s2, ru, c.1, c.2, q2.int⟩
        | [], _, e3 => cases e3
        | _ :: _ :: _, _, e3 => cases e3
      | _ => cases hk
    | index =>
      cases r1' with
      | @lstF a xs us ht hok rs =>
        refine ⟨"list", _, _, PySem.F.plainAttrs_list, PySem.F.slot_list_index, PySem.F.type_list_index, mt_index, .inl (.inl ⟨rfl, us, .inl ht⟩), go _ fun vs H2 ws z s2 r2 e3 q2 => ?_⟩
        match vs, r2, e3 with
        | [y], r2, e3 =>
          obtain ⟨u, rfl, ru⟩ := one0 r2
          obtain ⟨c, e4⟩ : (xs.all flat && flat y) = true ∧ (match xs.findIdx? fun z => feq z y with | some j => Res.ok (PV.int ((j : Nat) : Int)) | none => .bad) = .ok z := by
            replace e3 : (if (xs.all flat && flat y) = true then (match xs.findIdx? fun z => feq z y with | some j => Res.ok (PV.int ((j : Nat) : Int)) | none => .bad) else .bad) = .ok z := e3
            by_cases c : (xs.all flat && flat y) = true
            · rw [if_pos c] at e3
              exact ⟨c, e3⟩
            · rw [if_neg c] at e3
              cases e3
          rw [Bool.and_eq_true] at c
          cases e5 : xs.findIdx? fun z => feq z y with
          | none => rw [e5] at e4; cases e4
          | some j =>
            rw [e5] at e4
            cases e4
            obtain ⟨hj, h1, h2⟩ := List.findIdx?_eq_some_iff_getElem.mp e5
            have rs2 := rs.same s2
            have at_ : ∀ (k : Nat) (hk : k < xs.length), ∃ w, us[k]? = some w ∧ eqV w u = feq xs[k] y := fun k hk => by
              obtain ⟨w, w1, w2⟩ := rs2.get (List.getElem?_eq_getElem hk)
              exact ⟨w, w1, feq_V w2 ru (List.all_eq_true.mp c.1 _ (List.getElem_mem hk)) c.2⟩
            obtain ⟨w, w1, w2⟩ := at_ j hj
            refine ⟨a, us, u, j, w, rfl, rfl, .inl (ht.elim (fun h => .inl (s2 _ _ h)) fun ⟨o, h⟩ => .inr ⟨o, s2 _ _ h⟩), flat_V ru c.2, flats_V rs2 c.1, w1, w2.trans h1, fun k w' hk hw => ?_, q2.int⟩
            obtain ⟨w3, w4, w5⟩ := at_ k (by omega)
            rw [w4] at hw
            cases hw
            rw [w5]
            simpa using h2 k hk
        | [], _, e3 => cases e3
        | _ :: _ :: _, _, e3 => cases e3
      | @ftp a xs us fp0 ht rs =>
        refine ⟨"tuple", _, _, PySem.F.plainAttrs_tuple, PySem.F.slot_tuple_index, PySem.F.type_tuple_index, mt_tix, .inr ⟨rfl, a, us, rfl, ht⟩, go (rTix X.K) fun vs H2 ws z s2 r2 e3 q2 => ?_⟩
        match vs, r2, e3 with
        | [y], r2, e3 =>
          obtain ⟨u, rfl, ru⟩ := one0 r2
          replace e3 : (match allS xs with
            | some ys => (match y with
              | .str z => (match ys.findIdx? fun u => u == z with
                | some j => Res.ok (PV.int ((j : Nat) : Int))
                | none => .bad)
              | _ => .bad)
            | none => .bad) = .ok z := e3
          cases e4 : allS xs with
          | none => rw [e4] at e3; cases e3
          | some ys =>
            rw [e4] at e3
            cases ru with
            | str x zx =>
              replace e3 : (match ys.findIdx? fun u => u == x with
                | some j => Res.ok (PV.int ((j : Nat) : Int))
                | none => .bad) = .ok z := e3
              cases e5 : ys.findIdx? fun u => u == x with
              | none => rw [e5] at e3; cases e3
              | some j =>
                rw [e5] at e3
                cases e3
                obtain ⟨ev, zo⟩ := allS_V e4 (rs.same s2)
                subst ev
                obtain ⟨hj, h1, h2⟩ := List.findIdx?_eq_some_iff_getElem.mp e5
                obtain ⟨o, ho, hd⟩ := ht
                refine ⟨a, ys, x, j, rfl, rfl, .inl (.inr ⟨o, s2 _ _ ho⟩), ?_, fun k hk hw => ?_, q2.int⟩
                · rw [List.getElem?_eq_getElem hj]
                  exact congrArg some (by simpa using h1)
                · have hk' : k < ys.length := by omega
                  rw [List.getElem?_eq_getElem hk'] at hw
                  have := h2 k hk
                  cases hw
                  simp at this
            | _ => cases e3
        | [], _, e3 => cases e3
        | _ :: _ :: _, _, e3 => cases e3
      | _ => cases hk
    | join =>
      cases r1' with
      | str a za =>
        refine ⟨"str", _, _, PySem.F.plainAttrs_str, PySem.F.slot_str_join, PySem.F.type_str_join, mt_jn, .inl rfl, go (rJn X.K) fun vs H2 ws z s2 r2 e3 q2 => ?_⟩
        match vs, r2, e3 with
        | [y], r2, e3 =>
          obtain ⟨u, rfl, ru⟩ := one0 r2
          replace e3 : (match seqOf y with
            | some xs => (match allS xs with
              | some ys => if decide ((ys.map fun y : Str => y.length).sum + ys.length * a.length ≤ most) = true then Res.ok (PV.str (Txt.join a ys)) else .bad
              | none => .bad)
            | none => .bad) = .ok z := e3
          have fin : ∀ (p : Addr) (xs : List PV) (us : List V), u = .ref p → (SqL X.K H2 p us ∨ SqT X.K H2 p us) → Rps X.K H2 ok xs us [] → seqOf y = some xs → ∃ a' p', ∃ ys : List Str, V.str a = .str a' ∧ [u] = [V.ref p'] ∧ (SqL X.K H2 p' (ys.map V.str) ∨ SqT X.K H2 p' (ys.map V.str)) ∧ (ys.map (·.length)).sum + ys.length * a'.length ≤ 16777216 ∧ Q (.str (Txt.join a' ys)) H2 := fun p xs us eu hs rs es => by
            rw [es] at e3
            dsimp only at e3
            cases e4 : allS xs with
            | none => simp only [e4] at e3; cases e3
            | some ys =>
              simp only [e4] at e3
              obtain ⟨c, rfl⟩ := iteOk e3
              obtain ⟨ev, zo⟩ := allS_V e4 rs
              subst ev
              exact ⟨a, p, ys, rfl, by rw [eu], hs, of_decide_eq_true c, q2.str (join_ok za zo)⟩
          cases ru with
          | lstF ht hok rs => exact fin _ _ _ rfl (.inl (.inl ht)) rs rfl
          | tup ht rs => exact fin _ _ _ rfl (.inr ht) rs rfl
          | _ => cases e3
        | [], _, e3 => cases e3
        | _ :: _ :: _, _, e3 => cases e3
      | _ => cases hk
  · rw [if_neg hk] at q1
    exact q1.elim
theorem ddp_mem {z : Str} : ∀ {xs : List Str}, z ∈ ddp xs ↔ z ∈ xs
  | [] => Iff.rfl
  | x :: xs => by
    unfold ddp
    split
    · rename_i h
      rw [ddp_mem, List.mem_cons]
      exact ⟨.inr, fun q => q.elim (fun e => by rw [e]; exact h) id⟩
    · rw [List.mem_cons, List.mem_cons, ddp_mem]
theorem ddp_nd : ∀ xs : List Str, (ddp xs).Nodup
  | [] => .nil
  | x :: xs => by
    unfold ddp
    split
    · exact ddp_nd xs
    · rename_i h
      exact List.nodup_cons.mpr ⟨fun q => h (ddp_mem.mp q), ddp_nd xs⟩
theorem s_sset {e : Ex} {v : Expr} {p1 p2 q1 q2 : Pos} (C : Cok X W tc cl n ca fa) (h : SndE X ca cl W e v) (hp : plainX v = true) (hg : glB tc.sc "sorted" = true) (hg2 : glB tc.sc "set" = true) :
    SndE X ca cl W (.sset e) (.Call (.Name "sorted" p1) [.Call (.Name "set" p2) [v] [] q2] [] q1) := by
  have a1 : PE X (.Call (.Name "set" p2) [v] [] q2) (tCB (rSetT X.K X.prog X.w) (tCons (tE X.K ca cl W e) tNil)) :=
    pe_callTy (cr_setT C.calm) (gl_of C hg2) (C.blt _ (by decide +kernel)) (by decide +kernel) (pa_cons h.pe pa_nil (star_of hp)) (by decide +kernel) (by decide +kernel) (star_of hp) rfl
  refine snd_val (PE.imp (pe_callB (cr_sortT C.calm) (gl_of C hg) (C.blt _ (by decide +kernel)) (by decide +kernel) (pa_cons a1 pa_nil rfl) (by decide +kernel) (by decide +kernel) rfl rfl) fun σ H Q ⟨env, ok, hi, fr, hm⟩ => ?_) rfl
  replace hm : Post X.K ca (WE W σ) ok H Q ((evE cl env e).bind fun x => ssetV (frz x)) := hm
  refine ⟨env, ok, hi, fr, hm.bindv fun x H1 u fp e1 s1 r1 f1 n1 k1 => ?_⟩
  have r1' := r1.fz fr f1
  generalize frz x = fx at k1 r1'
  cases r1' with
  | @lstF a xs us ht hok rs =>
    replace k1 : Post X.K ca (WE W σ) ok H1 Q (match allS xs with
      | some ys => if decide (ys.length < 4000) = true then .ok (.lst true ((srt leT (ddp ys)).map PV.str)) else .bad
      | none => .bad) := k1
    cases e4 : allS xs with
    | none => rw [e4] at k1; exact k1.elim
    | some ys =>
      rw [e4] at k1
      obtain ⟨ev, zo⟩ := allS_V e4 rs
      subst ev
      by_cases c : decide (ys.length < 4000) = true
      · dsimp only at k1
        rw [if_pos c] at k1
        have c := of_decide_eq_true c
        replace k1 : Got X.K H1 ok Q (.lst true ((srt leT (ddp ys)).map PV.str)) := k1
        refine ⟨a, ys, rfl, .inl ht, by unfold scanBound; omega, fun b L hb nd mm => ?_⟩
        have pm : L.Perm (ddp ys) := (List.perm_ext_iff_of_nodup nd (ddp_nd ys)).mpr fun z => (mm z).trans ddp_mem.symm
        have ll : L.length < scanBound := by
          have key : ∀ l : List Str, (ddp l).length ≤ l.length := fun l => by
            induction l with
            | nil => exact Nat.le_refl _
            | cons x l ih =>
              unfold ddp
              split
              · exact Nat.le_succ_of_le ih
              · exact Nat.succ_le_succ ih
          have := key ys
          rw [pm.length_eq]
          unfold scanBound
          omega
        refine ⟨b, L, rfl, upd_same, nd, ll, fun zs p pz so hp => ?_⟩
        rw [srt_uniqT (pz.trans pm) so]
        refine Got.lst (Got.mono (same_upd hb) k1) (rps_strsA _ fun x hx => zo x (ddp_mem.mp ((srt_perm leT _).mem_iff.mp hx))) hp
      · dsimp only at k1
        rw [if_neg c] at k1
        exact k1.elim
  | _ => exact k1.elim
end
section
variable {X : Cx} {ca fa : Nat → Addr} {cl : Cl} {W : WX} {tc : Tc} {n : Nat}
theorem keys_rp {K : PySem.W.Frag} {H : Hp} {ok : Addr → Prop} {k : DKey} (h : kB k = true) : Rp K H ok (keyP k) (kV k) [] := by
  cases k with
  | inl i => exact .int i
  | inr x => exact .str x h
theorem items_rp {K : PySem.W.Frag} {H H' : Hp} {ok : Addr → Prop} (s : Same H H') : ∀ {ts : List Addr} {ks : List DKey} {xs : List PV} {vs : List V}, Paired (fun (t : Addr) (q : DKey × V) => H' t = some (.tup [kV q.1, q.2])) ts (ks.zip vs) → Rps K H ok xs vs [] → ks.length = vs.length → ks.all kB = true →
    Rps K H' ok ((ks.zip xs).map fun p => .tup [keyP p.1, frz p.2]) (ts.map V.ref) []
  | ts, [], xs, vs, p, r, hl, hk => by
    cases vs with
    | nil =>
      cases p
      exact .nil
    | cons _ _ => cases hl
  | ts, k :: ks, xs, [], p, r, hl, hk => by cases hl
  | ts, k :: ks, xs, v :: vs, p, r, hl, hk => by
    match xs, r with
    | x :: xs, r =>
      obtain ⟨v', vs', e, r1, rs⟩ := r.inv0
      cases e
      rw [List.all_cons, Bool.and_eq_true] at hk
      cases p with
      | cons p1 p2 =>
        exact .cons0 (.tup (.of p1) (.cons0 (keys_rp hk.1) (.cons0 ((r1.frz (fun _ z => z) fun _ z => nomatch z).same s) .nil))) (items_rp s p2 rs (by simpa using hl) hk.2)
    | [], r => cases r
/-- list(d.items()), d locked or not -/
def tItR (t : TE) : TE := fun σ H Q => t σ H fun x Hx => ∃ (d : Addr) (ks : List (Key × V)), x = .ref d ∧ Rd Hx d (.dK ks) ∧
  ∀ (H' : Hp) (p : Addr) (ts : List Addr), (∀ b o, Hx b = some o → H' b = some o) → Hx p = none → (∀ t ∈ ts, Hx t = none) → p ∉ ts → H' p = some (.lst (ts.map V.ref)) → Paired (fun (t : Addr) (q : Key × V) => H' t = some (.tup [kV q.1, q.2])) ts ks → Q (.ref p) H'
theorem pe_itR {X : Cx} {o : Expr} {t : TE} {p1 p2 p3 p4 : Pos} (calm : X.calm = true) (ho : PE X o t) (gl : Gl X "list") (mg : X.mg "list" = none) (ab : attributeBase o "items" X.env (eval o X.env) = eval o X.env) (ln : (p2.endLine == p3.line) = true)
    (st : starEach [.Call (.Attribute o "items" p2) [] [] p3] X.env = (false, eval (.Call (.Attribute o "items" p2) [] [] p3) X.env) :: starEach [] X.env) :
    PE X (.Call (.Name "list" p1) [.Call (.Attribute o "items" p2) [] [] p3] [] p4) (tItR t) := ⟨fun pins s σ H Q I hq => by
  refine wpAny_Call_Name_kw (ld_blt I gl mg PyProof.Rows.boot_list (PyProof.Rows.callWith_type1 ?_ st rfl))
  rw [st]
  refine Calls.spliced_cons (wpAny_Call_method (T := "dict") (id := "dict.items") ab rfl ln F.plainAttrs_dict F.slot_dict_items F.type_dict_items (thn (ho.run pins s σ H _ I hq) fun w sx ⟨x, Hx, Ix, rx, d, ks, ex, hd, q⟩ => ?_))
  subst ex
  obtain rfl : w = Value.ref d := rx
  obtain ⟨hz, hy, vs, rel, D⟩ := dk_rd Ix.hok hd
  obtain ⟨ep, at1⟩ := D.dictAt
  have len : ks.length = vs.length := Paired.length rel
  refine ⟨D.typeIs, D.mapOf.noDict, method_meetsIn F.slot_dict_items F.entry_dict_items rfl (PySem.evalArgs_none ⟨rfl, D.typeIs, F.args_dict_items_1 _, _, meets_dict_items (mixKind X.prog X.w) d hy, ⟨vs, D⟩, Calls.spliced_nil ?_⟩)⟩
  have I3 : Inv X pins σ Hx { sx with heap := sx.heap.push { cls := .type "dict_items", data := .fields #[.ref d] } } := Ix.kept (t' := sx.toks) fun _ _ z => Heap.get?_push_of_some _ z
  exact PySem.W.kdx_call (knd := mixKind X.prog X.w) (kvs := vs) (ep := ep) (Ix.ok.hd calm) ⟨_, Heap.get?_push_size _ rfl, rfl, rfl⟩ (at1.push _) (by omega) fun h' tk acc c as k1 k2 k3 k4 k5 =>
    let ⟨H', m1, m2, m3, m4, m5, m6, J⟩ := LiI.items_laid (tk := tk) I3 hz rel k1 k2 k3 k4 k5
    ⟨.ref _, H', J, rfl, q H' _ as m1 m2 m3 m4 m5 m6⟩⟩
theorem s_items {e : Ex} {ob : Expr} {p apos cpos pos : Pos} (C : Cok X W tc cl n ca fa) (h : SndE X ca cl W e ob) (hb : plainO ob = true) (hl : (apos.endLine == cpos.line) = true) (hg : glB tc.sc "list" = true) :
    SndE X ca cl W (.items e) (.Call (.Name "list" p) [.Call (.Attribute ob "items" apos) [] [] cpos] [] pos) := by
  refine snd_val (PE.imp (pe_itR C.calm h.pe (gl_of C hg) (C.blt _ (by decide +kernel)) (abase_of hb) hl rfl) fun σ H Q ⟨env, ok, hi, fr, hm⟩ => ?_) rfl
  replace hm : Post X.K ca (WE W σ) ok H Q ((evE cl env e).bind fun x => itmV (frz x)) := hm
  refine ⟨env, ok, hi, fr, hm.bindv fun x H1 u fp e1 s1 r1 f1 n1 k1 => ?_⟩
  have r1' := r1.fz fr f1
  generalize frz x = fx at k1 r1'
  cases r1' with
  | @dctF a ks xs us ht hz hok rs =>
    replace k1 : Got X.K H1 ok Q (.lst true ((ks.zip xs).map fun p => .tup [keyP p.1, frz p.2])) := k1
    refine ⟨a, _, rfl, ht, fun H' q ts kp hq hts hqn hH hP => ?_⟩
    have hk : ks.all kB = true := by
      have := hz.2
      unfold ksB at this
      rw [Bool.and_eq_true] at this
      exact this.1
    have sm : Same H1 H' := fun b o e => kp b o e
    have g := items_rp (ok := fun a => ok a ∧ ∃ u, H1 a = some u) sm hP rs.inD hz.1 hk
    refine k1 H' _ [q] sm (.lstO hH (g.imp fun b z => ⟨z.1, fun e => ?_⟩)) (fun b z => by rw [List.mem_singleton.mp z]; exact hq) (by simp)
    obtain ⟨w, hw⟩ := z.2
    rw [List.mem_singleton.mp e, hq] at hw
    cases hw
  | _ => exact k1.elim
/-! ### zip -/
theorem wk_zip {K : PySem.W.Frag} {okx M : Addr → Prop} {H0 : Hp} {a b : Addr} {xs ys : List PV} {us ws : List V} {J : It}
    (hJ : J = Itz K a b ∧ (∀ H, KeepM M H0 H → SqL K H a us ∧ SqL K H b ws) ∨ J = RZ.ItzT K a b ∧ (∀ H, KeepM M H0 H → SqT K H a us ∧ SqT K H b ws))
    (r1 : Rps K H0 okx xs us []) (r2 : Rps K H0 okx ys ws []) (hM : ∀ a, okx a → ¬ M a) (hm : ∀ a, M a → ∃ u, H0 a = some u ∧ isMu u = true) : Wk K okx M J (List.zipWith (fun x y => PV.tup [x, y]) xs ys) H0 := by
  have lx := r1.len
  have ly := r2.len
  have go : ∀ i, i < (List.zipWith (fun x y => PV.tup [x, y]) xs ys).length → ∃ u w, us[i]? = some u ∧ ws[i]? = some w := fun i hi => by
    rw [List.length_zipWith] at hi
    exact ⟨us[i], ws[i], List.getElem?_eq_getElem (by omega), List.getElem?_eq_getElem (by omega)⟩
  have yl : ∀ i H (u w : V) (T : Addr), KeepM M H0 H → i < (List.zipWith (fun x y => PV.tup [x, y]) xs ys).length → us[i]? = some u → ws[i]? = some w → H T = none → Same H (upd H T (.tup [u, w])) ∧ ∃ pv, (List.zipWith (fun x y => PV.tup [x, y]) xs ys)[i]? = some pv ∧ Rp K (upd H T (.tup [u, w])) okx pv (.ref T) [] := fun i H u w T k hi hu hw hT => by
    rw [List.length_zipWith] at hi
    have g1 := (r1.keep k hm (fun _ z => z) hM (fun _ z => nomatch z))
    have g2 := (r2.keep k hm (fun _ z => z) hM (fun _ z => nomatch z))
    obtain ⟨u', e1, q1⟩ := g1.get (List.getElem?_eq_getElem (show i < xs.length by omega))
    obtain ⟨w', e2, q2⟩ := g2.get (List.getElem?_eq_getElem (show i < ys.length by omega))
    rw [hu] at e1
    rw [hw] at e2
    cases e1
    cases e2
    refine ⟨same_upd hT, PV.tup [xs[i], ys[i]], ?_, .tup (.of upd_same) (.cons0 (q1.same (same_upd hT)) (.cons0 (q2.same (same_upd hT)) .nil))⟩
    rw [List.getElem?_eq_getElem (by rw [List.length_zipWith]; omega), List.getElem_zipWith]
  rcases hJ with ⟨rfl, h⟩ | ⟨rfl, h⟩
  · refine ⟨fun i H k hi => ?_, fun i H x H' k hi y => ?_, fun i H k hi => ?_⟩
    · obtain ⟨u, w, e1, e2⟩ := go i hi
      exact ⟨us, ws, u, w, (h H k).1, (h H k).2, e1, e2⟩
    · obtain ⟨T, u, w, rfl, hT, rfl, y1, y2⟩ := y
      exact yl i H u w T k hi (y1 us (h H k).1) (y2 ws (h H k).2) hT
    · rw [List.length_zipWith] at hi
      exact ⟨us, ws, (h H k).1, (h H k).2, by omega⟩
  · refine ⟨fun i H k hi => ?_, fun i H x H' k hi y => ?_, fun i H k hi => ?_⟩
    · obtain ⟨u, w, e1, e2⟩ := go i hi
      exact ⟨us, ws, u, w, (h H k).1, (h H k).2, e1, e2⟩
    · obtain ⟨T, u, w, rfl, hT, rfl, y1, y2⟩ := y
      exact yl i H u w T k hi (y1 us (h H k).1) (y2 ws (h H k).2) hT
    · rw [List.length_zipWith] at hi
      exact ⟨us, ws, (h H k).1, (h H k).2, by omega⟩
/-- several held -/
theorem heldA {K : PySem.W.Frag} {H1 : Hp} {ok : Addr → Prop} {x : List PV} {v : List V} {fp : List Addr} (r : Rps K H1 (okn ok fp) x v fp) : Rps K H1 (fun a => (a ∈ fp ∨ (clss x = false ∧ ok a)) ∧ ∃ u, H1 a = some u) (frzs x) v [] := by
  refine Rps.inD (ok := fun a => a ∈ fp ∨ (clss x = false ∧ ok a)) ?_
  cases c : clss x with
  | true => exact (r.free (ok' := fun _ => False) c).frz (fun _ z => z.elim) fun a z => .inl z
  | false => exact r.frz (fun a z => .inr ⟨rfl, z.1⟩) fun a z => .inl z
theorem i_zip {es : Exs} {a b : Expr} {p p2 tpos : Pos} {elts : List Expr} {kk : Nat} (C : Cok X W tc cl n ca fa) (h : PA X [a, b] (tAs X.K ca cl W es)) (hp : plainX a = true) (hp2 : plainX b = true) (hg : glB tc.sc "zip" = true) :
    PI X (.Tuple elts kk tpos) (.Call (.Name "zip" p) [a, b] [] p2) (tI X.K ca cl W (.zip es)) := by
  refine PI.imp (RZ.pi_zipA (gl_of C hg) (C.blt "zip" (by decide +kernel)) h (by rw [star_of hp, star_of hp2]) (by rw [star_of hp2]; rfl)) fun σ H R hq => ?_
  obtain ⟨env, ok, hi, fr, hm⟩ := hq
  replace hm : PostI X.K ca (WE W σ) ok H R ((evEs cl env es).bind fun vs => (zipV (frzs vs)).bind fun xs => .ok (.tup vs, xs)) := hm
  refine ⟨env, ok, hi, fr, ?_⟩
  cases e1 : evEs cl env es with
  | ok ys =>
    rw [e1] at hm
    intro H1 vs fp s1 r1 f1 n1
    replace hm : PostI X.K ca (WE W σ) ok H R ((zipV (frzs ys)).bind fun xs => .ok (.tup ys, xs)) := hm
    have rz := heldA r1
    cases e2 : zipV (frzs ys) with
    | ok zs =>
      rw [e2] at hm
      have fin : ∀ J, (∀ M, (∀ a, ((a ∈ fp ∨ (clss ys = false ∧ ok a)) ∧ ∃ u, H1 a = some u) → ¬ M a) → (∀ a, M a → ∃ u, H1 a = some u ∧ isMu u = true) → Wk X.K (fun a => (a ∈ fp ∨ (clss ys = false ∧ ok a)) ∧ ∃ u, H1 a = some u) M J zs H1) → R J H1 :=
        fun J w => hm J H1 _ s1 (fun a z => ⟨z.1.imp (f1 a) fun z => z, z.2⟩) w
      generalize frzs ys = fs at rz e2
      match fs, rz, e2 with
      | [.lst o xs, .lst o' zs'], rz, e2 =>
        obtain ⟨u, w, rfl, q1, q2⟩ := two0 rz
        cases e2
        cases q1 with
        | @lstF a1 _ us h1 k1 rs1 =>
          cases q2 with
          | @lstF a2 _ ws h2 k2 rs2 =>
            exact ⟨a1, a2, us, ws, rfl, .inl ⟨.inl h1, .inl h2, fin _ fun M hM hm => wk_zip (.inl ⟨rfl, fun H k => ⟨.inl (rd_keep k (hM a1 k1) h1), .inl (rd_keep k (hM a2 k2) h2)⟩⟩) (rs1.frz (fun _ z => z) fun _ z => nomatch z) (rs2.frz (fun _ z => z) fun _ z => nomatch z) hM hm⟩⟩
      | [.tup xs, .tup zs'], rz, e2 =>
        obtain ⟨u, w, rfl, q1, q2⟩ := two0 rz
        cases e2
        cases q1 with
        | @tup a1 _ us _ h1 rs1 =>
          cases q2 with
          | @tup a2 _ ws _ h2 rs2 =>
            exact ⟨a1, a2, us, ws, rfl, .inr ⟨h1, h2, fin _ fun M hM hm => wk_zip (.inr ⟨rfl, fun H k => ⟨sqT_keep k hm h1, sqT_keep k hm h2⟩⟩) (rs1.frz (fun _ z => z) fun _ z => nomatch z) (rs2.frz (fun _ z => z) fun _ z => nomatch z) hM hm⟩⟩
    | exc c =>
      unfold zipV at e2
      split at e2 <;> cases e2
    | bad =>
      rw [e2] at hm
      exact hm.elim
  | exc c => rw [e1] at hm; exact hm
  | bad => rw [e1] at hm; exact hm.elim
end
end BW

/-! Targets, comprehensions. -/
namespace BW
open PySem PySem.Spec L2

/-! ### targets -/
def gNs : List Nat → TGs
  | [] => gNil
  | i :: is => gCons (gName i) (gNs is)
/-- (a, b, ..) = a tuple, a list of that length -/
def gSeq (K : PySem.W.Frag) (n : Nat) (t : TGs) : TG := fun v σ H Q => ∃ a xs, v = .ref a ∧ (SqT K H a xs ∨ SqL K H a xs) ∧ xs.length = n ∧ t xs σ H Q
theorem pg_seq {X : Cx} {pos : Pos} {es : List Expr} {k : Nat} {t : TGs} {n : Nat} (hc : X.calm = true) (h : PGs X es t) (hn : (assignEach es X.env).length = n) (hst : (assignEach es X.env).findIdx? (·.1) = none) : PG X (.Tuple es k pos) (gSeq X.K n t) := by
  refine ⟨fun pins s σ H v u Q I r hw => ?_⟩
  obtain ⟨a, xs, e1, hq | hq, hl, hw⟩ := hw
  · exact (pg_tup hc h hn hst).run pins s σ H v u Q I r ⟨a, xs, e1, hq, hl, hw⟩
  · exact (pg_lst hc h hn hst).run pins s σ H v u Q I r ⟨a, xs, e1, hq, hl, hw⟩
def tG (K : PySem.W.Frag) (t : List Nat) : TG := match t with
  | [i] => gName i
  | _ => gSeq K t.length (gNs t)
def setV (σ : L2.St) (l : List (Nat × V)) : L2.St := l.foldl (fun s p => s.set p.1 (some p.2)) σ
theorem gNs_run : ∀ {t : List Nat} {vs : List V} {σ : L2.St} {H : Hp} {Q : L2.St → Hp → Prop}, vs.length = t.length → Q (setV σ (t.zip vs)) H → gNs t vs σ H Q
  | [], [], _, _, _, _, q => ⟨rfl, q⟩
  | [], _ :: _, _, _, _, h, _ => by cases h
  | _ :: _, [], _, _, _, h, _ => by cases h
  | i :: is, v :: vs, σ, H, Q, h, q => ⟨v, vs, rfl, gNs_run (t := is) (vs := vs) (by simpa using h) q⟩
section
variable {X : Cx}
theorem pgs_of (hN : X.N.Nodup) {sc : Scope} {fn : List (Str × Nat)} {gl : List (Str × Gk)} (hx : ∀ x, locB sc x = true → Loc X.env.scope x ∧ (X.fn x = true ∨ X.env.scope.names.lookup x = some .local)) : ∀ {t : List Nat} {es : List Expr}, ckTs ⟨X.N, sc, fn, gl⟩ t es = true →
    PGs X es (gNs t) ∧ (assignEach es X.env).length = t.length ∧ (assignEach es X.env).findIdx? (·.1) = none
  | [], [], _ => ⟨pgs_nil, rfl, rfl⟩
  | [], _ :: _, h => by cases h
  | _ :: _, [], h => by cases h
  | i :: is, e :: es, h => by
    cases e with
    | Name x p =>
      have h : (decide (X.N[i]? = some x) && locB sc x && ckTs ⟨X.N, sc, fn, gl⟩ is es) = true := h
      rw [Bool.and_eq_true, Bool.and_eq_true, decide_eq_true_eq] at h
      obtain ⟨⟨h1, h2⟩, h3⟩ := h
      obtain ⟨q1, q2, q3⟩ := pgs_of hN hx h3
      obtain ⟨l1, l2⟩ := hx x h2
      refine ⟨pgs_cons (pg_name hN h1 l1 l2) q1, ?_, ?_⟩
      · show (assignEach es X.env).length + 1 = is.length + 1
        rw [q2]
      · show List.findIdx? (·.1) ((false, assign (.Name x p) X.env) :: assignEach es X.env) = none
        rw [List.findIdx?_cons, q3]
        rfl
    | _ => cases h
theorem pg_of (hc : X.calm = true) (hN : X.N.Nodup) {sc : Scope} {fn : List (Str × Nat)} {gl : List (Str × Gk)} (hx : ∀ x, locB sc x = true → Loc X.env.scope x ∧ (X.fn x = true ∨ X.env.scope.names.lookup x = some .local)) {t : List Nat} {e : Expr} (h : ckT ⟨X.N, sc, fn, gl⟩ t e = true) : PG X e (tG X.K t) := by
  cases e with
  | Name x p =>
    unfold ckT at h
    dsimp only at h
    split at h
    · rw [Bool.and_eq_true, decide_eq_true_eq] at h
      obtain ⟨l1, l2⟩ := hx x h.2
      exact pg_name hN h.1 l1 l2
    · cases h
  | Tuple es k p =>
    have h : (decide (2 ≤ t.length) && ckTs ⟨X.N, sc, fn, gl⟩ t es) = true := h
    rw [Bool.and_eq_true, decide_eq_true_eq] at h
    obtain ⟨q1, q2, q3⟩ := pgs_of hN hx h.2
    match t, h.1, q1, q2 with
    | i :: j :: r, _, q1, q2 => exact pg_seq hc q1 q2 q3
  | _ => cases h
end
/-- what a target's names stand for behind -/
theorem setV_out {i : Nat} : ∀ {l : List (Nat × V)} {σ : L2.St}, i ∉ l.map (·.1) → (setV σ l)[i]? = σ[i]?
  | [], _, _ => rfl
  | (j, v) :: l, σ, h => by
    have h1 : i ≠ j := fun e => h (by rw [e]; exact List.mem_cons_self)
    have h2 : i ∉ l.map (·.1) := fun e => h (List.mem_cons_of_mem _ e)
    show (setV (σ.set j (some v)) l)[i]? = σ[i]?
    rw [setV_out h2, List.getElem?_set_ne (Ne.symm h1)]
def setP (env : PEnv) (l : List (Nat × PV)) : PEnv := l.foldl (fun e p => e.set p.1 (some p.2)) env
theorem setP_out {i : Nat} : ∀ {l : List (Nat × PV)} {env : PEnv}, i ∉ l.map (·.1) → (setP env l)[i]? = env[i]?
  | [], _, _ => rfl
  | (j, v) :: l, env, h => by
    have h1 : i ≠ j := fun e => h (by rw [e]; exact List.mem_cons_self)
    have h2 : i ∉ l.map (·.1) := fun e => h (List.mem_cons_of_mem _ e)
    show (setP (env.set j (some v)) l)[i]? = env[i]?
    rw [setP_out h2, List.getElem?_set_ne (Ne.symm h1)]
theorem setV_len : ∀ {l : List (Nat × V)} {σ : L2.St}, (setV σ l).length = σ.length
  | [], _ => rfl
  | (j, v) :: l, σ => by
    show (setV (σ.set j (some v)) l).length = σ.length
    rw [setV_len, List.length_set]
theorem setP_len : ∀ {l : List (Nat × PV)} {σ : PEnv}, (setP σ l).length = σ.length
  | [], _ => rfl
  | (j, v) :: l, σ => by
    show (setP (σ.set j (some v)) l).length = σ.length
    rw [setP_len, List.length_set]
/-- frozen things set: each place told as it is -/
theorem set_in {K : PySem.W.Frag} {H : Hp} {ok : Addr → Prop} {P : Nat → Prop} : ∀ {t : List Nat} {xs : List PV} {vs : List V} {env : PEnv} {σ : L2.St}, xs.length = t.length → Rps K H ok xs vs [] → env.length = σ.length →
    (∀ i x, P i → getE env i = .ok x → i ∉ t → ∃ v, σ[i]? = some (some v) ∧ Rp K H ok x v []) → ∀ i x, P i → getE (setP env (t.zip xs)) i = .ok x → ∃ v, (setV σ (t.zip vs))[i]? = some (some v) ∧ Rp K H ok x v []
  | [], [], vs, env, σ, _, r, _, h, i, x, hp, e => by
    cases r
    exact h i x hp e (fun z => nomatch z)
  | [], _ :: _, _, _, _, h, _, _, _, _, _, _, _ => by cases h
  | _ :: _, [], _, _, _, h, _, _, _, _, _, _, _ => by cases h
  | j :: t, y :: ys, vs, env, σ, hl, r, hn, h, i, x, hp, e => by
    obtain ⟨v, vs', ev, r1, r2⟩ := r.inv0
    subst ev
    refine set_in (t := t) (xs := ys) (vs := vs') (env := env.set j (some y)) (σ := σ.set j (some v)) (by simpa using hl) r2 (by rw [List.length_set, List.length_set]; exact hn) (fun i x hp e hi => ?_) i x hp e
    by_cases hij : j = i
    · subst hij
      unfold getE at e
      by_cases hlt : j < env.length
      · rw [List.getElem?_set_self hlt] at e
        cases e
        exact ⟨v, by rw [List.getElem?_set_self (by rw [← hn]; exact hlt)], r1.frz (fun _ z => z) fun _ z => nomatch z⟩
      · rw [List.getElem?_eq_none (by rw [List.length_set]; omega)] at e
        cases e
    · have e2 : getE env i = .ok x := by
        unfold getE at e ⊢
        rw [List.getElem?_set_ne hij] at e
        exact e
      obtain ⟨w, h1, h2⟩ := h i x hp e2 (fun z => by
        rcases List.mem_cons.mp z with z | z
        · exact hij z.symm
        · exact hi z)
      exact ⟨w, by rw [List.getElem?_set_ne hij]; exact h1, h2⟩
/-- binding a frozen thing -/
theorem bind_in {K : PySem.W.Frag} {H : Hp} {ok : Addr → Prop} {P : Nat → Prop} {t : List Nat} {x : PV} {v : V} {env env1 : PEnv} {σ : L2.St} {Q : L2.St → Hp → Prop} (r : Rp K H ok x v []) (hn : env.length = σ.length) (e : bindT t x env = .ok env1)
    (h : ∀ i x, P i → getE env i = .ok x → i ∉ t → ∃ v, σ[i]? = some (some v) ∧ Rp K H ok x v []) (k : ∀ l : List (Nat × V), l.map (·.1) = t → (∀ i x, P i → getE env1 i = .ok x → ∃ v, (setV σ l)[i]? = some (some v) ∧ Rp K H ok x v []) → env1.length = env.length → Q (setV σ l) H) : tG K t v σ H Q := by
  have one : ∀ i, t = [i] → tG K t v σ H Q := fun i ht => by
    subst ht
    cases e
    refine k [(i, v)] rfl ?_ (List.length_set ..)
    exact set_in (t := [i]) (xs := [x]) (vs := [v]) rfl (.cons0 r .nil) hn h
  have many : (∀ i, t ≠ [i]) → tG K t v σ H Q := fun ht => by
    have e1 : tG K t = gSeq K t.length (gNs t) := by
      unfold tG
      split
      · rename_i i
        exact absurd rfl (ht i)
      · rfl
    have e2 : (match x with | .tup xs => if xs.length = t.length then Res.ok (setP env (t.zip xs)) else .bad | .lst _ xs => if xs.length = t.length then Res.ok (setP env (t.zip xs)) else .bad | _ => .bad) = .ok env1 := by
      unfold bindT at e
      split at e
      · rename_i i
        exact absurd rfl (ht i)
      · exact e
    rw [e1]
    cases r with
    | tup hs rs =>
      rename_i a xs vs
      by_cases hl : xs.length = t.length
      · have e2 : (if xs.length = t.length then Res.ok (setP env (t.zip xs)) else .bad) = .ok env1 := e2
        rw [if_pos hl] at e2
        cases e2
        have hl2 : vs.length = t.length := by rw [← rs.len]; exact hl
        refine ⟨a, vs, rfl, .inl hs, hl2, gNs_run hl2 ?_⟩
        refine k (t.zip vs) ?_ (set_in hl rs hn h) setP_len
        rw [List.map_fst_zip (by omega)]
      · have e2 : (if xs.length = t.length then Res.ok (setP env (t.zip xs)) else .bad) = .ok env1 := e2
        rw [if_neg hl] at e2
        cases e2
    | lstF hs ho rs =>
      rename_i a xs vs
      by_cases hl : xs.length = t.length
      · have e2 : (if xs.length = t.length then Res.ok (setP env (t.zip xs)) else .bad) = .ok env1 := e2
        rw [if_pos hl] at e2
        cases e2
        have hl2 : vs.length = t.length := by rw [← rs.len]; exact hl
        refine ⟨a, vs, rfl, .inr (.inl hs), hl2, gNs_run hl2 ?_⟩
        refine k (t.zip vs) ?_ (set_in hl rs hn h) setP_len
        rw [List.map_fst_zip (by omega)]
      · have e2 : (if xs.length = t.length then Res.ok (setP env (t.zip xs)) else .bad) = .ok env1 := e2
        rw [if_neg hl] at e2
        cases e2
    | _ => cases e2
  match t with
  | [i] => exact one i rfl
  | [] => exact many fun i z => nomatch z
  | _ :: _ :: _ => exact many fun i z => by simp at z
/-! ### forgetting slots -/
theorem wipe_at {σ : L2.St} {i : Nat} : ∀ {vs : List Nat}, (wipe σ vs)[i]? = if i ∈ vs ∧ i < σ.length then some none else σ[i]?
  | [] => by simp [wipe]
  | v :: vs => by
    have ih := wipe_at (σ := σ) (i := i) (vs := vs)
    unfold wipe
    by_cases h : v = i
    · subst h
      by_cases hl : v < σ.length
      · rw [List.getElem?_set_self (by rw [wipe_length]; exact hl), if_pos ⟨List.mem_cons_self, hl⟩]
      · rw [if_neg (fun z => hl z.2), List.getElem?_eq_none (by rw [List.length_set, wipe_length]; omega), List.getElem?_eq_none (by omega)]
    · rw [List.getElem?_set_ne h, ih]
      by_cases h2 : i ∈ vs ∧ i < σ.length
      · rw [if_pos h2, if_pos ⟨List.mem_cons_of_mem _ h2.1, h2.2⟩]
      · rw [if_neg h2, if_neg fun z => h2 ⟨(List.mem_cons.mp z.1).resolve_left (Ne.symm h), z.2⟩]
theorem wipe_sets {σ : L2.St} {vs : List Nat} {l : List (Nat × V)} (h : ∀ p ∈ l, p.1 ∈ vs) : wipe (setV (wipe σ vs) l) vs = wipe σ vs := by
  apply List.ext_getElem?
  intro i
  rw [wipe_at, setV_len, wipe_length]
  by_cases hi : i ∈ vs ∧ i < σ.length
  · rw [if_pos hi, wipe_at, if_pos hi]
  · rw [if_neg hi]
    by_cases hv : i ∈ vs
    · have hl : ¬ i < σ.length := fun z => hi ⟨hv, z⟩
      rw [List.getElem?_eq_none (by rw [setV_len, wipe_length]; omega), List.getElem?_eq_none (by rw [wipe_length]; omega)]
    · rw [setV_out fun z => by
        obtain ⟨p, hp, e⟩ := List.mem_map.mp z
        exact hv (by rw [← e]; exact h p hp)]
theorem wipeE_at {i : Nat} {x : PV} : ∀ {vs : List Nat} {env : PEnv}, getE (wipeE vs env) i = .ok x → i ∉ vs ∧ getE env i = .ok x
  | [], _, h => ⟨(fun z => nomatch z), h⟩
  | v :: vs, env, h => by
    obtain ⟨h1, h2⟩ := wipeE_at (vs := vs) (env := env.set v none) h
    by_cases e : v = i
    · subst e
      exfalso
      unfold getE at h2
      by_cases hl : v < env.length
      · rw [List.getElem?_set_self hl] at h2
        cases h2
      · rw [List.getElem?_eq_none (by rw [List.length_set]; omega)] at h2
        cases h2
    · refine ⟨fun z => (List.mem_cons.mp z).elim (fun z => e z.symm) h1, ?_⟩
      unfold getE at h2 ⊢
      rw [List.getElem?_set_ne e] at h2
      exact h2
theorem wipeE_len : ∀ {vs : List Nat} {env : PEnv}, (wipeE vs env).length = env.length
  | [], _ => rfl
  | v :: vs, env => by
    show (wipeE vs (env.set v none)).length = _
    rw [wipeE_len, List.length_set]
/-! ### comprehensions -/
def W0 : WX := fun _ _ _ _ => False
def tCd (K : PySem.W.Frag) (ca : Nat → Addr) (cl : Cl) (c : Exo) : TT := match c with
  | .none => tYes
  | .some c => tT K ca cl W0 c
theorem bind_ok {α β : Type} {r : Res α} {f : α → Res β} {z : β} (h : r.bind f = .ok z) : ∃ x, r = .ok x ∧ f x = .ok z := by
  cases r with
  | ok x => exact ⟨x, rfl, h⟩
  | exc c => cases h
  | bad => cases h
theorem noX_ok {α : Type} {r : Res α} {z : α} (h : noX r = .ok z) : r = .ok z := by
  cases r <;> first | exact h | cases h
theorem noX_ne {α : Type} {r : Res α} {c : Nat} : noX r ≠ .exc c := fun h => by
  cases r <;> cases h
section
variable {X : Cx} {tg : Expr} {ca fa : Nat → Addr} {cl : Cl} {W : WX} {tc : Tc} {n : Nat}
theorem lc_imp {t : List Nat} {it : Iw} {c : Exo} {e : Ex} {own : List (Str × Nat)} (hown : own.map (·.2) = t) {σ : L2.St} {H : Hp} {Q : VK} (hq : tE X.K ca cl W (.lc t t it c e) σ H Q) :
    tLc (tI X.K ca cl W it) (tG X.K t) (tCd X.K ca cl c) (tE X.K ca cl W0 e) (own.map (·.2)) σ H Q := by
  obtain ⟨env, ok, hi, fr, hm⟩ := hq
  refine ⟨env, ok, hi.left, fr, ?_⟩
  replace hm : Post X.K ca (WE W σ) ok H Q ((evI cl env it).bind fun hx => (noX (lcL t (fun env => evC cl env c) (fun env => evE cl env e) (wipeE t env) hx.2 [])).bind fun ys => .ok (.lst true ys)) := hm
  cases e1 : evI cl env it with
  | ok p =>
    rw [e1] at hm
    intro J H1 okx s1 hokx wk D hD
    replace hm : Post X.K ca (WE W σ) ok H Q ((noX (lcL t (fun env => evC cl env c) (fun env => evE cl env e) (wipeE t env) p.2 [])).bind fun ys => .ok (.lst true ys)) := hm
    cases e2 : noX (lcL t (fun env => evC cl env c) (fun env => evE cl env e) (wipeE t env) p.2 []) with
    | ok ys =>
      rw [e2] at hm
      replace hm : Got X.K H ok Q (.lst true ys) := hm
      have e3 := noX_ok e2
      have w := wk (fun _ => False) (fun _ _ z => z) (fun _ z => z.elim)
      have hDn : ∀ a u, H1 a = some u → a ≠ D := fun a u z e => by rw [e, hD] at z; cases z
      have hi1 : EIn X.K H1 (fun a => ok a ∧ ∃ u, H1 a = some u) env σ (vO c ++ vE e) := ⟨hi.1, fun i hj x ex => by
        obtain ⟨v, h1, h2⟩ := (hi.right.same s1).2 i hj x ex
        exact ⟨v, h1, h2.inD⟩⟩
      rw [hown]
      refine ⟨fun i m H' => m = p.2.length - i ∧ i ≤ p.2.length ∧ Same H1 H' ∧ ∃ acc vs fp, lcL t (fun env => evC cl env c) (fun env => evE cl env e) (wipeE t env) (p.2.drop i) acc = .ok ys ∧ H' D = some (.lst vs) ∧
        Rps X.K H' (okn (fun a => ok a ∧ a ≠ D) fp) acc vs fp ∧ (∀ a ∈ fp, H1 a = none ∧ a ≠ D) ∧ fp.Nodup, ⟨_, rfl, Nat.zero_le _, same_upd hD, [], [], [], e3, upd_same, .nil, fun _ z => (nomatch z), .nil⟩, ?_⟩
      rintro i m H' ⟨rfl, hle, sm, acc, vs, fp, el, hD', ra, fa', nd⟩
      by_cases hlt : i < p.2.length
      · refine .inr ⟨w.go i H' (fun a o z _ => sm a o z) hlt, fun H'' => (fun i m H' => m = p.2.length - i ∧ i ≤ p.2.length ∧ Same H1 H' ∧ ∃ acc vs fp, lcL t (fun env => evC cl env c) (fun env => evE cl env e) (wipeE t env) (p.2.drop i) acc = .ok ys ∧ H' D = some (.lst vs) ∧
          Rps X.K H' (okn (fun a => ok a ∧ a ≠ D) fp) acc vs fp ∧ (∀ a ∈ fp, H1 a = none ∧ a ≠ D) ∧ fp.Nodup) (i + 1) (p.2.length - (i + 1)) H'', fun H'' z => ⟨_, by omega, z⟩, fun x H2 hy => ?_⟩
        obtain ⟨s2, pv, ei, rx⟩ := w.yld i H' x H2 (fun a o z _ => sm a o z) hlt hy
        have ed : p.2.drop i = pv :: p.2.drop (i + 1) := by
          rw [List.drop_eq_getElem_cons hlt]
          rw [List.getElem?_eq_getElem hlt] at ei
          cases ei
          rfl
        rw [ed] at el
        obtain ⟨env1, eb, el⟩ := bind_ok (show (bindT t pv (wipeE t env)).bind _ = .ok ys from el)
        obtain ⟨b, ec, el⟩ := bind_ok el
        have inT : ∀ a, (ok a ∧ ∃ u, H1 a = some u) → okn (fun a => ok a ∧ a ≠ D) fp a := fun a z => ⟨⟨z.1, let ⟨u, q⟩ := z.2; hDn a u q⟩, fun hf => by
          obtain ⟨u, q⟩ := z.2
          rw [(fa' a hf).1] at q
          cases q⟩
        have rx' : Rp X.K H2 (okn (fun a => ok a ∧ a ≠ D) fp) pv x [] := rx.imp fun a z => inT a ⟨(hokx a z).1.elim (fr a) fun z => z.2, (hokx a z).2⟩
        have sm2 := sm.trans s2
        have frD : ∀ {H3 : Hp}, Same H2 H3 → Fre (okn (fun a => ok a ∧ a ≠ D) fp) H3 := fun {H3} s3 a z => ⟨⟨fr a (s1.free (sm2.free (s3.free z))), fun e => by rw [e, s3 D _ (s2 D _ hD')] at z; cases z⟩, fun hf => by
          obtain ⟨u, hu, _⟩ := ra.dom a hf
          rw [s3 a u (s2 a u hu)] at z
          cases z⟩
        refine bind_in (P := fun i => i ∈ vO c ++ vE e) rx' (by rw [wipeE_len, wipe_length]; exact hi.1) eb (fun i y hj ey ht => ?_) fun l hl hin hlen => ?_
        · obtain ⟨_, ey2⟩ := wipeE_at ey
          obtain ⟨v, h1, h2⟩ := (hi1.same sm2).2 i hj y ey2
          exact ⟨v, by rw [wipe_at, if_neg fun z => ht z.1]; exact h1, h2.imp inT⟩
        · refine ⟨wipe_sets fun q hq => by rw [← hl]; exact List.mem_map_of_mem hq, ?_⟩
          have hin' : EIn X.K H2 (okn (fun a => ok a ∧ a ≠ D) fp) env1 (setV (wipe σ t) l) (vO c ++ vE e) := ⟨by rw [hlen, wipeE_len, setV_len, wipe_length]; exact hi.1, fun i hj x ex => hin i x hj ex⟩
          have go : ∀ H3, Same H2 H3 → (if b = true then tE X.K ca cl W0 e (setV (wipe σ t) l) H3 fun y H4 => ∃ acc, H4 D = some (.lst acc) ∧ acc.length < sizeLine ∧ (fun i m H' => m = p.2.length - i ∧ i ≤ p.2.length ∧ Same H1 H' ∧ ∃ acc vs fp, lcL t (fun env => evC cl env c) (fun env => evE cl env e) (wipeE t env) (p.2.drop i) acc = .ok ys ∧ H' D = some (.lst vs) ∧
              Rps X.K H' (okn (fun a => ok a ∧ a ≠ D) fp) acc vs fp ∧ (∀ a ∈ fp, H1 a = none ∧ a ≠ D) ∧ fp.Nodup) (i + 1) (p.2.length - (i + 1)) (upd H4 D (.lst (acc ++ [y])))
            else (fun i m H' => m = p.2.length - i ∧ i ≤ p.2.length ∧ Same H1 H' ∧ ∃ acc vs fp, lcL t (fun env => evC cl env c) (fun env => evE cl env e) (wipeE t env) (p.2.drop i) acc = .ok ys ∧ H' D = some (.lst vs) ∧
              Rps X.K H' (okn (fun a => ok a ∧ a ≠ D) fp) acc vs fp ∧ (∀ a ∈ fp, H1 a = none ∧ a ≠ D) ∧ fp.Nodup) (i + 1) (p.2.length - (i + 1)) H3) := fun H3 s3 => by
            cases b with
            | true =>
              rw [if_pos rfl] at el ⊢
              obtain ⟨y, ey, el⟩ := bind_ok el
              by_cases hz : acc.length < most
              · rw [if_pos hz] at el
                refine ⟨env1, _, hin'.right.same s3, frD s3, ?_⟩
                replace ey : evE cl env1 e = .ok y := ey
                rw [ey]
                intro H4 v fp4 s4 r4 f4 n4
                have hD4 : H4 D = some (.lst vs) := s4 D _ (s3 D _ (s2 D _ hD'))
                refine ⟨vs, hD4, by rw [← ra.len, ← most_eq]; exact hz, rfl, hlt, fun a o z => by rw [upd_ne (hDn a o z)]; exact s4 a o (s3 a o (sm2 a o z)), acc ++ [y], vs ++ [v], fp ++ (fp4 ++ []), el, upd_same, ?_, fun a z => ?_, ?_⟩
                · have hfp4 : ∀ a ∈ fp4, a ≠ D := fun a z e => by have q := f4 a z; rw [e, s3 D _ (s2 D _ hD')] at q; cases q
                  have ra4 : Rps X.K H4 (okn (fun a => ok a ∧ a ≠ D) (fp ++ (fp4 ++ []))) acc vs fp := (((ra.inD.imp fun a z => ⟨z.1.1, fun hf => by
                    rcases List.mem_append.mp hf with hf | hf
                    · exact z.1.2 hf
                    · rw [List.append_nil] at hf
                      obtain ⟨u, q⟩ := z.2
                      have q2 := f4 a hf
                      rw [s3 a u (s2 a u q)] at q2
                      cases q2⟩).same s2).same s3).same s4
                  have r4' : Rp X.K H4 (okn (fun a => ok a ∧ a ≠ D) (fp ++ (fp4 ++ []))) y v fp4 := r4.imp fun a z => ⟨z.1.1, fun hf => by
                    rcases List.mem_append.mp hf with hf | hf
                    · exact z.1.2 hf
                    · rw [List.append_nil] at hf
                      exact z.2 hf⟩
                  refine Rps.keep (H := H4) (ok := okn (fun a => ok a ∧ a ≠ D) (fp ++ (fp4 ++ []))) (M := fun a => a = D) (fun a o z hn => by rw [upd_ne hn]; exact z) (fun a z => ⟨HO.lst vs, by rw [show a = D from z]; exact hD4, rfl⟩) (ra4.app (.cons r4' .nil)) (fun _ z => z) (fun a z => z.1.2) fun a z => ?_
                  rcases List.mem_append.mp z with z | z
                  · exact (fa' a z).2
                  · rw [List.append_nil] at z
                    exact hfp4 a z
                · rcases List.mem_append.mp z with z | z
                  · exact fa' a z
                  · rw [List.append_nil] at z
                    have q := f4 a z
                    exact ⟨sm2.free (s3.free q), fun e => by rw [e, s3 D _ (s2 D _ hD')] at q; cases q⟩
                · rw [List.append_nil]
                  refine List.nodup_append.mpr ⟨nd, n4, fun a ha b hb e => ?_⟩
                  subst e
                  have q := f4 a hb
                  obtain ⟨u, hu, _⟩ := ra.dom a ha
                  rw [s3 a u (s2 a u hu)] at q
                  cases q
              · rw [if_neg hz] at el
                cases el
            | false =>
              rw [if_neg (by decide)] at el ⊢
              exact ⟨rfl, hlt, (sm2.trans s3), acc, vs, fp, el, s3 D _ (s2 D _ hD'), (ra.same s2).same s3, fa', nd⟩
          cases c with
          | none =>
            cases ec
            exact go H2 (Same.refl _)
          | some c =>
            refine ⟨env1, _, hin'.left, frD (Same.refl _), ?_⟩
            replace ec : ((evE cl env1 c).bind fun x => asB x) = .ok b := ec
            rw [ec]
            exact go
      · have ei : i = p.2.length := by omega
        subst ei
        rw [List.drop_length] at el
        cases el
        refine .inl ⟨w.stop _ H' (fun a o z _ => sm a o z) (Nat.le_refl _), ?_⟩
        refine hm H' (.ref D) (D :: fp) (s1.trans sm) (.lstO hD' (ra.imp fun a z => ⟨z.1.1, fun e => (List.mem_cons.mp e).elim z.1.2 z.2⟩)) (fun a z => ?_) (List.nodup_cons.mpr ⟨fun z => (fa' D z).2 rfl, nd⟩)
        rcases List.mem_cons.mp z with z | z
        · rw [z]; exact s1.free hD
        · exact s1.free (fa' a z).1
    | exc k => exact absurd e2 noX_ne
    | bad => rw [e2] at hm; exact hm.elim
  | exc c => rw [e1] at hm; exact hm
  | bad => rw [e1] at hm; exact hm.elim
theorem pg_blk {t : List Nat} {scope : Scope} (C : Cok X W tc cl n ca fa) (hT : ckT ⟨X.N, scope, tc.fn, tc.gl⟩ t tg = true) (s : Shared) (H : Hp) (Ca : Addr) (l : List (Str × Addr)) (fp : List Addr) : PG (X.blk s H scope (compEnvC scope l Ca X.env) fp) tg (tG X.K t) := by
  refine pg_of (X := X.blk s H scope (compEnvC scope l Ca X.env) fp) C.calm C.nd (sc := scope) (fn := tc.fn) (gl := tc.gl) (fun x hx => ?_) hT
  have k1 : scope.names.lookup x = some .local ∨ scope.names.lookup x = some .cell := by
    unfold locB at hx
    split at hx <;> first | exact .inl (by assumption) | exact .inr (by assumption) | cases hx
  rcases k1 with k1 | k1
  · have k2 : (relS scope X.env.scope).names.lookup x = some .local := lookup_relS_keep (by decide) k1
    exact ⟨.inl k2, .inr k2⟩
  · have k2 : (relS scope X.env.scope).names.lookup x = some .cell := lookup_relS_keep (by decide) k1
    refine ⟨.inr k2, .inl ?_⟩
    show (scope.names.lookup x == some .cell) = true
    rw [k1]
    rfl
theorem fold_of {iter : Expr} {env : Env} (hp : plainX iter = true) (x : Value) : foldedSetIterable iter env x = pure x := by
  cases iter <;> first | rfl | cases hp
theorem s_lc {t : List Nat} {it : Iw} {c : Exo} {e : Ex} {elt iter : Expr} {ifs : List Expr} {scope : Scope} {pos : Pos} {own : List (Str × Nat)} (C : Cok X W tc cl n ca fa) (hit : PI X tg iter (tI X.K ca cl W it)) (hok : BlkOk X.N X.env.scope scope own) (hown : own.map (·.2) = t)
    (hT : ckT ⟨X.N, scope, tc.fn, tc.gl⟩ t tg = true)
    (hc : ∀ (s : Shared) (H : Hp) (Ca : Addr) (l : List (Str × Addr)) (fp : List Addr), PTs (X.blk s H scope (compEnvC scope l Ca X.env) fp) ifs (tCd X.K ca cl c))
    (he : ∀ (s : Shared) (H : Hp) (Ca : Addr) (l : List (Str × Addr)) (fp : List Addr), PE (X.blk s H scope (compEnvC scope l Ca X.env) fp) elt (tE X.K ca cl W0 e)) (hp : plainX iter = true) :
    SndE X ca cl W (.lc t t it c e) (.ListComp elt [⟨tg, iter, ifs, 0⟩] scope pos) := by
  exact snd_val (PE.imp (pe_lc C.calm C.nd hit hok (pg_blk C hT) hc he (fold_of hp)) fun σ H Q hq => lc_imp hown hq) rfl
end
end BW

/-! Displays of dicts; list(range(n)); d.get(k, z); n.bit_length(). -/
namespace BW
open PySem PySem.Spec PyProof.Rows
open L2 hiding St
section
variable {X : Cx} {ca fa : Nat → Addr} {cl : Cl} {W : WX} {tc : Tc} {n : Nat} {K : PySem.W.Frag}
theorem tE_mono {e : Ex} {σ : L2.St} {H : Hp} {Q Q' : VK} (h : tE K ca cl W e σ H Q) (k : ∀ v H1, Q v H1 → Q' v H1) : tE K ca cl W e σ H Q' := by
  obtain ⟨env, ok, hi, fr, hm⟩ := h
  refine ⟨env, ok, hi, fr, ?_⟩
  cases e1 : evE cl env e with
  | ok x => rw [e1] at hm; exact fun H1 v fp s r f n => k v H1 (hm H1 v fp s r f n)
  | exc c => rw [e1] at hm; exact hm
  | bad => rw [e1] at hm; exact hm
theorem as_cons {e : Ex} {es : Exs} {σ : L2.St} {H : Hp} {Q : List V → Hp → Prop} (h : tAs K ca cl W (.cons e es) σ H Q) : tE K ca cl W e σ H fun x H1 => tAs K ca cl W es σ H1 fun xs H2 => Q (x :: xs) H2 := by
  obtain ⟨env, ok, hi, fr, hm⟩ := h
  have hm : PostA K ca (WE W σ) ok H Q ((evE cl env e).bind fun x => (evEs cl env es).bind fun xs => .ok (x :: xs)) := hm
  refine ⟨env, ok, hi.left, fr, ?_⟩
  cases e1 : evE cl env e with
  | exc c => rw [e1] at hm; exact hm
  | bad => rw [e1] at hm; exact hm.elim
  | ok x =>
    rw [e1] at hm
    intro H1 v fp s1 r1 f1 n1
    replace hm : PostA K ca (WE W σ) ok H Q ((evEs cl env es).bind fun xs => .ok (x :: xs)) := hm
    have frn : Fre (okn ok fp) H1 := fun a z => ⟨fr a (s1.free z), fun hf => by
      obtain ⟨u, hu, _⟩ := r1.dom a hf
      rw [z] at hu
      cases hu⟩
    have hin : EIn K H1 (okn ok fp) env σ (vEs es) := ⟨hi.1, fun i hj y ey => by
      obtain ⟨w, h1, h2⟩ := hi.right.2 i hj y ey
      exact ⟨w, h1, (h2.inD.imp fun a z => ⟨z.1, fun hf => by
        obtain ⟨u, q⟩ := z.2
        rw [f1 a hf] at q
        cases q⟩).same s1⟩⟩
    refine ⟨env, okn ok fp, hin, frn, ?_⟩
    cases e2 : evEs cl env es with
    | exc c => rw [e2] at hm; exact fun d H' s' => hm d H' (s1.trans s')
    | bad => rw [e2] at hm; exact hm.elim
    | ok xs =>
      rw [e2] at hm
      intro H2 vs fp2 s2 r2 f2 n2
      replace hm : PostA K ca (WE W σ) ok H Q (.ok (x :: xs)) := hm
      have g1 : Rp K H2 (okn ok (fp ++ fp2)) x v fp := (r1.inD.imp fun a z => ⟨z.1.1, fun hf => by
        rcases List.mem_append.mp hf with hf | hf
        · exact z.1.2 hf
        · obtain ⟨u, q⟩ := z.2
          rw [f2 a hf] at q
          cases q⟩).same s2
      have g2 : Rps K H2 (okn ok (fp ++ fp2)) xs vs fp2 := r2.imp fun a z => ⟨z.1.1, fun hf => (List.mem_append.mp hf).elim z.1.2 z.2⟩
      refine hm H2 (v :: vs) (fp ++ fp2) (s1.trans s2) (.cons g1 g2) (fun a z => ?_) (List.nodup_append.mpr ⟨n1, n2, fun a ha b hb e => ?_⟩)
      · rcases List.mem_append.mp z with z | z
        · exact f1 a z
        · exact s1.free (f2 a z)
      · subst e
        obtain ⟨u, hu, _⟩ := r1.dom a ha
        rw [f2 a hb] at hu
        cases hu
def tKv (K : PySem.W.Frag) (ca : Nat → Addr) (cl : Cl) (W : WX) : Exs → List (TE × TE)
  | .cons k (.cons e es) => (tE K ca cl W k, tE K ca cl W e) :: tKv K ca cl W es
  | _ => []
def evX : Exs → Bool
  | .nil => true
  | .cons _ (.cons _ es) => evX es
  | .cons _ .nil => false
def unp : List (V × V) → List V
  | [] => []
  | (x, y) :: r => x :: y :: unp r
theorem kv_imp : ∀ (es : Exs) {σ : L2.St} {H : Hp} {Q : List V → Hp → Prop} {R : List (V × V) → Hp → Prop}, evX es = true → tAs K ca cl W es σ H Q → (∀ ps H', Q (unp ps) H' → R ps H') → tPairs (tKv K ca cl W es) σ H R
  | .nil, σ, H, Q, R, _, h, k => by
    obtain ⟨env, ok, hi, fr, hm⟩ := h
    exact k [] H (hm H [] [] (Same.refl _) .nil (fun _ z => nomatch z) .nil)
  | .cons _ .nil, _, _, _, _, h, _, _ => by cases h
  | .cons a (.cons b es), σ, H, Q, R, ev, h, k =>
    tE_mono (as_cons h) fun x H1 h1 => tE_mono (as_cons h1) fun y H2 h2 => kv_imp es ev h2 fun ps H' q => k ((x, y) :: ps) H' q
theorem prsD_rp {H : Hp} {ok : Addr → Prop} : ∀ {vs : List PV} {us : List V} {fp : List Addr} {js : List DKey} {xs : List PV}, prsD vs = some (js, xs) → Rps K H ok vs us fp → ∃ ws, us = unp ((js.zip ws).map fun kv => (kV kv.1, kv.2)) ∧ Rps K H ok xs ws fp ∧ js.length = ws.length ∧ js.all kB = true
  | [], us, fp, js, xs, e, r => by
    cases e
    cases r
    exact ⟨[], rfl, .nil, rfl, rfl⟩
  | [_], us, fp, js, xs, e, r => by cases e
  | k :: v :: vs, us, fp, js, xs, e, r => by
    have e : ((keyV k).bind fun j => (prsD vs).map fun p => (j :: p.1, v :: p.2)) = some (js, xs) := e
    cases ek : keyV k with
    | none => rw [ek] at e; cases e
    | some j =>
      rw [ek] at e
      cases ep : prsD vs with
      | none => rw [ep] at e; cases e
      | some p =>
        rw [ep] at e
        cases e
        obtain ⟨u1, us1, f1, fs1, rfl, rfl, r1, rs1⟩ := r.inv
        obtain ⟨u2, us2, f2, fs2, rfl, rfl, r2, rs2⟩ := rs1.inv
        obtain ⟨ws, h1, h2, h3, h4⟩ := prsD_rp (js := p.1) (xs := p.2) ep rs2
        obtain ⟨e1, e2, _⟩ := key_rp r1 ek
        have kb := kB_of r1 ek
        subst e1 e2
        refine ⟨u2 :: ws, by rw [h1]; rfl, .cons (f := f2) r2 h2, by simp [h3], ?_⟩
        rw [List.all_cons, kb, h4]
        rfl
theorem unp_inj : ∀ {a b : List (V × V)}, unp a = unp b → a = b
  | [], [], _ => rfl
  | [], _ :: _, h => by cases h
  | _ :: _, [], h => by cases h
  | (x, y) :: a, (x', y') :: b, h => by
    have h : x :: y :: unp a = x' :: y' :: unp b := h
    injection h with h1 h
    injection h with h2 h
    rw [h1, h2, unp_inj h]
theorem valV_out {k : DKey} : ∀ {kvs : List (DKey × V)}, k ∉ kvs.map (·.1) → valV kvs k = none
  | [], _ => rfl
  | p :: r, h => by
    rw [List.map_cons, List.mem_cons, not_or] at h
    exact (valV_neg (p := p) fun e => h.1 e.symm).trans (valV_out h.2)
theorem mergeK_nd : ∀ (more acc : List (DKey × V)), (acc.map (·.1) ++ more.map (·.1)).Nodup → mergeK acc more = acc ++ more
  | [], acc, _ => (List.append_nil _).symm
  | p :: r, acc, h => by
    show mergeK (putK acc p.1 p.2) r = _
    have hp : p.1 ∉ acc.map (·.1) := fun z => (List.nodup_append.mp h).2.2 _ z _ (by simp) rfl
    rw [putK_new _ (valV_out hp), mergeK_nd r (acc ++ [(p.1, p.2)]) (by simpa using h)]
    simp
theorem s_dsp {es : Exs} {keys : List (Option Expr)} {values : List Expr} {p : Pos} (h : PPs X p keys values (tKv X.K ca cl W es)) (ev : evX es = true) (hall : keys.all (·.isSome) = true) (hl : keys.length = values.length) (h0 : keys ≠ []) (h15 : keys.length ≤ 15) :
    SndE X ca cl W (.dsp es) (.Dict keys values p) := by
  refine snd_val (PE.imp (pe_disp h hall hl h0 h15) fun σ H Q ⟨env, ok, hi, fr, hm⟩ p hp => ?_) rfl
  replace hm : Post X.K ca (WE W σ) ok H Q ((evEs cl env es).bind fun vs => dspV vs) := hm
  have s0 : Same H (upd H p (.dK [])) := same_upd hp
  refine kv_imp es ev (Q := fun us H2 => ∀ ps, us = unp ps → (H2 p = some (.dK []) ∧ ∃ kvs : List (L2.Key × V), ps = kvs.map (fun kv => (kV kv.1, kv.2)) ∧ kvs.length ≤ 15 ∧ Q (.ref p) (upd H2 p (.dK (mergeK [] kvs))))) ?_ fun ps H' q => q ps rfl
  refine ⟨env, fun a => ok a ∧ a ≠ p, ⟨hi.1, fun i hj y ey => ?_⟩, fun a z => ?_, ?_⟩
  · obtain ⟨w, h1, h2⟩ := hi.2 i hj y ey
    exact ⟨w, h1, (h2.inD.imp fun a z => ⟨z.1, fun e => by
      obtain ⟨u, hu⟩ := z.2
      rw [e, hp] at hu
      cases hu⟩).same s0⟩
  · have ne : a ≠ p := fun e => by
      rw [e, upd_same] at z
      cases z
    exact ⟨fr a (by rw [upd_ne ne] at z; exact z), ne⟩
  · cases e1 : evEs cl env es with
    | exc c => rw [e1] at hm; exact fun d H' s' => hm d H' (s0.trans s')
    | bad => rw [e1] at hm; exact hm.elim
    | ok vs =>
      rw [e1] at hm
      replace hm : Post X.K ca (WE W σ) ok H Q (dspV vs) := hm
      intro H2 us fp s2 r2 f2 n2 ps eu
      unfold dspV at hm
      cases e2 : prsD vs with
      | none => rw [e2] at hm; exact hm.elim
      | some q =>
        obtain ⟨js, xs⟩ := q
        rw [e2] at hm
        replace hm : Post X.K ca (WE W σ) ok H Q (if decide (js.Nodup ∧ js.length ≤ 15 ∧ js ≠ []) = true then .ok (.dct true js xs) else .bad) := hm
        by_cases hc : decide (js.Nodup ∧ js.length ≤ 15 ∧ js ≠ []) = true
        · rw [if_pos hc] at hm
          obtain ⟨c1, c2, c3⟩ := of_decide_eq_true hc
          replace hm : Got X.K H ok Q (.dct true js xs) := hm
          obtain ⟨ws, g1, g2, g3, g4⟩ := prsD_rp e2 r2
          have hp2 : H2 p = some (.dK []) := s2 p _ upd_same
          have ez : (js.zip ws).map (·.1) = js := by
            rw [List.map_fst_zip]
            omega
          refine ⟨hp2, js.zip ws, unp_inj (eu.symm.trans g1), ?_, ?_⟩
          · rw [List.length_zip]
            omega
          · rw [mergeK_nd _ [] (by simpa [ez] using c1), List.nil_append]
            have nf : ∀ a ∈ fp, a ≠ p := fun a z e => by
              have := f2 a z
              rw [e, upd_same] at this
              cases this
            refine hm _ _ (p :: fp) (fun b o e => ?_) (.dctO upd_same ⟨g3, ?_⟩ (g2.keep (M := fun b => b = p) (fun b o e n => by rw [upd_ne n]; exact e) (fun b e => ⟨.dK [], by rw [e]; exact hp2, rfl⟩) (fun b z => ⟨z.1.1, fun hb => ?_⟩) (fun b z => z.1.2) nf)) (fun a z => ?_) (List.nodup_cons.mpr ⟨fun z => nf p z rfl, n2⟩)
            · have ne : b ≠ p := fun z => by rw [z, hp] at e; cases e
              rw [upd_ne ne]
              exact s2 b o (s0 b o e)
            · unfold ksB
              rw [g4, decide_eq_true c1]
              rfl
            · rcases List.mem_cons.mp hb with e | hb
              · exact z.1.2 e
              · exact z.2 hb
            · rcases List.mem_cons.mp z with e | z
              · rw [e]; exact hp
              · exact s0.free (f2 a z)
        · rw [if_neg hc] at hm
          exact hm.elim
theorem rps_intF {H : Hp} {ok : Addr → Prop} (f : Nat → Int) : ∀ l : List Nat, Rps K H ok (l.map fun k => PV.int (f k)) (l.map fun k => V.int (f k)) []
  | [] => .nil
  | k :: l => .cons0 (.int _) (rps_intF f l)
theorem s_lrg {e : Ex} {v : Expr} {p1 p2 q1 q2 : Pos} (C : Cok X W tc cl n ca fa) (h : SndE X ca cl W e v) (hp : plainX v = true) (hg : glB tc.sc "list" = true) (hg2 : glB tc.sc "range" = true) :
    SndE X ca cl W (.lrg e) (.Call (.Name "list" p1) [.Call (.Name "range" p2) [v] [] q2] [] q1) := by
  refine snd_val (PE.imp (pe_listRg C.calm (gl_of C hg) (C.blt _ (by decide +kernel)) (prg_1 (gl_of C hg2) (C.blt _ (by decide +kernel)) h.pe (star_of hp)) rfl) fun σ H Q ⟨env, ok, hi, fr, hm⟩ => ?_) rfl
  replace hm : Post X.K ca (WE W σ) ok H Q ((evE cl env e).bind fun x => lrgV [frz x]) := hm
  refine ⟨env, ok, hi, fr, hm.bindv fun x H1 u fp e1 s1 r1 f1 n1 k1 => ?_⟩
  have r1' := r1.fz fr f1
  generalize frz x = fx at k1 r1'
  cases r1' with
  | int j =>
    replace k1 : Post X.K ca (WE W σ) ok H1 Q (match (if smallI j = true then Res.ok (rngI 0 j) else .bad) with
      | .ok xs => if decide (xs.length ≤ most) = true then .ok (.lst true xs) else .bad
      | _ => .bad) := k1
    by_cases hs : smallI j = true
    · rw [if_pos hs] at k1
      replace k1 : Post X.K ca (WE W σ) ok H1 Q (if decide ((rngI 0 j).length ≤ most) = true then .ok (.lst true (rngI 0 j)) else .bad) := k1
      by_cases hl : decide ((rngI 0 j).length ≤ most) = true
      · rw [if_pos hl] at k1
        replace k1 : Got X.K H1 ok Q (.lst true (rngI 0 j)) := k1
        have hl := of_decide_eq_true hl
        have hz : (j - 0).toNat ≤ most := by
          unfold rngI at hl
          rw [List.length_map, List.length_range] at hl
          exact hl
        unfold smallI at hs
        have hs := of_decide_eq_true hs
        exact ⟨j, rfl, ⟨by decide, by decide, hs.1, hs.2, hz⟩, fun q hq => k1.lst (rps_intF (fun k => 0 + (k : Int)) _) hq⟩
      · rw [if_neg hl] at k1
        exact k1.elim
    · rw [if_neg hs] at k1
      exact k1.elim
  | _ => exact k1.elim
theorem i_revr {tg : Expr} {e : Ex} {v : Expr} {p1 p2 q1 q2 : Pos} (C : Cok X W tc cl n ca fa) (h : SndE X ca cl W e v) (hp : plainX v = true) (hg : glB tc.sc "reversed" = true) (hg2 : glB tc.sc "range" = true) :
    PI X tg (.Call (.Name "reversed" p1) [.Call (.Name "range" p2) [v] [] q2] [] q1) (tI X.K ca cl W (.revr (.cons e .nil))) := by
  refine PI.imp (pi_revR (gl_of C hg) (C.blt _ (by decide +kernel)) (prg_1 (gl_of C hg2) (C.blt _ (by decide +kernel)) h.pe (star_of hp)) rfl) fun σ H R hq => ?_
  obtain ⟨env, ok, hi, fr, hm⟩ := hq
  have q := rng_1 (f := fun i j => Itc (i + (((j - i).toNat : Nat) : Int) - 1) (-1) (j - i).toNat) (rv := true) rfl (fun okx M H0 j => wk_rngR (K := X.K) (okx := okx) (M := M) (H0 := H0) 0 j) hi fr hm
  refine tE_mono (as_cons q) fun x H1 hx => ?_
  obtain ⟨env2, ok2, _, _, hm2⟩ := hx
  obtain ⟨j, ev, b1, b2, r⟩ := hm2 H1 [] [] (Same.refl _) .nil (fun _ z => nomatch z) .nil
  cases ev
  exact ⟨j, rfl, by decide, by decide, b1, b2, r⟩
theorem m2_of {o a b : Expr} {m : Str} {apos cpos : Pos} (hb : plainO o = true) (h1 : plainX a = true) (h2 : plainX b = true) (hl : (apos.endLine == cpos.line) = true) : M2 X o m apos a b cpos where
  base := abase_of hb
  few := by
    rw [star_of h1, star_of h2]
    rfl
  line := hl
  trees := by
    rw [star_of h1, star_of h2]
    rfl
theorem s_get {o k d : Ex} {ob a b : Expr} {apos cpos : Pos} (C : Cok X W tc cl n ca fa) (ho : SndE X ca cl W o ob) (hk : SndE X ca cl W k a) (hd : SndE X ca cl W d b) (hb : plainO ob = true) (h1 : plainX a = true) (h2 : plainX b = true) (hl : (apos.endLine == cpos.line) = true) :
    SndE X ca cl W (.get o k d) (.Call (.Attribute ob "get" apos) [a, b] [] cpos) := by
  refine snd_val (PE.imp (pe_dget2 (by have := C.room.units; omega) ho.pe hk.pe hd.pe (m2_of hb h1 h2 hl)) fun σ H Q ⟨env, ok, hi, fr, hm⟩ => ?_) rfl
  replace hm : Post X.K ca (WE W σ) ok H Q ((evE cl env o).bind fun x => if isDc (frz x) = true then (evE cl env k).bind fun y => (evE cl env d).bind fun z => getV (frz x) (frz y) (frz z) else .bad) := hm
  refine ⟨env, ok, hi.left, fr, hm.bindv fun x H1 u fp e1 s1 r1 f1 n1 q1 => ?_⟩
  have r1' := r1.fz fr f1
  generalize frz x = fx at q1 r1'
  cases r1' with
  | @dctF aD ks xs us ht hz hok rs =>
    replace q1 : Post X.K ca (WE W σ) ok H1 Q ((evE cl env k).bind fun y => (evE cl env d).bind fun z => getV (.dct false ks xs) (frz y) (frz z)) := q1
    refine ⟨aD, rfl, .inl ⟨_, ht⟩, env, ok, hi.right.left.same s1, fr.same s1, q1.bindv fun y H2 uy fp2 e2 s2 r2 f2 n2 q2 => ?_⟩
    refine ⟨env, ok, (hi.right.right.same s1).same s2, (fr.same s1).same s2, q2.bindv fun z H3 uz fp3 e3 s3 r3 f3 n3 q3 => ?_⟩
    have r2' := (r2.fz (fr.same s1) f2).same s3
    have r3' := r3.fz ((fr.same s1).same s2) f3
    generalize frz y = fy at q3 r2'
    generalize frz z = fz at q3 r3'
    have s23 := s2.trans s3
    replace q3 : Post X.K ca (WE W σ) ok H3 Q (match keyV fy with
      | some j => if flat fz = true then .ok (match dlook ks xs j with
        | some v => frz v
        | none => fz) else .bad
      | none => .bad) := q3
    cases ej : keyV fy with
    | none => rw [ej] at q3; exact q3.elim
    | some j =>
      rw [ej] at q3
      by_cases hf : flat fz = true
      · replace q3 : Post X.K ca (WE W σ) ok H3 Q (if flat fz = true then .ok (match dlook ks xs j with
          | some v => frz v
          | none => fz) else .bad) := q3
        rw [if_pos hf] at q3
        replace q3 : Got X.K H3 ok Q (match dlook ks xs j with
          | some v => frz v
          | none => fz) := q3
        obtain ⟨ev, _, _⟩ := key_rp r2' ej
        subst ev
        have ht3 : Rd H3 aD (.dK (ks.zip us)) := ht.elim (fun h => .inl (s23 _ _ h)) fun ⟨o, h⟩ => .inr ⟨o, s23 _ _ h⟩
        have lk := dlook_val (j := j) (rs.same s23) hz.1
        refine ⟨valV (ks.zip us) j, .inl ⟨_, j, ht3, rfl, rfl⟩, ?_⟩
        cases q4 : dlook ks xs j with
        | none =>
          rw [q4] at q3
          rw [lk.2 q4]
          exact q3.old r3'
        | some w =>
          rw [q4] at q3
          obtain ⟨w', g1, g2⟩ := lk.1 w q4
          rw [g1]
          exact q3.old (g2.frz (fun _ z => z) fun _ z => nomatch z)
      · replace q3 : Post X.K ca (WE W σ) ok H3 Q (if flat fz = true then .ok (match dlook ks xs j with
          | some v => frz v
          | none => fz) else .bad) := q3
        rw [if_neg hf] at q3
        exact q3.elim
  | _ => exact q1.elim
theorem s_bitl {e : Ex} {ob : Expr} {apos cpos : Pos} (h : SndE X ca cl W e ob) (hb : plainO ob = true) (hl : (apos.endLine == cpos.line) = true) : SndE X ca cl W (.bitl e) (.Call (.Attribute ob "bit_length" apos) [] [] cpos) := by
  refine snd_val (PE.imp (pe_bits h.pe (abase_of hb) hl) fun σ H Q ⟨env, ok, hi, fr, hm⟩ => ?_) rfl
  replace hm : Post X.K ca (WE W σ) ok H Q ((evE cl env e).bind fun x => bitV (frz x)) := hm
  refine ⟨env, ok, hi, fr, hm.bindv fun x H1 u fp e1 s1 r1 f1 n1 k1 => ?_⟩
  have r1' := r1.fz fr f1
  generalize frz x = fx at k1 r1'
  cases r1' with
  | int j => exact ⟨j, rfl, Got.int k1⟩
  | _ => exact k1.elim
end
end BW

/-! All expressions. -/
namespace BW
open PySem PySem.Spec L2
section
variable {X : Cx} {ca fa : Nat → Addr} {cl : Cl} {W : WX} {tc : Tc} {n : Nat}
theorem s_slc {a : Ex} {lo hi : Exo} {py : Expr} {l h : Option Expr} {p2 p : Pos} (ha : SndE X ca cl W a py) (hl : PO X l (tOp1 X.K ca cl W lo)) (hh : PO X h (tOp1 X.K ca cl W hi)) : SndE X ca cl W (.slc a lo hi) (.Subscript py (.Slice l h none p2) p) := by
  refine snd_val (PE.imp (pe_slice sl_op ha.pe hl hh) fun σ H Q hq => ?_) rfl
  obtain ⟨env, ok, hi', fr, hm⟩ := hq
  refine ⟨env, ok, hi'.left, fr, Post.bindv hm fun x H1 v fp e1 s1 r1 f1 n1 q1 => ?_⟩
  refine ⟨env, ok, hi'.right.left.same s1, fr.same s1, Post.bindp q1 fun l H2 e2 s2 q2 => ?_⟩
  refine ⟨env, ok, (hi'.right.right.same s1).same s2, (fr.same s1).same s2, Post.bindp q2 fun u H3 e3 s3 q3 => ?_⟩
  cases e4 : slcop (frz x) l u with
  | ok z =>
    rw [e4] at q3
    exact ⟨ok, frz x, z, ((fr.same s1).same s2).same s3, ((r1.fz fr f1).same s2).same s3, e4, q3⟩
  | exc c =>
    unfold slcop at e4
    split at e4 <;> first | (cases e4; done) | (split at e4 <;> cases e4)
  | bad => rw [e4] at q3; exact q3.elim
theorem o_none : PO X none (tOp1 X.K ca cl W .none) := PO.imp po_none fun σ H Q hq => by
  obtain ⟨env, ok, hi, fr, hm⟩ := hq
  exact hm H (Same.refl _)
theorem o_some {e : Ex} {py : Expr} (h : SndE X ca cl W e py) : PO X (some py) (tOp1 X.K ca cl W (.some e)) := PO.imp (po_some h.pe) fun σ H Q hq => by
  obtain ⟨env, ok, hi, fr, hm⟩ := hq
  refine ⟨env, ok, hi, fr, PostP.bindv hm fun x H1 v fp e1 s1 r1 f1 n1 q1 => ?_⟩
  cases r1 <;> first | exact q1.elim | exact ⟨_, rfl, q1 _ (Same.refl _)⟩
theorem a_nil : PA X [] (tAs X.K ca cl W .nil) := PA.imp pa_nil fun σ H Q hq => by
  obtain ⟨env, ok, hi, fr, hm⟩ := hq
  exact hm H [] [] (Same.refl _) .nil (fun _ z => nomatch z) .nil
theorem a_cons {e : Ex} {es : Exs} {py : Expr} {pys : List Expr} (h : SndE X ca cl W e py) (hs : PA X pys (tAs X.K ca cl W es)) (hp : plainX py = true) : PA X (py :: pys) (tAs X.K ca cl W (.cons e es)) :=
  PA.imp (pa_cons h.pe hs (star_of hp)) fun σ H Q hq => by
    obtain ⟨env, ok, hi, fr, hm⟩ := hq
    have hm : PostA X.K ca (WE W σ) ok H Q ((evE cl env e).bind fun x => (evEs cl env es).bind fun xs => .ok (x :: xs)) := hm
    refine ⟨env, ok, hi.left, fr, ?_⟩
    cases e1 : evE cl env e with
    | exc c => rw [e1] at hm; exact hm
    | bad => rw [e1] at hm; exact hm.elim
    | ok x =>
      rw [e1] at hm
      intro H1 v fp s1 r1 f1 n1
      replace hm : PostA X.K ca (WE W σ) ok H Q ((evEs cl env es).bind fun xs => .ok (x :: xs)) := hm
      have frn : Fre (okn ok fp) H1 := fun a z => ⟨fr a (s1.free z), fun hf => by
        obtain ⟨u, hu, _⟩ := r1.dom a hf
        rw [z] at hu
        cases hu⟩
      have hin : EIn X.K H1 (okn ok fp) env σ (vEs es) := ⟨hi.1, fun i hj y ey => by
        obtain ⟨w, h1, h2⟩ := hi.right.2 i hj y ey
        exact ⟨w, h1, (h2.inD.imp fun a z => ⟨z.1, fun hf => by
          obtain ⟨u, q⟩ := z.2
          rw [f1 a hf] at q
          cases q⟩).same s1⟩⟩
      refine ⟨env, okn ok fp, hin, frn, ?_⟩
      cases e2 : evEs cl env es with
      | exc c => rw [e2] at hm; exact fun d H' s' => hm d H' (s1.trans s')
      | bad => rw [e2] at hm; exact hm.elim
      | ok xs =>
        rw [e2] at hm
        intro H2 vs fp2 s2 r2 f2 n2
        replace hm : PostA X.K ca (WE W σ) ok H Q (.ok (x :: xs)) := hm
        have g1 : Rp X.K H2 (okn ok (fp ++ fp2)) x v fp := (r1.inD.imp fun a z => ⟨z.1.1, fun hf => by
          rcases List.mem_append.mp hf with hf | hf
          · exact z.1.2 hf
          · obtain ⟨u, q⟩ := z.2
            rw [f2 a hf] at q
            cases q⟩).same s2
        have g2 : Rps X.K H2 (okn ok (fp ++ fp2)) xs vs fp2 := r2.imp fun a z => ⟨z.1.1, fun hf => (List.mem_append.mp hf).elim z.1.2 z.2⟩
        refine hm H2 (v :: vs) (fp ++ fp2) (s1.trans s2) (.cons g1 g2) (fun a z => ?_) (List.nodup_append.mpr ⟨n1, n2, fun a ha b hb e => ?_⟩)
        · rcases List.mem_append.mp z with z | z
          · exact f1 a z
          · exact s1.free (f2 a z)
        · subst e
          obtain ⟨u, hu, _⟩ := r1.dom a ha
          rw [f2 a hb] at hu
          cases hu
theorem s_isi {b : Bi} {e : Ex} {py : Expr} {y : Str} {p p1 p2 : Pos} (C : Cok X W tc cl n ca fa) (h : SndE X ca cl W e py) (hp : plainX py = true) (hg : glB tc.sc "isinstance" = true) (hy : glB tc.sc y = true) (ey : y = (biTy b : Str)) (hb : isIs b = true) :
    SndE X ca cl W (.bi b (.cons e .nil)) (.Call (.Name "isinstance" p) [py, .Name y p1] [] p2) := by
  have hT : ∃ T : String, biTy b = T ∧ X.mg y = none ∧ bootBuiltins y = some (.type T) ∧ y ≠ "__name__" ∧ (y == ("__debug__" : Str)) = false := by
    refine ⟨_, rfl, ?_⟩
    subst ey
    cases b <;> first | (cases hb; done) | exact ⟨C.blt _ (by decide +kernel), by decide +kernel, by decide +kernel, by decide +kernel⟩
  obtain ⟨T, eT, m, bt, n1, n2⟩ := hT
  have pt : PE X (.Name y p1) (tC (.ty T)) := pe_bltn (gl_of C hy) m bt rfl n1 n2
  have pa : PA X [py, .Name y p1] (tCons (tE X.K ca cl W e) (tCons (tC (.ty T)) tNil)) := pa_cons h.pe (pa_cons pt pa_nil) (star_of hp)
  refine snd_val (PE.imp (pe_callB call_isi (gl_of C hg) (C.blt _ (by decide +kernel)) PyProof.Rows.boot_isinstance pa (by decide +kernel) (by decide +kernel) (star_of hp) rfl) fun σ H Q hq => ?_) rfl
  obtain ⟨env, ok, hi, fr, hm⟩ := hq
  replace hm : Post X.K ca (WE W σ) ok H Q (((evE cl env e).bind fun x => (Res.ok []).bind fun xs => .ok (x :: xs)).bind fun vs => biV b (frzs vs)) := hm
  refine ⟨env, ok, ⟨hi.1, fun i hj => hi.2 i (List.mem_append_left _ hj)⟩, fr, ?_⟩
  cases e1 : evE cl env e with
  | exc c => rw [e1] at hm; exact hm
  | bad => rw [e1] at hm; exact hm.elim
  | ok x =>
    rw [e1] at hm
    intro H1 v fp s1 r1 f1 n1
    have r2 := r1.fz fr f1
    replace hm : Post X.K ca (WE W σ) ok H Q (biV b [frz x]) := hm
    have hV : isV b (frz x) ≠ none ∧ ∀ k, isV b (frz x) = some k → Post X.K ca (WE W σ) ok H Q (.ok (.bl k)) := by
      have e2 : biV b [frz x] = isR (isV b (frz x)) := by cases b <;> first | (cases hb; done) | rfl
      rw [e2] at hm
      cases q : isV b (frz x) with
      | none => rw [q] at hm; exact hm.elim
      | some k =>
        refine ⟨(fun z => nomatch z), fun k' z => ?_⟩
        cases z
        rw [q] at hm
        exact hm
    have hU : ∃ t, TyX X.K H1 v (.type t) ∧ ∀ k, isV b (frz x) = some k → kitB t T = some k := by
      rw [← eT]
      generalize frz x = z at r2 hV
      cases r2 with
      | non => exact ⟨"NoneType", .base .non, fun k z => by cases b <;> first | (cases hb; done) | (cases z; decide +kernel)⟩
      | bl i => exact ⟨"bool", .base (.bl _), fun k z => by cases b <;> first | (cases hb; done) | (cases z; decide +kernel)⟩
      | int i => exact ⟨"int", .base (.int _), fun k z => by cases b <;> first | (cases hb; done) | (cases z; decide +kernel)⟩
      | str i z => exact ⟨"str", .base (.str _), fun k z => by cases b <;> first | (cases hb; done) | (cases z; decide +kernel)⟩
      | tup hs r =>
        refine ⟨"tuple", ?_, fun k z => by cases b <;> first | (cases hb; done) | (cases z; decide +kernel)⟩
        rcases hs with (h | ⟨o, h⟩) | ⟨o, its, n, h1, h2, _⟩
        · exact .base (.tup h)
        · exact .fTuple h
        · exact .kTuple h1 h2
      | ftp hs r =>
        refine ⟨"tuple", ?_, fun k z => by cases b <;> first | (cases hb; done) | (cases z; decide +kernel)⟩
        rcases hs.sq (K := X.K) with (h | ⟨o, h⟩) | ⟨o, its, n, h1, h2, _⟩
        · exact .base (.tup h)
        · exact .fTuple h
        · exact .kTuple h1 h2
      | scr hs => exact absurd (by cases b <;> rfl) hV.1
      | dctF hs hz o r =>
        refine ⟨"dict", ?_, fun k z => by cases b <;> first | (cases hb; done) | (cases z; decide +kernel)⟩
        rcases hs with h | ⟨o, h⟩
        · exact .base (.dK h)
        · exact .fDict h
      | lstF hs o r =>
        refine ⟨"list", ?_, fun k z => by cases b <;> first | (cases hb; done) | (cases z; decide +kernel)⟩
        rcases hs with h | ⟨o, h⟩
        · exact .base (.lst h)
        · exact .base (.frz h)
    obtain ⟨t, ty, hk⟩ := hU
    cases q : isV b (frz x) with
    | none => exact absurd q hV.1
    | some k =>
      refine ⟨v, .ty T, .type t, .type T, k, rfl, .ty T, ty, kit_ty (hk k q), ?_⟩
      exact (Got.mono s1 (hV.2 k q)).bl
end
/-- a comprehension's block -/
theorem Cok.blk {X : Cx} {W : WX} {tc : Tc} {cl : Cl} {n : Nat} {ca fa : Nat → Addr} (C : Cok X W tc cl n ca fa) (s : Shared) (H : Hp) (scope : Scope) (Ca : Addr) (l : List (Str × Addr)) (fp : List Addr) :
    Cok (X.blk s H scope (compEnvC scope l Ca X.env) fp) W0 ⟨tc.N, relS scope tc.sc, tc.fn, tc.gl⟩ cl n ca fa where
  calm := C.calm
  nd := C.nd
  N := C.N
  sc := by rw [C.sc] <;> rfl
  room := C.room
  pass := fun σ => passAt takes0 σ
  blt := C.blt
  gls := C.gls
  fns := C.fns
theorem plain_of {tc : Tc} {e : Ex} {py : Expr} (h : ckE tc e py = true) : plainX py = true := by
  cases py <;> first | rfl | (cases e <;> cases h)
theorem tup_tg {it : Iw} {tc : Tc} {t : List Nat} {tg : Expr} (h : tupOk it t = true) (k : ckT tc t tg = true) : (∃ es, it = .zip es) → ∃ elts kk tpos, tg = .Tuple elts kk tpos := by
  rintro ⟨es, rfl⟩
  have h : 2 ≤ t.length := of_decide_eq_true h
  cases tg with
  | Tuple elts kk tpos => exact ⟨_, _, _, rfl⟩
  | Name x p =>
    unfold ckT at k
    dsimp only at k
    split at k
    · simp at h
    · cases k
  | _ => cases k
mutual
theorem sE : ∀ (e : Ex) {X : Cx} {W : WX} {tc : Tc} {cl : Cl} {n : Nat} {ca fa : Nat → Addr} (C : Cok X W tc cl n ca fa) (py : Expr), ckE tc e py = true → SndE X ca cl W e py
  | .var i, X, W, tc, cl, n, ca, fa, C, py, h => by
    cases py <;> first | exact s_var C h | cases h
  | .non, X, W, tc, cl, n, ca, fa, C, py, h => by
    cases py with
    | Constant v k p => cases v <;> first | exact s_non | cases h
    | _ => cases h
  | .bl b, X, W, tc, cl, n, ca, fa, C, py, h => by
    cases py with
    | Constant v k p =>
      cases v with
      | bool c =>
        have h : (b == c) = true := h
        rw [eq_of_beq h]
        exact s_bl
      | _ => cases h
    | _ => cases h
  | .int i, X, W, tc, cl, n, ca, fa, C, py, h => by
    cases py with
    | Constant v k p =>
      cases v with
      | int c =>
        rw [of_decide_eq_true h]
        exact s_int
      | _ => cases h
    | _ => cases h
  | .str x, X, W, tc, cl, n, ca, fa, C, py, h => by
    cases py with
    | Constant v k p =>
      cases v with
      | str c =>
        have h : (decide (x = c) && PyData.strOk x) = true := h
        rw [Bool.and_eq_true, decide_eq_true_eq] at h
        obtain ⟨rfl, h2⟩ := h
        exact s_str h2
      | _ => cases h
    | _ => cases h
  | .bin op a b, X, W, tc, cl, n, ca, fa, C, py, h => by
    cases py with
    | BinOp l o r p =>
      have h : (decide (o = pyB op) && (ckE tc a l && ckE tc b r)) = true := h
      rw [Bool.and_eq_true, Bool.and_eq_true, decide_eq_true_eq] at h
      obtain ⟨rfl, h1, h2⟩ := h
      exact s_bin (sE a C l h1) (sE b C r h2)
    | _ => cases h
  | .neg a, X, W, tc, cl, n, ca, fa, C, py, h => by
    cases py with
    | UnaryOp o v p => cases o <;> first | exact s_neg (sE a C v h) | cases h
    | _ => cases h
  | .not a, X, W, tc, cl, n, ca, fa, C, py, h => by
    cases py with
    | UnaryOp o v p => cases o <;> first | exact s_not (sE a C v h) | cases h
    | _ => cases h
  | .and a b, X, W, tc, cl, n, ca, fa, C, py, h => by
    cases py with
    | BoolOp o vs p =>
      cases o with
      | And =>
        match vs, h with
        | [x, y], h =>
          have h : (ckE tc a x && ckE tc b y) = true := h
          rw [Bool.and_eq_true] at h
          have hb := sE b C y h.2
          exact s_and (sE a C x h.1) (pe_one hb.pe) (pw_and1 hb.pt) (by simp)
        | x :: y :: z :: r, h =>
          have h : (ckE tc a x && ckE tc b (.BoolOp .And (y :: z :: r) p)) = true := h
          rw [Bool.and_eq_true] at h
          have hb := sE b C _ h.2
          exact s_and (sE a C x h.1) hb.pe (hb.pw _ _ _ rfl) (by simp)
        | [], h => cases h
        | [_], h => cases h
      | Or => cases h
    | _ => cases h
  | .or a b, X, W, tc, cl, n, ca, fa, C, py, h => by
    cases py with
    | BoolOp o vs p =>
      cases o with
      | Or =>
        match vs, h with
        | [x, y], h =>
          have h : (ckE tc a x && ckE tc b y) = true := h
          rw [Bool.and_eq_true] at h
          have hb := sE b C y h.2
          exact s_or (sE a C x h.1) (pe_one hb.pe) (pw_or1 hb.pt) (by simp)
        | x :: y :: z :: r, h =>
          have h : (ckE tc a x && ckE tc b (.BoolOp .Or (y :: z :: r) p)) = true := h
          rw [Bool.and_eq_true] at h
          have hb := sE b C _ h.2
          exact s_or (sE a C x h.1) hb.pe (hb.pw _ _ _ rfl) (by simp)
        | [], h => cases h
        | [_], h => cases h
      | And => cases h
    | _ => cases h
  | .cmp op a b, X, W, tc, cl, n, ca, fa, C, py, h => by
    cases py with
    | Compare l os rs p =>
      match os, rs, h with
      | [o], [r], h =>
        have h : (decide (o = pyC op) && (ckE tc a l && ckE tc b r)) = true := h
        rw [Bool.and_eq_true, Bool.and_eq_true, decide_eq_true_eq] at h
        obtain ⟨rfl, h1, h2⟩ := h
        exact s_cmp (by have := C.room.un; omega) (sE a C l h1) (sE b C r h2) (plain_of h2)
      | [], _, h => cases h
      | _ :: _ :: _, [], h => cases h
      | _ :: _ :: _, _ :: _, h => cases h
      | [_], [], h => cases h
      | [_], _ :: _ :: _, h => cases h
    | _ => cases h
  | .chn op op' a b c, X, W, tc, cl, n, ca, fa, C, py, h => by
    cases py with
    | Compare l os rs p =>
      match os, rs, h with
      | [o, o'], [m, r], h =>
        have h : (decide (o = pyC op) && decide (o' = pyC op') && (ckE tc a l && (ckE tc b m && ckE tc c r))) = true := h
        rw [Bool.and_eq_true, Bool.and_eq_true, Bool.and_eq_true, Bool.and_eq_true, decide_eq_true_eq, decide_eq_true_eq] at h
        obtain ⟨⟨rfl, rfl⟩, h1, h2, h3⟩ := h
        exact s_chn (by have := C.room.un; omega) (sE a C l h1) (sE b C m h2) (sE c C r h3) (plain_of h3)
      | [], _, h => cases h
      | [_], _, h => cases h
      | _ :: _ :: _ :: _, _, h => cases h
      | [_, _], [], h => cases h
      | [_, _], [_], h => cases h
      | [_, _], _ :: _ :: _ :: _, h => cases h
    | _ => cases h
  | .tup es, X, W, tc, cl, n, ca, fa, C, py, h => by
    cases py with
    | Tuple xs k p =>
      have h : (decide (lenX es ≤ 1000) && ckEs tc es xs) = true := h
      rw [Bool.and_eq_true, decide_eq_true_eq] at h
      exact s_tup (sEs es C xs h.2).1 h.1
    | _ => cases h
  | .lst es, X, W, tc, cl, n, ca, fa, C, py, h => by
    cases py with
    | List xs p =>
      have h : (decide (lenX es ≤ 1000) && ckEs tc es xs) = true := h
      rw [Bool.and_eq_true, decide_eq_true_eq] at h
      exact s_lst (sEs es C xs h.2).1 h.1
    | _ => cases h
  | .idx a i, X, W, tc, cl, n, ca, fa, C, py, h => by
    cases py with
    | Subscript v s p =>
      have h : (plainX s && (ckE tc a v && ckE tc i s)) = true := h
      rw [Bool.and_eq_true, Bool.and_eq_true] at h
      exact s_idx (by have := C.room.units; omega) (sE a C v h.2.1) (sE i C s h.2.2) h.1
    | _ => cases h
  | .slc a lo hi, X, W, tc, cl, n, ca, fa, C, py, h => by
    cases py with
    | Subscript v s p =>
      cases s with
      | Slice l u st p2 =>
        cases st with
        | none =>
          have h : (ckE tc a v && (ckO tc lo l && ckO tc hi u)) = true := h
          rw [Bool.and_eq_true, Bool.and_eq_true] at h
          exact s_slc (sE a C v h.1) (sO lo C l h.2.1) (sO hi C u h.2.2)
        | some z => cases h
      | _ => cases h
    | _ => cases h
  | .call f es, X, W, tc, cl, n, ca, fa, C, py, h => by
    cases py with
    | Call g xs ks p =>
      cases g with
      | Name x p1 =>
        match xs, ks, h with
        | e :: xs, [], h =>
          have h : (glB tc.sc x && !odd x && decide (tc.fn.lookup x = some f) && ckEs tc es (e :: xs)) = true := h
          rw [Bool.and_eq_true, Bool.and_eq_true, Bool.and_eq_true, decide_eq_true_eq, Bool.not_eq_true'] at h
          obtain ⟨⟨⟨h1, h2⟩, h3⟩, h4⟩ := h
          have q := sEs es C _ h4
          exact s_call C q.1 q.2 h1 h2 h3
        | [], _, h => cases h
        | _ :: _, _ :: _, h => cases h
      | _ => cases h
    | _ => cases h
  | .bi b es, X, W, tc, cl, n, ca, fa, C, py, h => by
    cases py with
    | Call g xs ks p =>
      cases g with
      | Name x p1 =>
        cases ks with
        | cons _ _ => cases h
        | nil =>
          have h : (glB tc.sc x && ((biHas b && decide (x = biNm b) && ckEs tc es xs && decide (xs.length ≠ 0)) ||
            (isIs b && decide (x = ("isinstance" : Str)) && isiN tc b xs && decide (lenX es = 1) && ckEs tc es (xs.take 1)))) = true := h
          rw [Bool.and_eq_true, Bool.or_eq_true, Bool.and_eq_true, Bool.and_eq_true, Bool.and_eq_true, Bool.and_eq_true, Bool.and_eq_true, Bool.and_eq_true, Bool.and_eq_true, decide_eq_true_eq, decide_eq_true_eq, decide_eq_true_eq, decide_eq_true_eq] at h
          obtain ⟨h0, ⟨⟨⟨h1, h2⟩, h3⟩, h4⟩ | ⟨⟨⟨⟨h1, h2⟩, h3⟩, h5⟩, h4⟩⟩ := h
          · subst h2
            have q := sEs es C _ h3
            match xs, h4, q with
            | e :: xs, _, q => exact s_bi C q.1 q.2 h0 h1
            | [], h4, _ => exact absurd rfl h4
          · subst h2
            match xs, h3, h4 with
            | [v, .Name y p2], h3, h4 =>
              have h3 : (glB tc.sc y && decide (y = (biTy b : Str))) = true := h3
              rw [Bool.and_eq_true, decide_eq_true_eq] at h3
              have q := sEs es C _ h4
              match es, h5, h4, q with
              | .cons a .nil, _, h4, q =>
                have h4 : (plainX v && (ckE tc a v && true)) = true := h4
                rw [Bool.and_eq_true, Bool.and_eq_true] at h4
                exact s_isi C (sE a C v h4.2.1) h4.1 h0 h3.1 h3.2 h1
              | .nil, h5, _, _ => cases h5
              | .cons _ (.cons _ _), h5, _, _ => simp [lenX] at h5
      | _ => cases h
    | _ => cases h
  | .con g, X, W, tc, cl, n, ca, fa, C, py, h => by
    cases py with
    | Name x p =>
      have h : (glB tc.sc x && !odd x && decide (tc.gl.lookup x = some g)) = true := h
      rw [Bool.and_eq_true, Bool.and_eq_true, decide_eq_true_eq, Bool.not_eq_true'] at h
      exact s_con C h.1.1 h.1.2 h.2
    | _ => cases h
  | .dnew, X, W, tc, cl, n, ca, fa, C, py, h => by
    cases py with
    | Dict ks vs p =>
      match ks, vs, h with
      | [], [], _ => exact s_dnew
      | _ :: _, _, h => cases h
      | [], _ :: _, h => cases h
    | _ => cases h
  | .meth m o es, X, W, tc, cl, n, ca, fa, C, py, h => by
    unfold ckE at h
    split at h
    · rename_i ob nm apos y cpos
      rw [Bool.and_eq_true, Bool.and_eq_true, Bool.and_eq_true, Bool.and_eq_true, decide_eq_true_eq] at h
      obtain ⟨rfl, h1, h2, h3, h4⟩ := h
      have q := sEs es C _ h4
      exact s_meth (sE o C ob h3) q.1 (q.2 y List.mem_cons_self) h2 h1
    · cases h
  | .sset e, X, W, tc, cl, n, ca, fa, C, py, h => by
    unfold ckE at h
    split at h
    · rw [Bool.and_eq_true, Bool.and_eq_true, Bool.and_eq_true, Bool.and_eq_true, Bool.and_eq_true, decide_eq_true_eq, decide_eq_true_eq] at h
      obtain ⟨h1, rfl, h2, rfl, h3, h4⟩ := h
      exact s_sset C (sE e C _ h4) h3 h1 h2
    · cases h
  | .items e, X, W, tc, cl, n, ca, fa, C, py, h => by
    unfold ckE at h
    split at h
    · rw [Bool.and_eq_true, Bool.and_eq_true, Bool.and_eq_true, Bool.and_eq_true, Bool.and_eq_true, decide_eq_true_eq, decide_eq_true_eq] at h
      obtain ⟨h1, rfl, rfl, h2, h3, h4⟩ := h
      exact s_items C (sE e C _ h4) h3 h2 h1
    · cases h
  | .dsp es, X, W, tc, cl, n, ca, fa, C, py, h => by
    cases py with
    | Dict ks vs p =>
      have h : ((decide (ks.length = vs.length) && (decide (ks.length ≤ 15) && (!ks.isEmpty && ks.all (·.isSome)))) && ckKv tc es ks vs) = true := h
      rw [Bool.and_eq_true, Bool.and_eq_true, Bool.and_eq_true, Bool.and_eq_true, decide_eq_true_eq, decide_eq_true_eq] at h
      obtain ⟨⟨h1, h2, h3, h4⟩, h5⟩ := h
      have q := sKv es C p ks vs h5
      exact s_dsp q.1 q.2 h4 h1 (fun e => by subst e; cases h3) h2
    | _ => cases h
  | .lrg e, X, W, tc, cl, n, ca, fa, C, py, h => by
    unfold ckE at h
    split at h
    · rw [Bool.and_eq_true, Bool.and_eq_true, Bool.and_eq_true, Bool.and_eq_true, Bool.and_eq_true, decide_eq_true_eq, decide_eq_true_eq] at h
      obtain ⟨h1, rfl, h2, rfl, h3, h4⟩ := h
      exact s_lrg C (sE e C _ h4) h3 h1 h2
    · cases h
  | .get o k d, X, W, tc, cl, n, ca, fa, C, py, h => by
    unfold ckE at h
    split at h
    · rw [Bool.and_eq_true, Bool.and_eq_true, Bool.and_eq_true, Bool.and_eq_true, Bool.and_eq_true, Bool.and_eq_true, Bool.and_eq_true, decide_eq_true_eq] at h
      obtain ⟨rfl, h1, h2, h3, h4, h5, h6, h7⟩ := h
      exact s_get C (sE o C _ h5) (sE k C _ h6) (sE d C _ h7) h2 h3 h4 h1
    · cases h
  | .bitl e, X, W, tc, cl, n, ca, fa, C, py, h => by
    unfold ckE at h
    split at h
    · rw [Bool.and_eq_true, Bool.and_eq_true, Bool.and_eq_true, decide_eq_true_eq] at h
      obtain ⟨rfl, h1, h2, h3⟩ := h
      exact s_bitl (sE e C _ h3) h2 h1
    · cases h
  | .lc t own it c e, X, W, tc, cl, n, ca, fa, C, py, h => by
    cases py with
    | ListComp elt gs scope p =>
      match gs, h with
      | [⟨tg, iter, ifs, z⟩], h =>
        have h : (tupOk it t && decide (z = 0) && decide (t = own) && (blkC tc.N tc.sc scope (ownN tc.N own) && decide ((ownN tc.N own).map (·.2) = own) && (ckI tc it iter &&
          (ckT ⟨tc.N, scope, tc.fn, tc.gl⟩ t tg && decide (plainX iter = true) && (ckC ⟨tc.N, relS scope tc.sc, tc.fn, tc.gl⟩ c ifs && ckE ⟨tc.N, relS scope tc.sc, tc.fn, tc.gl⟩ e elt))))) = true := h
        rw [Bool.and_eq_true, Bool.and_eq_true, Bool.and_eq_true, Bool.and_eq_true, Bool.and_eq_true, Bool.and_eq_true, Bool.and_eq_true, Bool.and_eq_true, Bool.and_eq_true, decide_eq_true_eq, decide_eq_true_eq, decide_eq_true_eq, decide_eq_true_eq] at h
        obtain ⟨⟨⟨h0, rfl⟩, rfl⟩, ⟨h1, h2⟩, h3, ⟨h4, h5⟩, h6, h7⟩ := h
        exact s_lc C (sI it C iter (tup_tg h0 h4) h3) (blkOk_by (by rw [← C.N, ← C.sc]; exact h1)) h2 (by rw [← C.N]; exact h4) (fun s H Ca l fp => sC c (C.blk s H scope Ca l fp) ifs h6) (fun s H Ca l fp => (sE e (C.blk s H scope Ca l fp) elt h7).pe) h5
      | [], h => cases h
      | ⟨_, _, _, _⟩ :: _ :: _, h => cases h
    | _ => cases h
theorem sEs : ∀ (es : Exs) {X : Cx} {W : WX} {tc : Tc} {cl : Cl} {n : Nat} {ca fa : Nat → Addr} (C : Cok X W tc cl n ca fa) (pys : List Expr), ckEs tc es pys = true → PA X pys (tAs X.K ca cl W es) ∧ ∀ e ∈ pys, plainX e = true
  | .nil, X, W, tc, cl, n, ca, fa, C, pys, h => by
    cases pys with
    | nil => exact ⟨a_nil, fun _ z => nomatch z⟩
    | cons _ _ => cases h
  | .cons e es, X, W, tc, cl, n, ca, fa, C, pys, h => by
    cases pys with
    | nil => cases h
    | cons y ys =>
      have h : (plainX y && (ckE tc e y && ckEs tc es ys)) = true := h
      rw [Bool.and_eq_true, Bool.and_eq_true] at h
      have q := sEs es C ys h.2.2
      exact ⟨a_cons (sE e C y h.2.1) q.1 h.1, fun z hz => (List.mem_cons.mp hz).elim (fun e => by rw [e]; exact h.1) (q.2 z)⟩
theorem sKv : ∀ (es : Exs) {X : Cx} {W : WX} {tc : Tc} {cl : Cl} {n : Nat} {ca fa : Nat → Addr} (C : Cok X W tc cl n ca fa) (pos : Pos) (ks : List (Option Expr)) (vs : List Expr), ckKv tc es ks vs = true → PPs X pos ks vs (tKv X.K ca cl W es) ∧ evX es = true
  | .nil, X, W, tc, cl, n, ca, fa, C, pos, ks, vs, h => by
    cases ks with
    | nil =>
      cases vs with
      | nil => exact ⟨pps_nil, rfl⟩
      | cons _ _ => cases h
    | cons _ _ => cases h
  | .cons _ .nil, X, W, tc, cl, n, ca, fa, C, pos, ks, vs, h => by cases h
  | .cons k (.cons e es), X, W, tc, cl, n, ca, fa, C, pos, ks, vs, h => by
    match ks, vs, h with
    | some x :: ks, y :: vs, h =>
      have h : (ckE tc k x && (ckE tc e y && ckKv tc es ks vs)) = true := h
      rw [Bool.and_eq_true, Bool.and_eq_true] at h
      have q := sKv es C pos ks vs h.2.2
      exact ⟨pps_cons (sE k C x h.1).pe (sE e C y h.2.1).pe q.1, q.2⟩
    | [], _, h => cases h
    | none :: _, _, h => cases h
    | some _ :: _, [], h => cases h
theorem sO : ∀ (o : Exo) {X : Cx} {W : WX} {tc : Tc} {cl : Cl} {n : Nat} {ca fa : Nat → Addr} (C : Cok X W tc cl n ca fa) (py : Option Expr), ckO tc o py = true → PO X py (tOp1 X.K ca cl W o)
  | .none, X, W, tc, cl, n, ca, fa, C, py, h => by
    cases py <;> first | exact o_none | cases h
  | .some e, X, W, tc, cl, n, ca, fa, C, py, h => by
    cases py with
    | none => cases h
    | some y => exact o_some (sE e C y h)
theorem sC : ∀ (c : Exo) {X : Cx} {tc : Tc} {cl : Cl} {n : Nat} {ca fa : Nat → Addr} (C : Cok X W0 tc cl n ca fa) (ifs : List Expr), ckC tc c ifs = true → PTs X ifs (tCd X.K ca cl c)
  | .none, X, tc, cl, n, ca, fa, C, ifs, h => by
    cases ifs <;> first | exact pts_nil | cases h
  | .some e, X, tc, cl, n, ca, fa, C, ifs, h => by
    match ifs, h with
    | [i], h => exact pts_one (sE e C i h).pt
    | [], h => cases h
    | _ :: _ :: _, h => cases h
theorem sI : ∀ (it : Iw) {X : Cx} {W : WX} {tc : Tc} {cl : Cl} {n : Nat} {ca fa : Nat → Addr} (C : Cok X W tc cl n ca fa) (py : Expr) {tg : Expr}, ((∃ es, it = .zip es) → ∃ elts kk tpos, tg = .Tuple elts kk tpos) → ckI tc it py = true → PI X tg py (tI X.K ca cl W it)
  | .ex e, X, W, tc, cl, n, ca, fa, C, py, tg, _, h => by
    have h : (plainX py && ckE tc e py) = true := h
    rw [Bool.and_eq_true] at h
    exact i_ex (sE e C py h.2)
  | .rng es, X, W, tc, cl, n, ca, fa, C, py, tg, _, h => by
    cases py with
    | Call g xs ks p =>
      cases g with
      | Name x p1 =>
        cases ks with
        | cons _ _ => cases h
        | nil =>
          have h : (glB tc.sc x && decide (x = ("range" : Str)) && decide (1 ≤ lenX es ∧ lenX es ≤ 3) && ckEs tc es xs) = true := h
          rw [Bool.and_eq_true, Bool.and_eq_true, Bool.and_eq_true, decide_eq_true_eq, decide_eq_true_eq] at h
          obtain ⟨⟨⟨h1, rfl⟩, h2⟩, h3⟩ := h
          have q := sEs es C xs h3
          match es, xs, h2, h3, q with
          | .nil, _, h2, _, _ => exact absurd h2.1 (by decide)
          | .cons _ .nil, [a], _, _, q => exact i_rng1 C q.1 (q.2 a List.mem_cons_self) rfl h1
          | .cons _ (.cons _ .nil), [a, b], _, _, q => exact i_rng2 C q.1 (q.2 a List.mem_cons_self) (q.2 b (List.mem_cons_of_mem _ List.mem_cons_self)) rfl h1
          | .cons _ (.cons _ (.cons _ .nil)), [a, b, c], _, _, q => exact i_rng3 C q.1 (q.2 a List.mem_cons_self) (fun e he => q.2 e (List.mem_cons_of_mem _ he)) rfl h1
          | .cons _ (.cons _ (.cons _ (.cons _ _))), _, h2, _, _ => exact absurd h2.2 (by simp [lenX])
          | .cons _ (.cons _ (.cons _ .nil)), [], _, h3, _ => cases h3
          | .cons _ (.cons _ (.cons _ .nil)), [_], _, h3, _ => simp [ckEs] at h3
          | .cons _ (.cons _ (.cons _ .nil)), [_, _], _, h3, _ => simp [ckEs] at h3
          | .cons _ (.cons _ (.cons _ .nil)), _ :: _ :: _ :: _ :: _, _, h3, _ => simp [ckEs] at h3
          | .cons _ .nil, [], _, h3, _ => cases h3
          | .cons _ .nil, _ :: _ :: _, _, h3, _ => simp [ckEs] at h3
          | .cons _ (.cons _ .nil), [], _, h3, _ => cases h3
          | .cons _ (.cons _ .nil), [_], _, h3, _ => simp [ckEs] at h3
          | .cons _ (.cons _ .nil), _ :: _ :: _ :: _, _, h3, _ => simp [ckEs] at h3
      | _ => cases h
    | _ => cases h
  | .rev e, X, W, tc, cl, n, ca, fa, C, py, tg, _, h => by
    cases py with
    | Call g xs ks p =>
      cases g with
      | Name x p1 =>
        match xs, ks, h with
        | [v], [], h =>
          have h : (glB tc.sc x && decide (x = ("reversed" : Str)) && plainX v && ckE tc e v) = true := h
          rw [Bool.and_eq_true, Bool.and_eq_true, Bool.and_eq_true, decide_eq_true_eq] at h
          obtain ⟨⟨⟨h1, rfl⟩, h2⟩, h3⟩ := h
          exact i_rev C (sE e C v h3) h2 h1
        | [], _, h => cases h
        | [_], _ :: _, h => cases h
        | _ :: _ :: _, _, h => cases h
      | _ => cases h
    | _ => cases h
  | .revr .nil, X, W, tc, cl, n, ca, fa, C, py, tg, _, h => by
    unfold ckI at h
    split at h
    · rename_i e _ _ _ _ _ _ _ _ _
      contradiction
    · cases h
  | .revr (.cons _ (.cons _ _)), X, W, tc, cl, n, ca, fa, C, py, tg, _, h => by
    unfold ckI at h
    split at h
    · rename_i heq
      first | (cases heq; done) | (injection heq with _ z; cases z)
    · cases h
  | .revr (.cons e .nil), X, W, tc, cl, n, ca, fa, C, py, tg, _, h => by
    cases py with
    | Call g xs ks p =>
      cases g with
      | Name x p1 =>
        match xs, ks, h with
        | [.Call (.Name y p2) [v] [] q2], [], h =>
          have h : (glB tc.sc x && (decide (x = ("reversed" : Str)) && (glB tc.sc y && (decide (y = ("range" : Str)) && (plainX v && ckE tc e v))))) = true := h
          rw [Bool.and_eq_true, Bool.and_eq_true, Bool.and_eq_true, Bool.and_eq_true, Bool.and_eq_true, decide_eq_true_eq, decide_eq_true_eq] at h
          obtain ⟨h1, rfl, h2, rfl, h3, h4⟩ := h
          exact i_revr C (sE e C v h4) h3 h1 h2
      | _ => cases h
    | _ => cases h
  | .zip es, X, W, tc, cl, n, ca, fa, C, py, tg, ht, h => by
    obtain ⟨elts, kk, tpos, rfl⟩ := ht ⟨es, rfl⟩
    unfold ckI at h
    split at h
    · rename_i x _ a b _
      rw [Bool.and_eq_true, Bool.and_eq_true, decide_eq_true_eq] at h
      obtain ⟨h1, rfl, h3⟩ := h
      have q := sEs es C _ h3
      exact i_zip C q.1 (q.2 a List.mem_cons_self) (q.2 b (List.mem_cons_of_mem _ List.mem_cons_self)) h1
    · cases h
end
end BW

/-! What a def's names hold, and what of it is its own. -/
namespace BW
open PySem PySem.Spec L2

abbrev Fps := Nat → List Addr
def okS (ok0 : Addr → Prop) (fps : Fps) : Addr → Prop := fun a => ok0 a ∧ ∀ i, a ∉ fps i
def okE (ok0 : Addr → Prop) (fps : Fps) (is : List Nat) : Addr → Prop := fun a => ok0 a ∧ ((∀ i, a ∉ fps i) ∨ ∃ i ∈ is, a ∈ fps i)
structure SR (K : PySem.W.Frag) (ok0 : Addr → Prop) (env : PEnv) (fps : Fps) (σ : L2.St) (H : Hp) : Prop where
  len : env.length = σ.length
  at_ : ∀ i pv, env[i]? = some (some pv) → ∃ v, σ[i]? = some (some v) ∧ Rp K H (okS ok0 fps) pv v (fps i)
  nd : ∀ i, (fps i).Nodup
  dj : ∀ i j a, a ∈ fps i → a ∈ fps j → i = j
  own : ∀ i a, a ∈ fps i → ok0 a ∧ ∃ u, H a = some u ∧ isMu u = true
  fr : Fre ok0 H
/-- what may have changed -/
structure Stp (fps : Fps) (H : Hp) (fps' : Fps) (H' : Hp) : Prop where
  keep : ∀ a o, H a = some o → (∀ i, a ∉ fps i) → H' a = some o
  own : ∀ i a, a ∈ fps' i → (∃ j, a ∈ fps j) ∨ H a = none
  dom : ∀ a, H' a = none → H a = none
def updF (fps : Fps) (i : Nat) (fp : List Addr) : Fps := fun j => if j = i then fp else fps j
def frzF (is : List Nat) (fps : Fps) : Fps := fun j => if j ∈ is then [] else fps j
section
variable {K : PySem.W.Frag} {ok0 : Addr → Prop} {env env' : PEnv} {fps fps' fps2 : Fps} {σ : L2.St} {H H' H1 H2 : Hp} {is : List Nat}
theorem Stp.refl : Stp fps H fps H := ⟨fun _ _ e _ => e, fun i a z => .inl ⟨i, z⟩, fun _ z => z⟩
theorem Stp.of (s : Same H H') (h : ∀ i a, a ∈ fps' i → (∃ j, a ∈ fps j) ∨ H a = none) : Stp fps H fps' H' := ⟨fun a o e _ => s a o e, h, fun _ z => s.free z⟩
theorem Stp.trans (a : Stp fps H fps' H') (b : Stp fps' H' fps2 H2) : Stp fps H fps2 H2 where
  keep := fun x o e n => b.keep x o (a.keep x o e n) fun i z => by
    rcases a.own i x z with ⟨j, q⟩ | q
    · exact n j q
    · rw [e] at q; cases q
  own := fun i x z => by
    rcases b.own i x z with ⟨j, q⟩ | q
    · exact a.own j x q
    · exact .inr (a.dom x q)
  dom := fun x z => a.dom x (b.dom x z)
theorem SR.same (s : Same H H') (S : SR K ok0 env fps σ H) : SR K ok0 env fps σ H' where
  len := S.len
  at_ := fun i pv e => let ⟨v, h1, h2⟩ := S.at_ i pv e; ⟨v, h1, h2.same s⟩
  nd := S.nd
  dj := S.dj
  own := fun i a z => let ⟨o, u, h1, h2⟩ := S.own i a z; ⟨o, u, s a u h1, h2⟩
  fr := S.fr.same s
theorem SR.frE (S : SR K ok0 env fps σ H) : Fre (okE ok0 fps is) H := fun a z => ⟨S.fr a z, .inl fun i hi => by
  obtain ⟨_, u, h1, _⟩ := S.own i a hi
  rw [z] at h1
  cases h1⟩
theorem SR.ein (S : SR K ok0 env fps σ H) : EIn K H (okE ok0 fps is) env σ is := by
  refine ⟨S.len, fun i hi x e => ?_⟩
  unfold getE at e
  split at e
  · rename_i v hv
    cases e
    obtain ⟨w, h1, h2⟩ := S.at_ i v hv
    exact ⟨w, h1, h2.frz (fun a z => ⟨z.1, .inl z.2⟩) fun a z => ⟨(S.own i a z).1, .inr ⟨i, hi, z⟩⟩⟩
  · cases e
theorem okE_S (dj : ∀ i j a, a ∈ fps i → a ∈ fps j → i = j) {a : Addr} (h : okE ok0 fps is a) : okS ok0 (frzF is fps) a := by
  refine ⟨h.1, fun i hi => ?_⟩
  unfold frzF at hi
  by_cases q : i ∈ is
  · rw [if_pos q] at hi
    cases hi
  · rw [if_neg q] at hi
    rcases h.2 with z | ⟨j, hj, z⟩
    · exact z i hi
    · exact q (by rw [dj i j a hi z]; exact hj)
theorem frzV_at {i : Nat} : ∀ {is : List Nat} {env : PEnv}, (frzV is env)[i]? = if i ∈ is then (match env[i]? with
    | some (some v) => some (some (frz v))
    | o => o) else env[i]?
  | [], _ => rfl
  | j :: is, env => by
    have ih := frzV_at (i := i) (is := is) (env := match env[j]? with
      | some (some v) => env.set j (some (frz v))
      | _ => env)
    show (frzV is (match env[j]? with
      | some (some v) => env.set j (some (frz v))
      | _ => env))[i]? = _
    rw [ih]
    by_cases hij : j = i
    · subst hij
      rw [if_pos (List.mem_cons_self (a := j) (l := is))]
      cases e : env[j]? with
      | none => simp only [e]; split <;> rfl
      | some o =>
        cases o with
        | none => simp only [e]; split <;> rfl
        | some v =>
          have hl : j < env.length := (List.getElem?_eq_some_iff.mp e).1
          dsimp only
          rw [List.getElem?_set_self hl]
          dsimp only
          split
          · rw [frz_frz]
          · rfl
    · have e2 : (match env[j]? with
        | some (some v) => env.set j (some (frz v))
        | _ => env)[i]? = env[i]? := by
        split
        · rw [List.getElem?_set_ne hij]
        · rfl
      rw [e2]
      by_cases q : i ∈ is
      · rw [if_pos q, if_pos (List.mem_cons_of_mem _ q)]
      · rw [if_neg q, if_neg fun z => (List.mem_cons.mp z).elim (fun z => hij z.symm) q]
theorem frzV_len : ∀ {is : List Nat} {env : PEnv}, (frzV is env).length = env.length
  | [], _ => rfl
  | j :: is, env => by
    show (frzV is _).length = _
    rw [frzV_len]
    dsimp only
    split
    · rw [List.length_set]
    · rfl
theorem frzF_sub {i : Nat} {a : Addr} (h : a ∈ frzF is fps i) : i ∉ is ∧ a ∈ fps i := by
  unfold frzF at h
  by_cases q : i ∈ is
  · rw [if_pos q] at h; cases h
  · rw [if_neg q] at h; exact ⟨q, h⟩
theorem SR.frz (S : SR K ok0 env fps σ H) : SR K ok0 (frzV is env) (frzF is fps) σ H where
  len := by rw [frzV_len]; exact S.len
  at_ := fun i pv e => by
    rw [frzV_at] at e
    have w : ∀ a, okS ok0 fps a → okS ok0 (frzF is fps) a := fun a z => ⟨z.1, fun j hj => z.2 j (frzF_sub hj).2⟩
    by_cases q : i ∈ is
    · rw [if_pos q] at e
      have e0 : frzF is fps i = [] := by unfold frzF; rw [if_pos q]
      rw [e0]
      cases q2 : env[i]? with
      | none => rw [q2] at e; cases e
      | some o =>
        cases o with
        | none => rw [q2] at e; cases e
        | some v =>
          rw [q2] at e
          cases e
          obtain ⟨u, h1, h2⟩ := S.at_ i v q2
          exact ⟨u, h1, h2.frz w fun a z => okE_S S.dj ⟨(S.own i a z).1, .inr ⟨i, q, z⟩⟩⟩
    · rw [if_neg q] at e
      have e0 : frzF is fps i = fps i := by unfold frzF; rw [if_neg q]
      rw [e0]
      obtain ⟨u, h1, h2⟩ := S.at_ i pv e
      exact ⟨u, h1, h2.imp w⟩
  nd := fun i => by
    unfold frzF
    split
    · exact .nil
    · exact S.nd i
  dj := fun i j a h1 h2 => S.dj i j a (frzF_sub h1).2 (frzF_sub h2).2
  own := fun i a z => S.own i a (frzF_sub z).2
  fr := S.fr
/-- a new thing's cells are none of these -/
theorem SR.avoid {fp : List Addr} (S : SR K ok0 env fps σ H) (s : Same H H1) (f : ∀ a ∈ fp, H a = none) (d : ∀ a ∈ fp, ∃ u, H1 a = some u ∧ isMu u = true) : SR K (okn ok0 fp) env fps σ H1 where
  len := S.len
  at_ := fun i pv e => by
    obtain ⟨v, h1, h2⟩ := S.at_ i pv e
    exact ⟨v, h1, (h2.inD.imp fun a z => ⟨⟨z.1.1, fun hf => by
      obtain ⟨u, q⟩ := z.2
      rw [f a hf] at q
      cases q⟩, z.1.2⟩).same s⟩
  nd := S.nd
  dj := S.dj
  own := fun i a z => by
    obtain ⟨o, u, h1, h2⟩ := S.own i a z
    exact ⟨⟨o, fun hf => by rw [f a hf] at h1; cases h1⟩, u, s a u h1, h2⟩
  fr := fun a z => ⟨S.fr a (s.free z), fun hf => by
    obtain ⟨u, q, _⟩ := d a hf
    rw [z] at q
    cases q⟩
/-- several things told: what of the names' things stays one's own -/
theorem SR.aft {xs : List PV} {vs : List V} {fp : List Addr} (S : SR K ok0 env fps σ H) (s : Same H H1) (r : Rps K H1 (okn (okE ok0 fps is) fp) xs vs fp) (f : ∀ a ∈ fp, H a = none) :
    ∃ fps2, SR K (okn ok0 fp) (aft (.tup xs) is env) fps2 σ H1 ∧ Rps K H1 (okn (okS ok0 fps2) fp) xs vs fp ∧ (∀ i a, a ∈ fps2 i → a ∈ fps i) := by
  have d := r.dom
  cases c : clss xs with
  | true =>
    have e : BW.aft (.tup xs) is env = env := by
      unfold BW.aft
      rw [if_pos (show cls (.tup xs) = true from c)]
    rw [e]
    exact ⟨fps, S.avoid s f d, r.free c, fun _ _ z => z⟩
  | false =>
    have e : BW.aft (.tup xs) is env = frzV is env := by
      unfold BW.aft
      rw [if_neg (show ¬ cls (.tup xs) = true by rw [show cls (.tup xs) = clss xs from rfl, c]; decide)]
    rw [e]
    exact ⟨frzF is fps, S.frz.avoid s f d, r.imp fun a z => ⟨okE_S S.dj z.1, z.2⟩, fun i a z => (frzF_sub z).2⟩
theorem SR.aft1 {x : PV} {v : V} {fp : List Addr} (S : SR K ok0 env fps σ H) (s : Same H H1) (r : Rp K H1 (okn (okE ok0 fps is) fp) x v fp) (f : ∀ a ∈ fp, H a = none) :
    ∃ fps2, SR K (okn ok0 fp) (BW.aft x is env) fps2 σ H1 ∧ Rp K H1 (okn (okS ok0 fps2) fp) x v fp ∧ (∀ i a, a ∈ fps2 i → a ∈ fps i) := by
  have d := r.dom
  cases c : cls x with
  | true =>
    have e : BW.aft x is env = env := by
      unfold BW.aft
      rw [if_pos c]
    rw [e]
    exact ⟨fps, S.avoid s f d, r.free c, fun _ _ z => z⟩
  | false =>
    have e : BW.aft x is env = frzV is env := by
      unfold BW.aft
      rw [if_neg (by rw [c]; decide)]
    rw [e]
    exact ⟨frzF is fps, S.frz.avoid s f d, r.imp fun a z => ⟨okE_S S.dj z.1, z.2⟩, fun i a z => (frzF_sub z).2⟩
theorem updF_in {i j : Nat} {fp : List Addr} {a : Addr} (h : a ∈ updF fps i fp j) : (j = i ∧ a ∈ fp) ∨ (j ≠ i ∧ a ∈ fps j) := by
  unfold updF at h
  by_cases q : j = i
  · rw [if_pos q] at h; exact .inl ⟨q, h⟩
  · rw [if_neg q] at h; exact .inr ⟨q, h⟩
/-- a name is set -/
theorem SR.set {x : PV} {v : V} {fp fq : List Addr} {i : Nat} (S : SR K (okn ok0 (fp ++ fq)) env fps σ H) (r : Rp K H (okn (okS ok0 fps) (fp ++ fq)) x v fp) (nd : fp.Nodup) (dq : ∀ a ∈ fp, a ∉ fq) (f : ∀ a ∈ fp, ok0 a ∧ ∀ j, a ∉ fps j) :
    SR K (okn ok0 fq) (env.set i (some x)) (updF fps i fp) (σ.set i (some v)) H where
  len := by rw [List.length_set, List.length_set]; exact S.len
  at_ := fun j pv e => by
    by_cases q : i = j
    · subst q
      have hl : i < env.length := by
        have z := (List.getElem?_eq_some_iff.mp e).1
        rwa [List.length_set] at z
      rw [List.getElem?_set_self hl] at e
      cases e
      refine ⟨v, List.getElem?_set_self (by rw [← S.len]; exact hl), ?_⟩
      have e0 : updF fps i fp i = fp := by unfold updF; rw [if_pos rfl]
      rw [e0]
      refine r.imp fun a z => ⟨⟨z.1.1, fun hf => z.2 (List.mem_append_right _ hf)⟩, fun k hk => ?_⟩
      rcases updF_in hk with ⟨_, hk⟩ | ⟨_, hk⟩
      · exact z.2 (List.mem_append_left _ hk)
      · exact z.1.2 k hk
    · rw [List.getElem?_set_ne q] at e
      obtain ⟨w, h1, h2⟩ := S.at_ j pv e
      have e0 : updF fps i fp j = fps j := by unfold updF; rw [if_neg (Ne.symm q)]
      rw [e0]
      refine ⟨w, by rw [List.getElem?_set_ne q]; exact h1, h2.imp fun a z => ⟨⟨z.1.1, fun hf => z.1.2 (List.mem_append_right _ hf)⟩, fun k hk => ?_⟩⟩
      rcases updF_in hk with ⟨_, hk⟩ | ⟨_, hk⟩
      · exact z.1.2 (List.mem_append_left _ hk)
      · exact z.2 k hk
  nd := fun j => by
    unfold updF
    split
    · exact nd
    · exact S.nd j
  dj := fun j k a h1 h2 => by
    rcases updF_in h1 with ⟨e1, h1⟩ | ⟨e1, h1⟩ <;> rcases updF_in h2 with ⟨e2, h2⟩ | ⟨e2, h2⟩
    · rw [e1, e2]
    · exact absurd h2 ((f a h1).2 k)
    · exact absurd h1 ((f a h2).2 j)
    · exact S.dj j k a h1 h2
  own := fun j a h1 => by
    rcases updF_in h1 with ⟨e1, h1⟩ | ⟨e1, h1⟩
    · exact ⟨⟨(f a h1).1, dq a h1⟩, r.dom a h1⟩
    · obtain ⟨o, u, q1, q2⟩ := S.own j a h1
      exact ⟨⟨o.1, fun hf => o.2 (List.mem_append_right _ hf)⟩, u, q1, q2⟩
  fr := fun a z => ⟨(S.fr a z).1, fun hf => (S.fr a z).2 (List.mem_append_right _ hf)⟩
theorem SR.okn_nil (S : SR K (okn ok0 []) env fps σ H) : SR K ok0 env fps σ H where
  len := S.len
  at_ := fun i pv e => let ⟨v, h1, h2⟩ := S.at_ i pv e; ⟨v, h1, h2.imp fun a z => ⟨z.1.1, z.2⟩⟩
  nd := S.nd
  dj := S.dj
  own := fun i a z => let ⟨o, q⟩ := S.own i a z; ⟨o.1, q⟩
  fr := fun a z => (S.fr a z).1
theorem SR.set1 {x : PV} {v : V} {fp : List Addr} {i : Nat} (S : SR K (okn ok0 fp) env fps σ H) (r : Rp K H (okn (okS ok0 fps) fp) x v fp) (nd : fp.Nodup) (f : ∀ a ∈ fp, ok0 a ∧ ∀ j, a ∉ fps j) :
    SR K ok0 (env.set i (some x)) (updF fps i fp) (σ.set i (some v)) H := by
  have q := SR.set (fq := []) (i := i) (by rw [List.append_nil]; exact S) (by rw [List.append_nil]; exact r) nd (fun _ _ z => nomatch z) f
  exact q.okn_nil
/-- several names are set -/
theorem SR.sets : ∀ {t : List Nat} {xs : List PV} {vs : List V} {fp : List Addr} {env : PEnv} {fps : Fps} {σ : L2.St}, SR K (okn ok0 fp) env fps σ H → Rps K H (okn (okS ok0 fps) fp) xs vs fp → fp.Nodup → (∀ a ∈ fp, ok0 a ∧ ∀ j, a ∉ fps j) → xs.length = t.length →
    ∃ fps', SR K ok0 (setP env (t.zip xs)) fps' (setV σ (t.zip vs)) H ∧ ∀ i a, a ∈ fps' i → (∃ j, a ∈ fps j) ∨ a ∈ fp
  | [], xs, vs, fp, env, fps, σ, S, r, nd, f, hl => by
    match xs, hl with
    | [], _ =>
      cases r
      exact ⟨fps, S.okn_nil, fun i a z => .inl ⟨i, z⟩⟩
  | i :: t, xs, vs, fp, env, fps, σ, S, r, nd, f, hl => by
    match xs, hl with
    | x :: xs, hl =>
      obtain ⟨v, vs', f1, f2, ev, ef, r1, r2⟩ := r.inv
      subst ev ef
      obtain ⟨n1, n2, n3⟩ := List.nodup_append.mp nd
      have d12 : ∀ a ∈ f1, a ∉ f2 := fun a z z2 => n3 a z a z2 rfl
      have S1 := SR.set (i := i) S r1 n1 d12 fun a z => f a (List.mem_append_left _ z)
      obtain ⟨fps', S2, q⟩ := SR.sets (t := t) (xs := xs) (vs := vs') S1 (r2.imp fun a z => ⟨⟨z.1.1, fun k hk => by
        rcases updF_in hk with ⟨_, hk⟩ | ⟨_, hk⟩
        · exact z.2 (List.mem_append_left _ hk)
        · exact z.1.2 k hk⟩, fun hf => z.2 (List.mem_append_right _ hf)⟩) n2 (fun a z => ⟨(f a (List.mem_append_right _ z)).1, fun k hk => by
        rcases updF_in hk with ⟨_, hk⟩ | ⟨_, hk⟩
        · exact d12 a hk z
        · exact (f a (List.mem_append_right _ z)).2 k hk⟩) (by simpa using hl)
      refine ⟨fps', S2, fun k a z => ?_⟩
      rcases q k a z with ⟨j, q⟩ | q
      · rcases updF_in q with ⟨_, q⟩ | ⟨_, q⟩
        · exact .inr (List.mem_append_left _ q)
        · exact .inl ⟨j, q⟩
      · exact .inr (List.mem_append_right _ q)
theorem SR.weak {ok1 : Addr → Prop} (S : SR K ok0 env fps σ H) (h : ∀ a, ok0 a → ok1 a) : SR K ok1 env fps σ H where
  len := S.len
  at_ := fun i pv e => let ⟨v, h1, h2⟩ := S.at_ i pv e; ⟨v, h1, h2.imp fun a z => ⟨h a z.1, z.2⟩⟩
  nd := S.nd
  dj := S.dj
  own := fun i a z => let ⟨o, q⟩ := S.own i a z; ⟨h a o, q⟩
  fr := fun a z => h a (S.fr a z)
/-- binding a thing -/
theorem SR.bind {t : List Nat} {x : PV} {v : V} {fp : List Addr} {Q : L2.St → Hp → Prop} (S : SR K (okn ok0 fp) env fps σ H) (r : Rp K H (okn (okS ok0 fps) fp) x v fp) (nd : fp.Nodup) (f : ∀ a ∈ fp, ok0 a ∧ ∀ j, a ∉ fps j) (e : bindT t x env = .ok env')
    (k : ∀ σ' fps', SR K ok0 env' fps' σ' H → (∀ i a, a ∈ fps' i → (∃ j, a ∈ fps j) ∨ a ∈ fp) → Q σ' H) : tG K t v σ H Q := by
  have one : ∀ i, t = [i] → tG K t v σ H Q := fun i ht => by
    subst ht
    cases e
    exact k _ _ (S.set1 r nd f) fun j a z => by
      rcases updF_in z with ⟨_, z⟩ | ⟨_, z⟩
      · exact .inr z
      · exact .inl ⟨j, z⟩
  have many : (∀ i, t ≠ [i]) → tG K t v σ H Q := fun ht => by
    have e1 : tG K t = gSeq K t.length (gNs t) := by
      unfold tG
      split
      · rename_i i
        exact absurd rfl (ht i)
      · rfl
    have e2 : (match x with | .tup xs => if xs.length = t.length then Res.ok (setP env (t.zip xs)) else .bad | .lst _ xs => if xs.length = t.length then Res.ok (setP env (t.zip xs)) else .bad | _ => .bad) = .ok env' := by
      unfold bindT at e
      split at e
      · rename_i i
        exact absurd rfl (ht i)
      · exact e
    rw [e1]
    cases r with
    | tup hs rs =>
      rename_i a xs vs
      by_cases hl : xs.length = t.length
      · have e2 : (if xs.length = t.length then Res.ok (setP env (t.zip xs)) else .bad) = .ok env' := e2
        rw [if_pos hl] at e2
        cases e2
        have hl2 : vs.length = t.length := by rw [← rs.len]; exact hl
        obtain ⟨fps', S', q⟩ := S.sets rs nd f hl
        exact ⟨a, vs, rfl, .inl hs, hl2, gNs_run hl2 (k _ _ S' q)⟩
      · have e2 : (if xs.length = t.length then Res.ok (setP env (t.zip xs)) else .bad) = .ok env' := e2
        rw [if_neg hl] at e2
        cases e2
    | lstF hs ho rs =>
      rename_i a xs vs
      by_cases hl : xs.length = t.length
      · have e2 : (if xs.length = t.length then Res.ok (setP env (t.zip xs)) else .bad) = .ok env' := e2
        rw [if_pos hl] at e2
        cases e2
        have hl2 : vs.length = t.length := by rw [← rs.len]; exact hl
        obtain ⟨fps', S', q⟩ := S.sets rs nd f hl
        exact ⟨a, vs, rfl, .inr (.inl hs), hl2, gNs_run hl2 (k _ _ S' q)⟩
      · have e2 : (if xs.length = t.length then Res.ok (setP env (t.zip xs)) else .bad) = .ok env' := e2
        rw [if_neg hl] at e2
        cases e2
    | @lstO a xs vs fs hH rs =>
      by_cases hl : xs.length = t.length
      · have e2 : (if xs.length = t.length then Res.ok (setP env (t.zip xs)) else .bad) = .ok env' := e2
        rw [if_pos hl] at e2
        cases e2
        have hl2 : vs.length = t.length := by rw [← rs.len]; exact hl
        have wk : ∀ {P : Addr → Prop} b, okn P (a :: fs) b → okn P fs b := fun b z => ⟨z.1, fun h => z.2 (List.mem_cons_of_mem _ h)⟩
        obtain ⟨fps', S', q⟩ := (S.weak (fun b z => wk b z)).sets (rs.imp fun b z => wk b z) (List.nodup_cons.mp nd).2 (fun b hb => f b (List.mem_cons_of_mem _ hb)) hl
        exact ⟨a, vs, rfl, .inr (.inl (.inl hH)), hl2, gNs_run hl2 (k _ _ S' fun i b z => (q i b z).imp (fun z => z) fun z => List.mem_cons_of_mem _ z)⟩
      · have e2 : (if xs.length = t.length then Res.ok (setP env (t.zip xs)) else .bad) = .ok env' := e2
        rw [if_neg hl] at e2
        cases e2
    | _ => cases e2
  match t with
  | [i] => exact one i rfl
  | [] => exact many fun i z => nomatch z
  | _ :: _ :: _ => exact many fun i z => by simp at z
/-- a list of one's own is changed -/
theorem SR.mut {xs ys : List PV} {us us' : List V} {a : Addr} {fq fq' fp : List Addr} {i : Nat} (S : SR K (okn ok0 fp) env fps σ H) (he : env[i]? = some (some (.lst true xs))) (hf : fps i = a :: fq) (hH : H a = some (.lst us))
    (r : Rps K H (okn (okS ok0 fps) fq') ys us' fq') (nd : fq'.Nodup) (sub : ∀ b ∈ fq', b ∈ fq ∨ b ∈ fp) (hp : ∀ b ∈ fp, ok0 b ∧ ∀ j, b ∉ fps j) (hσ : σ[i]? = some (some (.ref a))) :
    SR K ok0 (env.set i (some (.lst true ys))) (updF fps i (a :: fq')) σ (upd H a (.lst us')) := by
  have hl : i < env.length := (List.getElem?_eq_some_iff.mp he).1
  have nda := S.nd i
  rw [hf] at nda
  have naq : a ∉ fq := (List.nodup_cons.mp nda).1
  have nap : a ∉ fp := fun z => (hp a z).2 i (by rw [hf]; exact List.mem_cons_self)
  have naq' : a ∉ fq' := fun z => (sub a z).elim naq nap
  have kp : ∀ b o, H b = some o → ¬ b = a → upd H a (.lst us') b = some o := fun b o e n => by rw [upd_ne n]; exact e
  have km : ∀ b, b = a → ∃ u, H b = some u ∧ isMu u = true := fun b e => ⟨.lst us, by rw [e]; exact hH, rfl⟩
  refine ⟨by rw [List.length_set]; exact S.len, fun j pv e => ?_, fun j => ?_, fun j k b h1 h2 => ?_, fun j b h1 => ?_, fun b z => ?_⟩
  · by_cases q : i = j
    · subst q
      rw [List.getElem?_set_self hl] at e
      cases e
      have e0 : updF fps i (a :: fq') i = a :: fq' := by unfold updF; rw [if_pos rfl]
      rw [e0]
      refine ⟨_, hσ, .lstO upd_same (r.keep (M := fun b => b = a) kp km (fun b z => ?_) (fun b z e => ?_) fun b z e => ?_)⟩
      · refine ⟨z.1.1, fun k hk => ?_⟩
        rcases updF_in hk with ⟨_, hk⟩ | ⟨_, hk⟩
        · rcases List.mem_cons.mp hk with e | hk
          · exact z.1.2 i (by rw [hf, e]; exact List.mem_cons_self)
          · exact z.2 hk
        · exact z.1.2 k hk
      · exact z.1.2 i (by rw [hf, e]; exact List.mem_cons_self)
      · rw [e] at z; exact naq' z
    · rw [List.getElem?_set_ne q] at e
      obtain ⟨w, h1, h2⟩ := S.at_ j pv e
      have e0 : updF fps i (a :: fq') j = fps j := by unfold updF; rw [if_neg (Ne.symm q)]
      rw [e0]
      refine ⟨w, h1, h2.keep (M := fun b => b = a) kp km (fun b z => ?_) (fun b z e => ?_) fun b z e => ?_⟩
      · refine ⟨z.1.1, fun k hk => ?_⟩
        rcases updF_in hk with ⟨_, hk⟩ | ⟨_, hk⟩
        · rcases List.mem_cons.mp hk with e | hk
          · exact z.2 i (by rw [hf, e]; exact List.mem_cons_self)
          · rcases sub b hk with hk | hk
            · exact z.2 i (by rw [hf]; exact List.mem_cons_of_mem _ hk)
            · exact z.1.2 hk
        · exact z.2 k hk
      · exact z.2 i (by rw [hf, e]; exact List.mem_cons_self)
      · rw [e] at z
        exact q (S.dj i j a (by rw [hf]; exact List.mem_cons_self) z)
  · unfold updF
    split
    · exact List.nodup_cons.mpr ⟨naq', nd⟩
    · exact S.nd j
  · have key : ∀ k, k ≠ i → b ∈ fps k → b ∉ a :: fq' := fun k hk hb z => by
      rcases List.mem_cons.mp z with e | z
      · exact hk (S.dj k i b hb (by rw [hf, e]; exact List.mem_cons_self))
      · rcases sub b z with z | z
        · exact hk (S.dj k i b hb (by rw [hf]; exact List.mem_cons_of_mem _ z))
        · exact (hp b z).2 k hb
    rcases updF_in h1 with ⟨e1, h1⟩ | ⟨e1, h1⟩ <;> rcases updF_in h2 with ⟨e2, h2⟩ | ⟨e2, h2⟩
    · rw [e1, e2]
    · exact absurd h1 (key k e2 h2)
    · exact absurd h2 (key j e1 h1)
    · exact S.dj j k b h1 h2
  · have up : ∀ u, H b = some u → isMu u = true → ∃ u, upd H a (.lst us') b = some u ∧ isMu u = true := fun u e m => by
      by_cases q : b = a
      · exact ⟨.lst us', by rw [q]; exact upd_same, rfl⟩
      · exact ⟨u, by rw [upd_ne q]; exact e, m⟩
    rcases updF_in h1 with ⟨e1, h1⟩ | ⟨e1, h1⟩
    · rcases List.mem_cons.mp h1 with e | h1
      · obtain ⟨o, _⟩ := S.own i a (by rw [hf]; exact List.mem_cons_self)
        exact ⟨by rw [e]; exact o.1, .lst us', by rw [e]; exact upd_same, rfl⟩
      · obtain ⟨u, q1, q2⟩ := r.dom b h1
        refine ⟨?_, up u q1 q2⟩
        rcases sub b h1 with z | z
        · exact (S.own i b (by rw [hf]; exact List.mem_cons_of_mem _ z)).1.1
        · exact (hp b z).1
    · obtain ⟨o, u, q1, q2⟩ := S.own j b h1
      exact ⟨o.1, up u q1 q2⟩
  · by_cases q : b = a
    · rw [q, upd_same] at z; cases z
    · rw [upd_ne q] at z
      exact (S.fr b z).1
/-- a dict of one's own is changed -/
theorem SR.mutD {ks ks' : List DKey} {xs ys : List PV} {us us' : List V} {a : Addr} {fq fq' fp : List Addr} {i : Nat} (S : SR K (okn ok0 fp) env fps σ H) (he : env[i]? = some (some (.dct true ks xs))) (hf : fps i = a :: fq) (hH : H a = some (.dK (ks.zip us))) (hz : ks'.length = us'.length ∧ ksB ks' = true)
    (r : Rps K H (okn (okS ok0 fps) fq') ys us' fq') (nd : fq'.Nodup) (sub : ∀ b ∈ fq', b ∈ fq ∨ b ∈ fp) (hp : ∀ b ∈ fp, ok0 b ∧ ∀ j, b ∉ fps j) (hσ : σ[i]? = some (some (.ref a))) :
    SR K ok0 (env.set i (some (.dct true ks' ys))) (updF fps i (a :: fq')) σ (upd H a (.dK (ks'.zip us'))) := by
  have hl : i < env.length := (List.getElem?_eq_some_iff.mp he).1
  have nda := S.nd i
  rw [hf] at nda
  have naq : a ∉ fq := (List.nodup_cons.mp nda).1
  have nap : a ∉ fp := fun z => (hp a z).2 i (by rw [hf]; exact List.mem_cons_self)
  have naq' : a ∉ fq' := fun z => (sub a z).elim naq nap
  have kp : ∀ b o, H b = some o → ¬ b = a → upd H a (.dK (ks'.zip us')) b = some o := fun b o e n => by rw [upd_ne n]; exact e
  have km : ∀ b, b = a → ∃ u, H b = some u ∧ isMu u = true := fun b e => ⟨.dK (ks.zip us), by rw [e]; exact hH, rfl⟩
  refine ⟨by rw [List.length_set]; exact S.len, fun j pv e => ?_, fun j => ?_, fun j k b h1 h2 => ?_, fun j b h1 => ?_, fun b z => ?_⟩
  · by_cases q : i = j
    · subst q
      rw [List.getElem?_set_self hl] at e
      cases e
      have e0 : updF fps i (a :: fq') i = a :: fq' := by unfold updF; rw [if_pos rfl]
      rw [e0]
      refine ⟨_, hσ, .dctO upd_same hz (r.keep (M := fun b => b = a) kp km (fun b z => ?_) (fun b z e => ?_) fun b z e => ?_)⟩
      · refine ⟨z.1.1, fun k hk => ?_⟩
        rcases updF_in hk with ⟨_, hk⟩ | ⟨_, hk⟩
        · rcases List.mem_cons.mp hk with e | hk
          · exact z.1.2 i (by rw [hf, e]; exact List.mem_cons_self)
          · exact z.2 hk
        · exact z.1.2 k hk
      · exact z.1.2 i (by rw [hf, e]; exact List.mem_cons_self)
      · rw [e] at z; exact naq' z
    · rw [List.getElem?_set_ne q] at e
      obtain ⟨w, h1, h2⟩ := S.at_ j pv e
      have e0 : updF fps i (a :: fq') j = fps j := by unfold updF; rw [if_neg (Ne.symm q)]
      rw [e0]
      refine ⟨w, h1, h2.keep (M := fun b => b = a) kp km (fun b z => ?_) (fun b z e => ?_) fun b z e => ?_⟩
      · refine ⟨z.1.1, fun k hk => ?_⟩
        rcases updF_in hk with ⟨_, hk⟩ | ⟨_, hk⟩
        · rcases List.mem_cons.mp hk with e | hk
          · exact z.2 i (by rw [hf, e]; exact List.mem_cons_self)
          · rcases sub b hk with hk | hk
            · exact z.2 i (by rw [hf]; exact List.mem_cons_of_mem _ hk)
            · exact z.1.2 hk
        · exact z.2 k hk
      · exact z.2 i (by rw [hf, e]; exact List.mem_cons_self)
      · rw [e] at z
        exact q (S.dj i j a (by rw [hf]; exact List.mem_cons_self) z)
  · unfold updF
    split
    · exact List.nodup_cons.mpr ⟨naq', nd⟩
    · exact S.nd j
  · have key : ∀ k, k ≠ i → b ∈ fps k → b ∉ a :: fq' := fun k hk hb z => by
      rcases List.mem_cons.mp z with e | z
      · exact hk (S.dj k i b hb (by rw [hf, e]; exact List.mem_cons_self))
      · rcases sub b z with z | z
        · exact hk (S.dj k i b hb (by rw [hf]; exact List.mem_cons_of_mem _ z))
        · exact (hp b z).2 k hb
    rcases updF_in h1 with ⟨e1, h1⟩ | ⟨e1, h1⟩ <;> rcases updF_in h2 with ⟨e2, h2⟩ | ⟨e2, h2⟩
    · rw [e1, e2]
    · exact absurd h1 (key k e2 h2)
    · exact absurd h2 (key j e1 h1)
    · exact S.dj j k b h1 h2
  · have up : ∀ u, H b = some u → isMu u = true → ∃ u, upd H a (.dK (ks'.zip us')) b = some u ∧ isMu u = true := fun u e m => by
      by_cases q : b = a
      · exact ⟨.dK (ks'.zip us'), by rw [q]; exact upd_same, rfl⟩
      · exact ⟨u, by rw [upd_ne q]; exact e, m⟩
    rcases updF_in h1 with ⟨e1, h1⟩ | ⟨e1, h1⟩
    · rcases List.mem_cons.mp h1 with e | h1
      · obtain ⟨o, _⟩ := S.own i a (by rw [hf]; exact List.mem_cons_self)
        exact ⟨by rw [e]; exact o.1, .dK (ks'.zip us'), by rw [e]; exact upd_same, rfl⟩
      · obtain ⟨u, q1, q2⟩ := r.dom b h1
        refine ⟨?_, up u q1 q2⟩
        rcases sub b h1 with z | z
        · exact (S.own i b (by rw [hf]; exact List.mem_cons_of_mem _ z)).1.1
        · exact (hp b z).1
    · obtain ⟨o, u, q1, q2⟩ := S.own j b h1
      exact ⟨o.1, up u q1 q2⟩
  · by_cases q : b = a
    · rw [q, upd_same] at z; cases z
    · rw [upd_ne q] at z
      exact (S.fr b z).1
end
end BW

/-! Statements do what the little language says. -/
namespace BW
open PySem PySem.Spec L2

def SQ (K : PySem.W.Frag) (ok0 : Addr → Prop) (fps : Fps) (H : Hp) (D : L2.St → Hp → Prop) (env : PEnv) : Prop := ∀ σ' H' fps', SR K ok0 env fps' σ' H' → Stp fps H fps' H' → D σ' H'
def PostS (K : PySem.W.Frag) (ca : Nat → Addr) (W : WX) (ok0 : Addr → Prop) (fps : Fps) (H : Hp) (D : Ends) : RS → Prop
  | .fl (.next env) => SQ K ok0 fps H D.nx env
  | .fl (.brk env) => SQ K ok0 fps H D.bk env
  | .fl (.cont env) => SQ K ok0 fps H D.ct env
  | .fl (.ret x) => ∀ H' v fp fps', Rp K H' (okn ok0 fp) x v fp → fp.Nodup → (∀ a ∈ fp, (∃ j, a ∈ fps j) ∨ H a = none) → Stp fps H fps' H' → D.rt v H'
  | .exc c env => ∀ (d : Unit), SQ K ok0 fps H (fun σ' H' => W (.ref (ca c)) none σ' H') env
  | .bad => False
def tS (K : PySem.W.Frag) (ca : Nat → Addr) (cl : Cl) (w : Nat) (W : WX) (s : Sm) : TS := fun D σ H => ∃ ok0 env fps, SR K ok0 env fps σ H ∧ PostS K ca W ok0 fps H D (evS cl w env s)
def tSs (K : PySem.W.Frag) (ca : Nat → Addr) (cl : Cl) (w : Nat) (W : WX) (s : Sms) : TS := fun D σ H => ∃ ok0 env fps, SR K ok0 env fps σ H ∧ PostS K ca W ok0 fps H D (evSs cl w env s)
section
variable {K : PySem.W.Frag} {ca : Nat → Addr} {W : WX} {ok0 : Addr → Prop} {fps fps' : Fps} {H H' : Hp} {D D' : Ends} {env : PEnv} {σ : L2.St}
theorem PostS.mono {r : RS} (s : Stp fps H fps' H') (h : PostS K ca W ok0 fps H D r) : PostS K ca W ok0 fps' H' D r := by
  cases r with
  | fl f =>
    cases f with
    | ret x => exact fun H2 v fp f2 r n o q => h H2 v fp f2 r n (fun a z => (o a z).elim (fun ⟨j, z⟩ => s.own j a z) fun z => .inr (s.dom a z)) (s.trans q)
    | _ => exact fun σ2 H2 f2 S q => h σ2 H2 f2 S (s.trans q)
  | exc c env => exact fun d σ2 H2 f2 S q => h d σ2 H2 f2 S (s.trans q)
  | bad => exact h
theorem Stp.same (s : Same H H') : Stp fps H fps H' := Stp.of s fun i a z => .inl ⟨i, z⟩
/-- a value is wanted -/
theorem PostS.ofv {α : Type} {r : Res α} {f : α → RS} {x : α} (h : PostS K ca W ok0 fps H D (RS.of r env f)) (e : r = .ok x) : PostS K ca W ok0 fps H D (f x) := by
  subst e
  exact h
theorem PostS.post {r : Res PV} {f : PV → RS} {ok : Addr → Prop} {Q : VK} (S : SR K ok0 env fps σ H) (h : PostS K ca W ok0 fps H D (RS.of r env f)) (k : ∀ x H' v fp, r = .ok x → Same H H' → Rp K H' (okn ok fp) x v fp → (∀ a ∈ fp, H a = none) → fp.Nodup → PostS K ca W ok0 fps H D (f x) → Q v H') :
    Post K ca (WE W σ) ok H Q r := by
  cases r with
  | ok x => exact fun H' v fp s r f n => k x H' v fp rfl s r f n h
  | exc c => exact fun d H' s => h d σ H' fps (S.same s) (Stp.same s)
  | bad => exact h
theorem PostS.posta {r : Res (List PV)} {f : List PV → RS} {ok : Addr → Prop} {Q : List V → Hp → Prop} (S : SR K ok0 env fps σ H) (h : PostS K ca W ok0 fps H D (RS.of r env f)) (k : ∀ x H' v fp, r = .ok x → Same H H' → Rps K H' (okn ok fp) x v fp → (∀ a ∈ fp, H a = none) → fp.Nodup → PostS K ca W ok0 fps H D (f x) → Q v H') :
    PostA K ca (WE W σ) ok H Q r := by
  cases r with
  | ok x => exact fun H' v fp s r f n => k x H' v fp rfl s r f n h
  | exc c => exact fun d H' s => h d σ H' fps (S.same s) (Stp.same s)
  | bad => exact h
theorem PostS.postp {α : Type} {r : Res α} {f : α → RS} {Q : α → Hp → Prop} (S : SR K ok0 env fps σ H) (h : PostS K ca W ok0 fps H D (RS.of r env f)) (k : ∀ x H', r = .ok x → Same H H' → PostS K ca W ok0 fps H D (f x) → Q x H') :
    PostP ca (WE W σ) H Q r := by
  cases r with
  | ok x => exact fun H' s => k x H' rfl s h
  | exc c => exact fun d H' s => h d σ H' fps (S.same s) (Stp.same s)
  | bad => exact h
theorem bindT_ne {t : List Nat} {v : PV} {env : PEnv} {c : Nat} : bindT t v env ≠ .exc c := fun h => by
  unfold bindT at h
  split at h
  · cases h
  · split at h
    · split at h <;> cases h
    · split at h <;> cases h
    · cases h
end
theorem PS.imp {X : Cx} {e : Stmt} {t t' : TS} (h : PS X e t) (k : ∀ D σ H, t' D σ H → t D σ H) : PS X e t' := ⟨fun pins s σ H D I q => h.run pins s σ H D I (k D σ H q)⟩
theorem PSs.imp {X : Cx} {e : List Stmt} {t t' : TS} (h : PSs X e t) (k : ∀ D σ H, t' D σ H → t D σ H) : PSs X e t' := ⟨fun pins s σ H D I q => h.run pins s σ H D I (k D σ H q)⟩
section
variable {X : Cx} {ca fa : Nat → Addr} {cl : Cl} {W : WX} {tc : Tc} {n w : Nat}
/-- a thing bound -/
theorem asg_imp {t : List Nat} {e : Ex} {D : Ends} {σ : L2.St} {H : Hp} (h : tS X.K ca cl w W (.asg t e) D σ H) : tE X.K ca cl W e σ H fun x H1 => tG X.K t x σ H1 D.nx := by
  obtain ⟨ok0, env, fps, S, hm⟩ := h
  refine ⟨env, okE ok0 fps (vE e), S.ein, S.frE, PostS.post (f := fun v => RS.of (bindT t v (aft v (vE e) env)) env fun env1 => .fl (.next env1)) S hm fun x H1 v fp e1 s1 r1 f1 n1 q1 => ?_⟩
  obtain ⟨fps2, S2, r2, sub⟩ := S.aft1 s1 r1 f1
  cases eb : bindT t x (aft x (vE e) env) with
  | ok env1 =>
    rw [eb] at q1
    refine S2.bind r2 n1 (fun a z => ⟨S.fr a (f1 a z), fun j hj => ?_⟩) eb fun σ' fps' S' own => q1 σ' H1 fps' S' (Stp.of s1 fun i a z => ?_)
    · obtain ⟨_, u, hu, _⟩ := S.own j a (sub j a hj)
      rw [f1 a z] at hu
      cases hu
    · rcases own i a z with ⟨j, z⟩ | z
      · exact .inl ⟨j, sub j a z⟩
      · exact .inr (f1 a z)
  | exc c => exact absurd eb bindT_ne
  | bad => rw [eb] at q1; exact q1.elim
/-- not a comprehension's display -/
def noLc : Expr → Bool
  | .ListComp _ _ _ _ => false
  | .SetComp _ _ _ _ => false
  | .DictComp _ _ _ _ _ => false
  | _ => true
def noTup : Expr → Bool
  | .Tuple _ _ _ => false
  | _ => true
theorem sw_no {e : Expr} {t : Option Expr} {l : Nat} {env : Env} (h : noLc e = true) : swapsWith e t l env = pure false := by
  cases e <;> first | rfl | cases h
theorem ss_no {e : Expr} {ts : List Expr} {k : Nat} {p : Pos} {env : Env} (h : noTup e = true) : swappedStores [.Tuple ts k p] e env = pure none := by
  cases e <;> first | rfl | cases h
theorem s_exps {e : Ex} {py : Expr} {pos : Pos} (h : SndE X ca cl W e py) (hn : noLc py = true) : PS X (.Expr py pos) (tS X.K ca cl w W (.ex e)) := by
  refine PS.imp (ps_expr h.pe (sw_no hn)) fun D σ H hq => ?_
  obtain ⟨ok0, env, fps, S, hm⟩ := hq
  exact ⟨env, okE ok0 fps (vE e), S.ein, S.frE, PostS.post (f := fun _ => .fl (.next env)) S hm fun x H1 v fp e1 s1 r1 f1 n1 q1 => q1 σ H1 fps (S.same s1) (Stp.same s1)⟩
theorem s_if {c : Ex} {a b : Sms} {py : Expr} {pa pb : List Stmt} {pos : Pos} (h : SndE X ca cl W c py) (ha : PSs X pa (tSs X.K ca cl w W a)) (hb : PSs X pb (tSs X.K ca cl w W b)) : PS X (.If py pa pb pos) (tS X.K ca cl w W (.ifs c a b)) := by
  refine PS.imp (ps_if h.pt ha hb) fun D σ H hq => ?_
  obtain ⟨ok0, env, fps, S, hm⟩ := hq
  refine ⟨env, okE ok0 fps (vE c), S.ein, S.frE, PostS.postp (f := fun k => if k = true then evSs cl w env a else evSs cl w env b) S hm fun k H1 e1 s1 q1 => ?_⟩
  cases k with
  | true => exact ⟨ok0, env, fps, S.same s1, PostS.mono (Stp.same s1) q1⟩
  | false => exact ⟨ok0, env, fps, S.same s1, PostS.mono (Stp.same s1) q1⟩
theorem s_nil : PSs X [] (tSs X.K ca cl w W .nil) := PSs.imp pss_nil fun D σ H ⟨ok0, env, fps, S, hm⟩ => hm σ H fps S (Stp.same (Same.refl _))
theorem s_cons {s : Sm} {ss : Sms} {py : Stmt} {pys : List Stmt} (h : PS X py (tS X.K ca cl w W s)) (hs : PSs X pys (tSs X.K ca cl w W ss)) : PSs X (py :: pys) (tSs X.K ca cl w W (.cons s ss)) := by
  refine PSs.imp (pss_cons h hs) fun D σ H hq => ?_
  obtain ⟨ok0, env, fps, S, hm⟩ := hq
  refine ⟨ok0, env, fps, S, ?_⟩
  replace hm : PostS X.K ca W ok0 fps H D ((evS cl w env s).seq fun env1 => evSs cl w env1 ss) := hm
  cases e : evS cl w env s with
  | fl f =>
    rw [e] at hm
    cases f with
    | next env1 => exact fun σ' H' fps' S' st => ⟨ok0, env1, fps', S', PostS.mono st hm⟩
    | _ => exact hm
  | exc c env1 => rw [e] at hm; exact hm
  | bad => rw [e] at hm; exact hm
theorem s_brk {pos : Pos} : PS X (.Break pos) (tS X.K ca cl w W .brk) := PS.imp ps_break fun D σ H ⟨ok0, env, fps, S, hm⟩ => hm σ H fps S (Stp.same (Same.refl _))
theorem s_cont {pos : Pos} : PS X (.Continue pos) (tS X.K ca cl w W .cont) := PS.imp ps_continue fun D σ H ⟨ok0, env, fps, S, hm⟩ => hm σ H fps S (Stp.same (Same.refl _))
theorem s_pass {pos : Pos} : PS X (.Pass pos) (tS X.K ca cl w W .pass) := PS.imp ps_pass fun D σ H ⟨ok0, env, fps, S, hm⟩ => hm σ H fps S (Stp.same (Same.refl _))
theorem s_whl {c : Ex} {b : Sms} {py : Expr} {pb : List Stmt} {pos : Pos} (hp : PassesOwn (model X.prog X.w) X.A X.env X.xe) (h : SndE X ca cl W c py) (hb : PSs X pb (tSs X.K ca cl w W b)) : PS X (.While py pb [] pos) (tS X.K ca cl w W (.whl c b)) := by
  refine PS.imp (ps_while hp h.pt hb) fun D σ H hq => ?_
  obtain ⟨ok0, env, fps, S, hm⟩ := hq
  replace hm : PostS X.K ca W ok0 fps H D (whlL (fun env => (evE cl env c).bind asB) (fun env => evSs cl w env b) w env) := hm
  refine ⟨fun m σ1 H1 => ∃ env1 fps1, SR X.K ok0 env1 fps1 σ1 H1 ∧ PostS X.K ca W ok0 fps1 H1 D (whlL (fun env => (evE cl env c).bind asB) (fun env => evSs cl w env b) m env1), ⟨w, env, fps, S, hm⟩, ?_⟩
  rintro m σ1 H1 ⟨env1, fps1, S1, h1⟩
  cases m with
  | zero => exact h1.elim
  | succ m =>
    refine ⟨env1, okE ok0 fps1 (vE c), S1.ein, S1.frE, PostS.postp S1 h1 fun k H2 e2 s2 q2 => ?_⟩
    cases k with
    | false => exact q2 σ1 H2 fps1 (S1.same s2) (Stp.same s2)
    | true =>
      rw [if_pos rfl] at q2 ⊢
      replace q2 := PostS.mono (Stp.same s2) q2
      refine ⟨fun σ' H' => ∃ env1 fps1, SR X.K ok0 env1 fps1 σ' H' ∧ PostS X.K ca W ok0 fps1 H' D (whlL (fun env => (evE cl env c).bind asB) (fun env => evSs cl w env b) m env1), fun σ' H' z => ⟨m, Nat.lt_succ_self m, z⟩, ok0, env1, fps1, S1.same s2, ?_⟩
      cases e : evSs cl w env1 b with
      | fl f =>
        simp only [e] at q2
        cases f with
        | next env2 => exact fun σ' H' fps' S' st => ⟨env2, fps', S', PostS.mono st q2⟩
        | cont env2 => exact fun σ' H' fps' S' st => ⟨env2, fps', S', PostS.mono st q2⟩
        | brk env2 => exact q2
        | ret x => exact q2
      | exc c env2 => simp only [e] at q2; exact q2
      | bad => simp only [e] at q2; exact q2
end
end BW

namespace BW
open PySem PySem.Spec L2
section
variable {X : Cx} {ca fa : Nat → Addr} {cl : Cl} {W : WX} {tc : Tc} {n w : Nat}
/-! ### for -/
theorem SR.aftI {K : PySem.W.Frag} {ok0 : Addr → Prop} {env : PEnv} {fps : Fps} {σ : L2.St} {H H1 : Hp} {is : List Nat} {x : PV} {okx : Addr → Prop} (S : SR K ok0 env fps σ H) (s : Same H H1) (h : ∀ a, okx a → (H a = none ∨ (cls x = false ∧ okE ok0 fps is a)) ∧ ∃ u, H1 a = some u) :
    ∃ fps2, SR K ok0 (BW.aft x is env) fps2 σ H1 ∧ (∀ a, okx a → okS ok0 fps2 a) ∧ (∀ i a, a ∈ fps2 i → a ∈ fps i) := by
  have fr : ∀ a, H a = none → okS ok0 fps a := fun a z => ⟨S.fr a z, fun i hi => by
    obtain ⟨_, u, hu, _⟩ := S.own i a hi
    rw [z] at hu
    cases hu⟩
  cases c : cls x with
  | true =>
    have e : BW.aft x is env = env := by
      unfold BW.aft
      rw [if_pos c]
    rw [e]
    refine ⟨fps, S.same s, fun a z => ?_, fun _ _ z => z⟩
    rcases (h a z).1 with q | q
    · exact fr a q
    · rw [c] at q; cases q.1
  | false =>
    have e : BW.aft x is env = frzV is env := by
      unfold BW.aft
      rw [if_neg (by rw [c]; decide)]
    rw [e]
    refine ⟨frzF is fps, S.frz.same s, fun a z => ?_, fun i a z => (frzF_sub z).2⟩
    rcases (h a z).1 with q | q
    · exact ⟨(fr a q).1, fun i hi => (fr a q).2 i (frzF_sub hi).2⟩
    · exact okE_S S.dj q.2
/-- the turns -/
theorem for_core {t : List Nat} {b : Sms} {J : It} {items : List PV} {env2 : PEnv} {fps2 : Fps} {ok0 okx : Addr → Prop} {σ : L2.St} {H1 : Hp} {D : Ends} (S2 : SR X.K ok0 env2 fps2 σ H1) (hokS : ∀ a, okx a → okS ok0 fps2 a) (hokx : ∀ a, okx a → ∃ u, H1 a = some u)
    (wk : Wk X.K okx (fun a => ∃ i, a ∈ fps2 i) J items H1) (hm : PostS X.K ca W ok0 fps2 H1 D (forL t (fun env => evSs cl w env b) items env2)) :
    ∃ W' : Nat → Nat → L2.St → Hp → Prop, (∃ m, W' 0 m σ H1) ∧ ∀ i m σ H, W' i m σ H → (J.stop i H ∧ D.nx σ H) ∨ (J.go i H ∧ ∃ N : L2.St → Hp → Prop, (∀ σ' H', N σ' H' → ∃ m', m' < m ∧ W' (i + 1) m' σ' H') ∧
      ∀ x H', J.yld i H x H' → tG X.K t x σ H' fun σ2 H2 => tSs X.K ca cl w W b { D with nx := N, ct := N, bk := D.nx } σ2 H2) := by
  have km : ∀ {fps' : Fps} {H' : Hp}, Stp fps2 H1 fps' H' → KeepM (fun a => ∃ i, a ∈ fps2 i) H1 H' := fun {fps' H'} st a o e n => st.keep a o e fun i z => n ⟨i, z⟩
  refine ⟨fun i m σ' H' => m = items.length - i ∧ i ≤ items.length ∧ ∃ env' fps', SR X.K ok0 env' fps' σ' H' ∧ Stp fps2 H1 fps' H' ∧ PostS X.K ca W ok0 fps' H' D (forL t (fun env => evSs cl w env b) (items.drop i) env'),
    ⟨_, rfl, Nat.zero_le _, _, fps2, S2, Stp.refl, hm⟩, ?_⟩
  rintro i m σ' H' ⟨rfl, hle, env', fps', S', st', h'⟩
  by_cases hlt : i < items.length
  · refine .inr ⟨wk.go i H' (km st') hlt, fun σ' H' => items.length - (i + 1) = items.length - (i + 1) ∧ i + 1 ≤ items.length ∧ ∃ env' fps', SR X.K ok0 env' fps' σ' H' ∧ Stp fps2 H1 fps' H' ∧ PostS X.K ca W ok0 fps' H' D (forL t (fun env => evSs cl w env b) (items.drop (i + 1)) env'), fun σ' H' z => ⟨_, by omega, z⟩, fun x H2 hy => ?_⟩
    obtain ⟨s2, pv, ei, rx⟩ := wk.yld i H' x H2 (km st') hlt hy
    have ed : items.drop i = pv :: items.drop (i + 1) := by
      rw [List.drop_eq_getElem_cons hlt]
      rw [List.getElem?_eq_getElem hlt] at ei
      cases ei
      rfl
    rw [ed] at h'
    replace h' : PostS X.K ca W ok0 fps' H' D (RS.of (bindT t pv env') env' fun env1 => match evSs cl w env1 b with
      | .fl (.next env2) => forL t (fun env => evSs cl w env b) (items.drop (i + 1)) env2
      | .fl (.cont env2) => forL t (fun env => evSs cl w env b) (items.drop (i + 1)) env2
      | .fl (.brk env2) => .fl (.next env2)
      | .fl (.ret v) => .fl (.ret v)
      | .exc e env2 => .exc e env2
      | .bad => .bad) := h'
    cases eb : bindT t pv env' with
    | exc c => exact absurd eb bindT_ne
    | bad => rw [eb] at h'; exact h'.elim
    | ok env1 =>
      rw [eb] at h'
      have S3 := S'.same s2
      have S3' : SR X.K (okn ok0 []) env' fps' σ' H2 := ⟨S3.len, fun i pv e => let ⟨v, h1, h2⟩ := S3.at_ i pv e; ⟨v, h1, h2.imp fun a z => ⟨⟨z.1, fun z => nomatch z⟩, z.2⟩⟩, S3.nd, S3.dj, fun i a z => let ⟨o, q⟩ := S3.own i a z; ⟨⟨o, fun z => nomatch z⟩, q⟩, fun a z => ⟨S3.fr a z, fun z => nomatch z⟩⟩
      have st3 : Stp fps2 H1 fps' H2 := st'.trans (Stp.same s2)
      refine S3'.bind (rx.imp fun a z => ⟨⟨(hokS a z).1, fun j hj => ?_⟩, fun z => nomatch z⟩) .nil (fun a z => nomatch z) eb fun σ2 fps4 S4 own4 => ?_
      · rcases st'.own j a hj with ⟨k, q⟩ | q
        · exact (hokS a z).2 k q
        · obtain ⟨u, hu⟩ := hokx a z
          rw [q] at hu
          cases hu
      · have st4 : Stp fps' H' fps4 H2 := Stp.of s2 fun j a z => (own4 j a z).imp (fun z => z) fun z => nomatch z
        have st5 := st'.trans st4
        replace h' := PostS.mono st4 h'
        refine ⟨ok0, env1, fps4, S4, ?_⟩
        cases e : evSs cl w env1 b with
        | fl f =>
          simp only [RS.of_ok, e] at h'
          cases f with
          | next env2 => exact fun σ3 H3 fps3 S5 st6 => ⟨rfl, hlt, env2, fps3, S5, st5.trans st6, PostS.mono st6 h'⟩
          | cont env2 => exact fun σ3 H3 fps3 S5 st6 => ⟨rfl, hlt, env2, fps3, S5, st5.trans st6, PostS.mono st6 h'⟩
          | brk env2 => exact h'
          | ret x => exact h'
        | exc c env2 => simp only [RS.of_ok, e] at h'; exact h'
        | bad => simp only [RS.of_ok, e] at h'; exact h'
  · have ei : i = items.length := by omega
    subst ei
    rw [List.drop_length] at h'
    exact .inl ⟨wk.stop _ H' (km st') (Nat.le_refl _), h' σ' H' fps' S' Stp.refl⟩

/-! ### a dict is walked: it is locked meanwhile -/
theorem SR.lk {K : PySem.W.Frag} {ok0 : Addr → Prop} {env : PEnv} {fps : Fps} {σ : L2.St} {H H' : Hp} {d : Addr} {kvs : List (DKey × V)} (k : ∀ a, a ≠ d → H' a = H a) (m : Rd H d (.dK kvs)) (m' : Rd H' d (.dK kvs)) (n : ∀ i, d ∉ fps i) (S : SR K ok0 env fps σ H) : SR K ok0 env fps σ H' where
  len := S.len
  at_ := fun i pv e => let ⟨v, h1, h2⟩ := S.at_ i pv e; ⟨v, h1, h2.lk k m m' (n i)⟩
  nd := S.nd
  dj := S.dj
  own := fun i a z => let ⟨o, u, hu, q⟩ := S.own i a z; ⟨o, u, (k a fun e => n i (by rw [← e]; exact z)).trans hu, q⟩
  fr := fun a z => by
    by_cases e : a = d
    · subst e
      rcases m' with m' | ⟨o, m'⟩ <;> rw [m'] at z <;> cases z
    · rw [k a e] at z
      exact S.fr a z
def lockD (D : Ends) (d : Addr) (od : Obj) (u : HO) : Ends := ⟨fun σ' H' => H' d = some (.frz od u) ∧ D.nx σ' (upd H' d u), fun v H' => H' d = some (.frz od u) ∧ D.rt v (upd H' d u), fun σ' H' => H' d = some (.frz od u) ∧ D.bk σ' (upd H' d u), fun σ' H' => H' d = some (.frz od u) ∧ D.ct σ' (upd H' d u)⟩
theorem PostS.lock {K : PySem.W.Frag} {ok0 : Addr → Prop} {fps : Fps} {H : Hp} {D : Ends} {d : Addr} {od : Obj} {kvs : List (DKey × V)} {r : RS} (hd : H d = some (.dK kvs)) (n : ∀ i, d ∉ fps i) (h : PostS K ca W ok0 fps H D (noXS r)) :
    PostS K ca W ok0 fps (upd H d (.frz od (.dK kvs))) (lockD D d od (.dK kvs)) r := by
  have up : ∀ {fps' : Fps} {H' : Hp}, Stp fps (upd H d (.frz od (.dK kvs))) fps' H' → H' d = some (.frz od (.dK kvs)) ∧ Stp fps H fps' (upd H' d (.dK kvs)) := fun {fps' H'} st => by
    have hd' : H' d = some (.frz od (.dK kvs)) := st.keep d _ upd_same n
    refine ⟨hd', fun a o e i => ?_, fun i a z => ?_, fun a z => ?_⟩
    · by_cases q : a = d
      · subst q
        rw [hd] at e
        cases e
        exact upd_same
      · rw [upd_ne q]
        exact st.keep a o (by rw [upd_ne q]; exact e) i
    · refine (st.own i a z).imp (fun z => z) fun z => ?_
      by_cases q : a = d
      · subst q
        rw [upd_same] at z
        cases z
      · rwa [upd_ne q] at z
    · by_cases q : a = d
      · subst q
        rw [upd_same] at z
        cases z
      · rw [upd_ne q] at z
        have z2 := st.dom a z
        rwa [upd_ne q] at z2
  have un : ∀ {env : PEnv} {σ' : L2.St} {H' : Hp} {fps' : Fps}, H' d = some (.frz od (.dK kvs)) → SR K ok0 env fps' σ' H' → SR K ok0 env fps' σ' (upd H' d (.dK kvs)) := fun {env σ' H' fps'} e S =>
    S.lk (fun a q => upd_ne q) (.inr ⟨od, e⟩) (.inl upd_same) fun i z => by
      obtain ⟨_, u, hu, q⟩ := S.own i d z
      rw [e] at hu
      cases hu
      cases q
  cases r with
  | fl f =>
    cases f with
    | next env => exact fun σ' H' fps' S st => ⟨(up st).1, h σ' _ fps' (un (up st).1 S) (up st).2⟩
    | brk env => exact fun σ' H' fps' S st => ⟨(up st).1, h σ' _ fps' (un (up st).1 S) (up st).2⟩
    | cont env => exact fun σ' H' fps' S st => ⟨(up st).1, h σ' _ fps' (un (up st).1 S) (up st).2⟩
    | ret x =>
      intro H' v fp fps' rx np o st
      refine ⟨(up st).1, h _ v fp fps' (rx.lk (fun a q => upd_ne q) (.inr ⟨od, (up st).1⟩) (.inl upd_same) fun z => ?_) np (fun a z => ?_) (up st).2⟩
      · obtain ⟨u, hu, q⟩ := rx.dom d z
        rw [(up st).1] at hu
        cases hu
        cases q
      · refine (o a z).imp (fun z => z) fun z => ?_
        by_cases q : a = d
        · subst q
          rw [upd_same] at z
          cases z
        · rwa [upd_ne q] at z
  | exc c env => exact h.elim
  | bad => exact h.elim
theorem PostS.noX {K : PySem.W.Frag} {ok0 : Addr → Prop} {fps : Fps} {H : Hp} {D : Ends} {r : RS} (h : PostS K ca W ok0 fps H D (noXS r)) : PostS K ca W ok0 fps H D r := by
  cases r with
  | fl f => exact h
  | exc c env => exact h.elim
  | bad => exact h.elim
theorem wk_keys {K : PySem.W.Frag} {okx M : Addr → Prop} {H0 : Hp} {d : Addr} {o : Obj} {ks : List DKey} {vs : List V} (h : H0 d = some (.frz o (.dK (ks.zip vs)))) (hz : ks.length = vs.length) (hk : ksB ks = true) (hM : ¬ M d) : Wk K okx M (Itk d o (ks.zip vs)) (ks.map keyP) H0 where
  go := fun i H k hi => ⟨k d _ h hM, by rw [List.length_map] at hi; rw [List.length_zip]; omega⟩
  yld := fun i H x H' k hi y => by
    obtain ⟨e, j, v, e1, e2⟩ := y
    subst e e2
    have hk' : ks.all kB = true := by
      unfold ksB at hk
      rw [Bool.and_eq_true] at hk
      exact hk.1
    have e3 : ks[i]? = some j := by
      have := congrArg (Option.map Prod.fst) e1
      rw [List.getElem?_zip_eq_some.mp e1 |>.1]
    refine ⟨Same.refl _, keyP j, by rw [List.getElem?_map, e3]; rfl, keys_rp (List.all_eq_true.mp hk' j (List.mem_of_getElem? e3))⟩
  stop := fun i H k hi => ⟨k d _ h hM, by rw [List.length_map] at hi; rw [List.length_zip]; omega⟩
theorem s_for {t : List Nat} {it : Iw} {b : Sms} {tg iter : Expr} {pb : List Stmt} {pos : Pos} (hp : PassesOwn (model X.prog X.w) X.A X.env X.xe) (hc : X.calm = true) (hi : PI X tg iter (tI X.K ca cl W it)) (hv : ∀ i, it = .ex (.var i) → PE X iter (tVar i)) (hg : PG X tg (tG X.K t)) (hb : PSs X pb (tSs X.K ca cl w W b)) (hpl : plainX iter = true) :
    PS X (.For tg iter pb [] pos) (tS X.K ca cl w W (.for_ t it b)) := by
  refine ⟨fun pins s σ H D I hq => ?_⟩
  obtain ⟨ok0, env, fps, S, hm⟩ := hq
  replace hm : PostS X.K ca W ok0 fps H D (forD (dkeys env it) (RS.of (evI cl env it) env fun hx => forL t (fun env => evSs cl w env b) hx.2 (aft hx.1 (vI it) env)) fun i ks => forL t (fun env => evSs cl w env b) ks (frzV [i] env)) := hm
  cases ed : dkeys env it with
  | none =>
    rw [ed] at hm
    replace hm : PostS X.K ca W ok0 fps H D (RS.of (evI cl env it) env fun hx => forL t (fun env => evSs cl w env b) hx.2 (aft hx.1 (vI it) env)) := hm
    refine (ps_for hp hc hi hg hb (fold_of hpl)).run pins s σ H D I ⟨env, okE ok0 fps (vI it), S.ein, S.frE, ?_⟩
    cases e1 : evI cl env it with
    | exc c => rw [e1] at hm; exact fun d H' s => hm d σ H' fps (S.same s) (Stp.same s)
    | bad => rw [e1] at hm; exact hm.elim
    | ok p =>
      rw [e1] at hm
      replace hm : PostS X.K ca W ok0 fps H D (forL t (fun env => evSs cl w env b) p.2 (aft p.1 (vI it) env)) := hm
      intro J H1 okx s1 hokx wk
      obtain ⟨fps2, S2, hokS, sub⟩ := S.aftI s1 hokx
      have wk := wk (fun a => ∃ i, a ∈ fps2 i) (fun a z ⟨i, q⟩ => (hokS a z).2 i q) (fun a ⟨i, q⟩ => (S2.own i a q).2)
      have st0 : Stp fps H fps2 H1 := Stp.of s1 fun i a z => .inl ⟨i, sub i a z⟩
      exact for_core S2 hokS (fun a z => (hokx a z).2) wk (PostS.mono st0 hm)
  | some p =>
    rw [ed] at hm
    replace hm : PostS X.K ca W ok0 fps H D (noXS (forL t (fun env => evSs cl w env b) p.2 (frzV [p.1] env))) := hm
    obtain ⟨i, ei, ep⟩ : ∃ i, it = .ex (.var i) ∧ dkV i env[i]? = some p := by
      unfold dkeys at ed
      split at ed
      · exact ⟨_, rfl, ed⟩
      · cases ed
    subst ei
    obtain ⟨o, ks, xs, ev, rfl⟩ : ∃ o ks xs, env[i]? = some (some (.dct o ks xs)) ∧ p = (i, ks.map keyP) := by
      unfold dkV at ep
      split at ep
      · rename_i o ks xs e
        exact ⟨o, ks, xs, e, (Option.some.inj ep).symm⟩
      · cases ep
    have S2 := S.frz (is := [i])
    have ev2 : (frzV [i] env)[i]? = some (some (.dct false ks (frzs xs))) := by
      rw [frzV_at, if_pos (List.mem_singleton.mpr rfl), ev]
      rfl
    obtain ⟨v, e1, r1⟩ := S2.at_ i _ ev2
    have st0 : Stp fps H (frzF [i] fps) H := Stp.of (Same.refl _) fun j a z => .inl ⟨j, (frzF_sub z).2⟩
    replace hm := PostS.mono st0 hm
    generalize hf : frzF [i] fps = fps2 at S2 r1 hm
    cases hfi : fps2 i with
    | cons a l => rw [hfi] at r1; cases r1
    | nil =>
    rw [hfi] at r1
    cases r1 with
    | @dctF d ks xs vs ht hz hok rs =>
      have pi : PI X tg iter (iKeys (tVar i)) := pi_keys (hv i rfl)
      rcases ht with ht | ⟨od, ht⟩
      · refine (ps_lock (ps_for hp hc pi hg hb (fold_of hpl))).run pins s σ H D I ⟨d, _, ht, True.intro, fun od => ⟨_, e1, d, od, rfl, .inl ⟨_, upd_same, ?_⟩⟩⟩
        exact for_core (okx := fun _ => False) (S2.lk (fun a q => upd_ne q) (.inl ht) (.inr ⟨od, upd_same⟩) hok.2) (fun _ z => z.elim) (fun _ z => z.elim) (wk_keys upd_same hz.1 hz.2 fun ⟨i, z⟩ => hok.2 i z) (PostS.lock ht hok.2 hm)
      · refine (ps_for hp hc pi hg hb (fold_of hpl)).run pins s σ H D I ⟨_, e1, d, od, rfl, .inl ⟨_, ht, ?_⟩⟩
        exact for_core (okx := fun _ => False) S2 (fun _ z => z.elim) (fun _ z => z.elim) (wk_keys ht hz.1 hz.2 fun ⟨i, z⟩ => hok.2 i z) (PostS.noX hm)

/-! ### return -/
theorem SR.move {K : PySem.W.Frag} {ok0 : Addr → Prop} {env : PEnv} {fps : Fps} {σ : L2.St} {H : Hp} {i : Nat} (S : SR K ok0 env fps σ H) : SR K (okn ok0 (fps i)) (env.set i none) (updF fps i []) σ H where
  len := by rw [List.length_set]; exact S.len
  at_ := fun j pv e => by
    by_cases q : i = j
    · subst q
      have hl : i < env.length := by
        have z := (List.getElem?_eq_some_iff.mp e).1
        rwa [List.length_set] at z
      rw [List.getElem?_set_self hl] at e
      cases e
    · rw [List.getElem?_set_ne q] at e
      obtain ⟨v, h1, h2⟩ := S.at_ j pv e
      have e0 : updF fps i [] j = fps j := by unfold updF; rw [if_neg (Ne.symm q)]
      rw [e0]
      exact ⟨v, h1, h2.imp fun a z => ⟨⟨z.1, z.2 i⟩, fun k hk => by
        rcases updF_in hk with ⟨_, hk⟩ | ⟨_, hk⟩
        · cases hk
        · exact z.2 k hk⟩⟩
  nd := fun j => by
    unfold updF
    split
    · exact .nil
    · exact S.nd j
  dj := fun j k a h1 h2 => by
    rcases updF_in h1 with ⟨_, h1⟩ | ⟨_, h1⟩
    · cases h1
    · rcases updF_in h2 with ⟨_, h2⟩ | ⟨_, h2⟩
      · cases h2
      · exact S.dj j k a h1 h2
  own := fun j a h1 => by
    rcases updF_in h1 with ⟨_, h1⟩ | ⟨ne, h1⟩
    · cases h1
    · obtain ⟨o, q⟩ := S.own j a h1
      exact ⟨⟨o, fun z => ne (S.dj j i a h1 z)⟩, q⟩
  fr := fun a z => ⟨S.fr a z, fun hi => by
    obtain ⟨_, u, hu, _⟩ := S.own i a hi
    rw [z] at hu
    cases hu⟩
/-- behind what is handed on; b: nothing that there was has changed -/
def PostM (b : Bool) (K : PySem.W.Frag) (ca : Nat → Addr) (E : XK) (ok0 : Addr → Prop) (fps : Fps) (σ : L2.St) (H : Hp) (Q : VK) : Res (PV × PEnv) → Prop
  | .ok p => ∀ H' v fp fps', (b = true → Same H H') → Stp fps H fps' H' → SR K (okn ok0 fp) p.2 fps' σ H' → Rp K H' (okn (okS ok0 fps') fp) p.1 v fp → fp.Nodup → (∀ a ∈ fp, (∃ j, a ∈ fps j) ∨ H a = none) → Q v H'
  | .exc c => ∀ (d : Unit) H', Same H H' → E (.ref (ca c)) none H'
  | .bad => False
def PostMs (b : Bool) (K : PySem.W.Frag) (ca : Nat → Addr) (E : XK) (ok0 : Addr → Prop) (fps : Fps) (σ : L2.St) (H : Hp) (Q : List V → Hp → Prop) : Res (List PV × PEnv) → Prop
  | .ok p => ∀ H' v fp fps', (b = true → Same H H') → Stp fps H fps' H' → SR K (okn ok0 fp) p.2 fps' σ H' → Rps K H' (okn (okS ok0 fps') fp) p.1 v fp → fp.Nodup → (∀ a ∈ fp, (∃ j, a ∈ fps j) ∨ H a = none) → Q v H'
  | .exc c => ∀ (d : Unit) H', Same H H' → E (.ref (ca c)) none H'
  | .bad => False
def tM (K : PySem.W.Frag) (ca : Nat → Addr) (cl : Cl) (W : WX) (e : Me) : TE := fun σ H Q => ∃ ok0 env fps, SR K ok0 env fps σ H ∧ PostM (purM e) K ca (WE W σ) ok0 fps σ H Q (evM cl env e)
def tMs (K : PySem.W.Frag) (ca : Nat → Addr) (cl : Cl) (W : WX) (e : Mes) : TA := fun σ H Q => ∃ ok0 env fps, SR K ok0 env fps σ H ∧ PostMs (purMs e) K ca (WE W σ) ok0 fps σ H Q (evMs cl env e)
theorem m_ex {e : Ex} {py : Expr} (h : SndE X ca cl W e py) : PE X py (tM X.K ca cl W (.ex e)) := PE.imp h.pe fun σ H Q hq => by
  obtain ⟨ok0, env, fps, S, hm⟩ := hq
  refine ⟨env, okE ok0 fps (vE e), S.ein, S.frE, ?_⟩
  replace hm : PostM true X.K ca (WE W σ) ok0 fps σ H Q ((evE cl env e).bind fun v => .ok (v, aft v (vE e) env)) := hm
  cases e1 : evE cl env e with
  | ok x =>
    rw [e1] at hm
    intro H1 v fp s1 r1 f1 n1
    obtain ⟨fps2, S2, r2, sub⟩ := S.aft1 s1 r1 f1
    exact hm H1 v fp fps2 (fun _ => s1) (Stp.of s1 fun i a z => .inl ⟨i, sub i a z⟩) S2 r2 n1 (fun a z => .inr (f1 a z))
  | exc c => rw [e1] at hm; exact hm
  | bad => rw [e1] at hm; exact hm.elim
theorem m_mv {i : Nat} {x : Str} {p : Pos} (C : Cok X W tc cl n ca fa) (h : nameB tc i x = true) : PE X (.Name x p) (tM X.K ca cl W (.mv i)) := by
  unfold nameB at h
  rw [Bool.and_eq_true, Bool.and_eq_true, decide_eq_true_eq] at h
  obtain ⟨h1, h2, h3⟩ := h
  have hv : Vis X.env.scope x := by
    rw [C.sc] at h2
    unfold visB at h2
    unfold Vis
    split at h2 <;> first | exact .inl (by assumption) | exact .inr (.inl (by assumption)) | exact .inr (.inr (by assumption)) | cases h2
  have ho : (x == ("__debug__" : Str)) = false ∧ (x == ("__classdict__" : Str)) = false := by
    unfold odd at h3
    rw [Bool.not_eq_true', Bool.or_eq_false_iff] at h3
    exact h3
  refine PE.imp (pe_var (by rw [← C.N]; exact h1) hv ho.1 ho.2) fun σ H Q hq => ?_
  obtain ⟨ok0, env, fps, S, hm⟩ := hq
  replace hm : PostM true X.K ca (WE W σ) ok0 fps σ H Q (match env[i]? with
    | some (some v) => .ok (v, env.set i none)
    | _ => .bad) := hm
  split at hm
  · rename_i v hv
    obtain ⟨u, e1, e2⟩ := S.at_ i v hv
    have sub : ∀ j a, a ∈ updF fps i [] j → a ∈ fps j := fun j a z => by
      rcases updF_in z with ⟨_, z⟩ | ⟨_, z⟩
      · cases z
      · exact z
    refine ⟨u, e1, hm H u (fps i) (updF fps i []) (fun _ => Same.refl _) (Stp.of (Same.refl _) fun j a z => .inl ⟨j, sub j a z⟩) S.move (e2.imp fun a z => ⟨⟨z.1, fun j hj => ?_⟩, z.2 i⟩) (S.nd i) (fun a z => .inl ⟨i, z⟩)⟩
    rcases updF_in hj with ⟨_, hj⟩ | ⟨_, hj⟩
    · cases hj
    · exact z.2 j hj
  · exact hm.elim
theorem SR.nilF {K : PySem.W.Frag} {ok0 : Addr → Prop} {env : PEnv} {fps : Fps} {σ : L2.St} {H : Hp} (S : SR K ok0 env fps σ H) : SR K (okn ok0 []) env fps σ H := S.weak fun a z => ⟨z, fun q => nomatch q⟩
theorem m_nil : PA X [] (tMs X.K ca cl W .nil) := PA.imp pa_nil fun σ H Q hq => by
  obtain ⟨ok0, env, fps, S, hm⟩ := hq
  exact hm H [] [] fps (fun _ => Same.refl _) (Stp.same (Same.refl _)) S.nilF .nil .nil (fun _ z => nomatch z)
/-- a thing told stays, where what the names have changes -/
theorem Rp.stp {K : PySem.W.Frag} {ok0 ok1 : Addr → Prop} {env1 : PEnv} {fps1 fps2 : Fps} {σ : L2.St} {H1 H2 : Hp} {x : PV} {v : V} {f1 f2 : List Addr} (S1 : SR K (okn ok0 f1) env1 fps1 σ H1) (st : Stp fps1 H1 fps2 H2) (o2 : ∀ a ∈ f2, (∃ j, a ∈ fps1 j) ∨ H1 a = none) (k : ∀ a, ok0 a → ok1 a)
    (r : Rp K H1 (okn (okS ok0 fps1) f1) x v f1) : Rp K H2 (okn (okS ok1 fps2) (f1 ++ f2)) x v f1 :=
  r.inD.keep (M := fun a => ∃ i, a ∈ fps1 i) (fun a o e n => st.keep a o e fun i hi => n ⟨i, hi⟩) (fun a ⟨i, hi⟩ => (S1.own i a hi).2) (fun a ⟨⟨⟨z1, z2⟩, z3⟩, u, hu⟩ => ⟨⟨k a z1, fun j hj => by
      rcases st.own j a hj with ⟨i, q⟩ | q
      · exact z2 i q
      · rw [q] at hu; cases hu⟩, fun hf => by
      rcases List.mem_append.mp hf with hf | hf
      · exact z3 hf
      · rcases o2 a hf with ⟨i, q⟩ | q
        · exact z2 i q
        · rw [q] at hu; cases hu⟩) (fun a ⟨⟨⟨_, z2⟩, _⟩, _⟩ ⟨i, q⟩ => z2 i q) fun a hf ⟨i, q⟩ => (S1.own i a q).1.2 hf
theorem m_cons {e : Me} {es : Mes} {py : Expr} {pys : List Expr} (h : PE X py (tM X.K ca cl W e)) (hs : PA X pys (tMs X.K ca cl W es)) (hp : plainX py = true) : PA X (py :: pys) (tMs X.K ca cl W (.cons e es)) :=
  PA.imp (pa_cons h hs (star_of hp)) fun σ H Q hq => by
    obtain ⟨ok0, env, fps, S, hm⟩ := hq
    refine ⟨ok0, env, fps, S, ?_⟩
    replace hm : PostMs (purM e && purMs es) X.K ca (WE W σ) ok0 fps σ H Q ((evM cl env e).bind fun p => (noXif (purM e) (evMs cl p.2 es)).bind fun q => .ok (p.1 :: q.1, q.2)) := hm
    cases e1 : evM cl env e with
    | exc c => rw [e1] at hm; exact hm
    | bad => rw [e1] at hm; exact hm.elim
    | ok p =>
      rw [e1] at hm
      intro H1 v f1 fps1 s1 st1 S1 r1 n1 o1
      refine ⟨okn ok0 f1, p.2, fps1, S1, ?_⟩
      replace hm : PostMs (purM e && purMs es) X.K ca (WE W σ) ok0 fps σ H Q ((noXif (purM e) (evMs cl p.2 es)).bind fun q => .ok (p.1 :: q.1, q.2)) := hm
      cases e2 : evMs cl p.2 es with
      | exc c =>
        rw [e2] at hm
        cases pe : purM e with
        | true =>
          rw [pe] at hm
          exact fun d H' s => hm d H' ((s1 pe).trans s)
        | false =>
          rw [pe] at hm
          exact hm.elim
      | bad =>
        rw [e2] at hm
        cases pe : purM e <;> rw [pe] at hm <;> exact hm.elim
      | ok q =>
        have hm : PostMs (purM e && purMs es) X.K ca (WE W σ) ok0 fps σ H Q (.ok (p.1 :: q.1, q.2)) := by
          rw [e2] at hm
          cases pe : purM e <;> rw [pe] at hm <;> exact hm
        intro H2 vs f2 fps2 s2 st2 S2 r2 n2 o2
        have d12 : ∀ a ∈ f1, a ∉ f2 := fun a z z2 => by
          rcases o2 a z2 with ⟨j, q⟩ | q
          · exact (S1.own j a q).1.2 z
          · obtain ⟨u, hu, _⟩ := r1.dom a z
            rw [q] at hu
            cases hu
        refine hm H2 (v :: vs) (f1 ++ f2) fps2 (fun z => ?_) (st1.trans st2) (S2.weak fun a z => ⟨z.1.1, fun hf => (List.mem_append.mp hf).elim z.1.2 z.2⟩) (.cons ?_ ?_) ?_ (fun a z => ?_)
        · rw [Bool.and_eq_true] at z
          exact (s1 z.1).trans (s2 z.2)
        · exact Rp.stp S1 st2 o2 (fun _ z => z) r1
        · exact r2.imp fun a z => ⟨⟨z.1.1.1, z.1.2⟩, fun hf => (List.mem_append.mp hf).elim z.1.1.2 z.2⟩
        · exact List.nodup_append.mpr ⟨n1, n2, fun a h1 b h2 e => d12 a h1 (by rw [e]; exact h2)⟩
        · rcases List.mem_append.mp z with z | z
          · exact o1 a z
          · rcases o2 a z with ⟨j, q⟩ | q
            · exact st1.own j a q
            · exact .inr (st1.dom a q)
def lenM : Mes → Nat
  | .nil => 0
  | .cons _ es => lenM es + 1
theorem evMs_len : ∀ {es : Mes} {env : PEnv} {p : List PV × PEnv}, evMs cl env es = .ok p → p.1.length = lenM es
  | .nil, env, p, h => by cases h; rfl
  | .cons e es, env, p, h => by
    obtain ⟨q, h1, h⟩ := bind_ok (show (evM cl env e).bind _ = .ok p from h)
    obtain ⟨r, h2, h⟩ := bind_ok h
    have h2 : evMs cl q.2 es = .ok r := by
      unfold noXif noX at h2
      split at h2
      · exact h2
      · split at h2
        · cases h2; assumption
        · cases h2
    cases h
    show r.1.length + 1 = lenM es + 1
    rw [evMs_len h2]
theorem m_tup {es : Mes} {xs : List Expr} {k : Nat} {p : Pos} (h : PA X xs (tMs X.K ca cl W es)) (hl : lenM es ≤ 1000) : PE X (.Tuple xs k p) (tM X.K ca cl W (.tup es)) := by
  refine PE.imp (pe_tup h) fun σ H Q hq => ?_
  obtain ⟨ok0, env, fps, S, hm⟩ := hq
  refine ⟨ok0, env, fps, S, ?_⟩
  replace hm : PostM (purMs es) X.K ca (WE W σ) ok0 fps σ H Q ((evMs cl env es).bind fun q => .ok (.tup q.1, q.2)) := hm
  cases e1 : evMs cl env es with
  | exc c => rw [e1] at hm; exact hm
  | bad => rw [e1] at hm; exact hm.elim
  | ok q =>
    rw [e1] at hm
    intro H1 vs f1 fps1 s1 st1 S1 r1 n1 o1
    refine ⟨?_, fun q hq => hm _ _ f1 fps1 (fun z => (s1 z).trans (same_upd hq)) (st1.trans (Stp.same (same_upd hq))) (S1.same (same_upd hq)) (.tup (.of upd_same) (r1.same (same_upd hq))) n1 o1⟩
    rw [← r1.len, evMs_len e1]
    exact line1000 hl
theorem s_ret {e : Me} {py : Expr} {pos : Pos} (h : PE X py (tM X.K ca cl W e)) : PS X (.Return (some py) pos) (tS X.K ca cl w W (.ret e)) := by
  refine PS.imp (ps_ret h) fun D σ H hq => ?_
  obtain ⟨ok0, env, fps, S, hm⟩ := hq
  refine ⟨ok0, env, fps, S, ?_⟩
  replace hm : PostS X.K ca W ok0 fps H D (RS.of (evM cl env e) env fun v => .fl (.ret v.1)) := hm
  cases e1 : evM cl env e with
  | exc c => rw [e1] at hm; exact fun d H' s => hm d σ H' fps (S.same s) (Stp.same s)
  | bad => rw [e1] at hm; exact hm.elim
  | ok p =>
    rw [e1] at hm
    intro H1 v fp fps1 s1 st1 S1 r1 n1 o1
    exact hm H1 v fp fps1 (r1.imp fun a z => ⟨z.1.1, z.2⟩) n1 o1 st1
theorem s_retN {pos : Pos} : PS X (.Return none pos) (tS X.K ca cl w W (.ret (.ex .non))) := PS.imp ps_retN fun D σ H ⟨ok0, env, fps, S, hm⟩ =>
  hm H .non [] fps .non .nil (fun _ z => nomatch z) (Stp.same (Same.refl _))
end
end BW

namespace BW
open PySem PySem.Spec PyProof.Rows
open L2 hiding St
/-! ### lists of one's own, changed -/
section
variable {K : PySem.W.Frag} {H : Hp} {ok : Addr → Prop}
theorem Rps.inv_app {xs ys : List PV} {us : List V} {fp : List Addr} (h : Rps K H ok (xs ++ ys) us fp) : ∃ v1 v2 f1 f2, us = v1 ++ v2 ∧ fp = f1 ++ f2 ∧ Rps K H ok xs v1 f1 ∧ Rps K H ok ys v2 f2 := by
  induction xs generalizing us fp with
  | nil => exact ⟨[], us, [], fp, rfl, rfl, .nil, h⟩
  | cons x xs ih =>
    obtain ⟨v, vs, f, fs, e1, e2, r, rs⟩ := h.inv
    obtain ⟨v1, v2, f1, f2, e3, e4, r1, r2⟩ := ih rs
    exact ⟨v :: v1, v2, f ++ f1, f2, by rw [e1, e3]; rfl, by rw [e2, e4, List.append_assoc], .cons r r1, r2⟩
theorem Rps.revO {xs : List PV} {us : List V} {fp : List Addr} (h : Rps K H ok xs us fp) : ∃ f, Rps K H ok xs.reverse us.reverse f ∧ (fp.Nodup → f.Nodup) ∧ ∀ a, a ∈ f ↔ a ∈ fp := by
  induction xs generalizing us fp with
  | nil =>
    cases h
    exact ⟨[], .nil, id, fun a => Iff.rfl⟩
  | cons x xs ih =>
    obtain ⟨v, vs, f, fs, e1, e2, r, rs⟩ := h.inv
    subst e1 e2
    obtain ⟨g, r2, n2, m2⟩ := ih rs
    refine ⟨g ++ (f ++ []), by simp only [List.reverse_cons]; exact r2.app (.cons r .nil), fun n => ?_, fun a => ?_⟩
    · obtain ⟨n1, n3, d⟩ := List.nodup_append.mp n
      rw [List.append_nil]
      exact List.nodup_append.mpr ⟨n2 n3, n1, fun a h1 b h2 e => d b h2 a ((m2 a).mp h1) e.symm⟩
    · rw [List.append_nil, List.mem_append, List.mem_append, m2 a]
      exact Or.comm
end
section
variable {X : Cx} {ca fa : Nat → Addr} {cl : Cl} {W : WX} {tc : Tc} {n w : Nat}
def rExtendR : V → List V → Hp → VK → Prop := fun x vs H Q => ∃ l b xs zs, x = .ref l ∧ vs = [.ref b] ∧ H l = some (.lst xs) ∧ Rd H b (.lst zs) ∧ xs.length + zs.length ≤ sizeLine ∧ Q .non (upd H l (.lst (xs ++ zs)))
theorem mt_extendR : MtM X "list.extend" rExtendR := by
  intro pins s σ H x vs v us Q I rx rv h
  obtain ⟨l, b, xs, zs, rfl, rfl, hH, hB, hz, q⟩ := h
  cases rx
  obtain ⟨u, rfl, ru⟩ := rv.one
  cases ru
  obtain ⟨z, its, n, r, hl, e⟩ := I.lstM hH
  obtain ⟨z2, its2, n2, r2, e2⟩ := hB.ok I.hok
  have hl2 := r2.length
  have hsz : its.toArray.size + its2.toArray.size ≤ sizeLine := by rw [List.size_toArray, List.size_toArray]; omega
  have hlong : ¬ (!its.toArray.isEmpty && Builtin.List.listTooLong (its.toArray.size + its2.toArray.size)) = true := by
    rw [notLongL hsz, Bool.and_false]
    exact Bool.false_ne_true
  refine call_meets F.slot_list_extend ⟨_, e, rfl⟩ F.entry_list_extend (F.args_list_extend_2 _ _)
    (AutoSeq1.list_extend_list_list_0 l its.toArray n b its2.toArray n2 hlong (by rw [List.size_toArray]; omega) (by omega)) ⟨e, e2, ?_⟩
  refine ⟨.non, _, I.lset (its' := its ++ its2) hH e (by simp) (r.append r2) ?_, rfl, q⟩
  rw [List.length_append]
  omega
/-- xs.remove(z), texts -/
def rRemS : V → List V → Hp → VK → Prop := fun x vs H Q => ∃ (l : Addr) (ys : List Str) (z : Str) (j : Nat), x = .ref l ∧ vs = [.str z] ∧ H l = some (.lst (ys.map V.str)) ∧ ys[j]? = some z ∧ (∀ m : Nat, m < j → ys[m]? ≠ some z) ∧ Q .non (upd H l (.lst ((ys.map V.str).eraseIdx j)))
theorem strs_at : ∀ {us : List Value} {ys : List Str} {j : Nat} {z : Str}, StrsAre us ys → ys[j]? = some z → ∃ t, us[j]? = some (.str z t)
  | _, _, j, z, .nil, h => by simp at h
  | _, _, 0, z, .cons n t k, h => by
    cases h
    exact ⟨t, rfl⟩
  | _, _, j + 1, z, .cons n t k, h => by
    obtain ⟨u, hu⟩ := strs_at (j := j) k (by simpa using h)
    exact ⟨u, by simpa using hu⟩
theorem mt_removeS : MtM X "list.remove" rRemS := by
  intro pins s σ H x xs v us Q I rx rxs h
  obtain ⟨l, ys, k, j, rfl, rfl, hH, hj, hno, q⟩ := h
  cases rx
  obtain ⟨u, rfl, ru⟩ := rxs.one
  obtain ⟨t, rfl⟩ := ru
  obtain ⟨z, its, n, r, hl, e⟩ := I.lstM hH
  have hi := Vals.strs r
  rw [List.length_map] at hl z
  have hjn : j < ys.length := (List.getElem?_eq_some_iff.mp hj).1
  have hjl : j < its.toArray.size := by rw [List.size_toArray]; omega
  refine call_meets PySem.F.slot_list_remove ⟨_, e, rfl⟩ PySem.F.entry_list_remove (PySem.F.args_list_remove_2 _ _)
    (MeetsSeq.list_remove l its.toArray n (.str k t) (isStrOf k) (fun y hy => eq_isStrOf k t hi y (by simpa using hy)) j hjl ?_ ?_ (by rw [List.size_toArray]; omega)) ⟨e, ?_⟩
  · obtain ⟨tj, hjt⟩ := strs_at hi hj
    obtain ⟨h1, h2⟩ := List.getElem?_eq_some_iff.mp hjt
    have e1 : its.toArray[j] = .str k tj := by simpa using h2
    rw [e1]
    exact beq_self_eq_true k
  · intro m hm hmj
    have hmn : m < ys.length := by omega
    obtain ⟨tm, hmt⟩ := strs_at hi (List.getElem?_eq_getElem hmn)
    obtain ⟨h1, h2⟩ := List.getElem?_eq_some_iff.mp hmt
    have e1 : its.toArray[m] = .str ys[m] tm := by simpa using h2
    rw [e1]
    refine beq_eq_false_iff_ne.mpr fun e2 => hno m hmj ?_
    rw [List.getElem?_eq_getElem hmn, e2]
  · refine ⟨.non, _, I.lset (its' := its.eraseIdx j) (t' := s.toks) hH e ?_ (r.eraseIdx j) ?_, rfl, q⟩
    · show its.toArray.eraseIdxIfInBounds j = (its.eraseIdx j).toArray
      rw [List.eraseIdxIfInBounds_toArray]
    · have := len_erase (ys.map V.str) j
      rw [List.length_map] at this
      omega
theorem rps_erase {K : PySem.W.Frag} {H : Hp} {ok : Addr → Prop} : ∀ {xs : List PV} {us : List V} (j : Nat), Rps K H ok xs us [] → Rps K H ok (xs.eraseIdx j) (us.eraseIdx j) []
  | [], _, j, r => by cases r; simp; exact .nil
  | x :: xs, _, 0, r => by
    obtain ⟨v, vs, e, r1, rs⟩ := r.inv0
    subst e
    exact rs
  | x :: xs, _, j + 1, r => by
    obtain ⟨v, vs, e, r1, rs⟩ := r.inv0
    subst e
    exact .cons0 r1 (rps_erase j rs)
theorem allS_is : ∀ {xs : List PV}, xs.all isS = true → ∃ l : List Str, xs = l.map PV.str
  | [], _ => ⟨[], rfl⟩
  | x :: xs, h => by
    rw [List.all_cons, Bool.and_eq_true] at h
    obtain ⟨l, rfl⟩ := allS_is h.2
    cases x <;> first | exact ⟨_ :: l, rfl⟩ | (have h1 := h.1; cases h1)
theorem strs_rps {K : PySem.W.Frag} {H : Hp} {ok : Addr → Prop} : ∀ {l : List Str} {us : List V} {fp : List Addr}, Rps K H ok (l.map PV.str) us fp → us = l.map V.str ∧ fp = []
  | [], _, _, r => by cases r; exact ⟨rfl, rfl⟩
  | z :: l, _, _, r => by
    obtain ⟨v, vs, f, fs, e1, e2, r1, rs⟩ := r.inv
    obtain ⟨e3, e4⟩ := strs_rps rs
    cases r1
    exact ⟨by rw [e1, e3]; rfl, by rw [e2, e4]; rfl⟩
def rMu : Mu → V → List V → Hp → VK → Prop
  | .append => rAppend
  | .extend => rExtendR
  | .pop => rPop
  | .clear => rClear
  | .reverse => rReverse
  | .remove => rRemS
/-- what a method does, in the two readings -/
theorem mu_do {K : PySem.W.Frag} {H : Hp} {ok : Addr → Prop} {okx : Addr → Prop} {m : Mu} {xs ys zs : List PV} {us vs : List V} {a : Addr} {fq fp : List Addr} {Q : VK} (e : muV m xs ys = some zs) (hH : H a = some (.lst us)) (rx : Rps K H (okn ok fp) xs us fq) (oq : ∀ b ∈ fq, ¬ ok b)
    (nq : fq.Nodup) (dq : ∀ b ∈ fp, b ∉ fq) (np : fp.Nodup) (ry : Rps K H okx ys vs fp) (ry2 : m = .append → Rps K H (okn ok fp) ys vs fp) (ry3 : m = .extend → ∀ o zs a us, ys = [.lst o zs] → vs = [.ref a] → Rd H a (.lst us) → Rps K H ok (frzs zs) us []) :
    ∃ us' fq', Rps K H (okn ok fq') zs us' fq' ∧ fq'.Nodup ∧ (∀ b ∈ fq', b ∈ fq ∨ (b ∈ fp ∧ m = .append)) ∧ ((∀ x, Q x (upd H a (.lst us'))) → rMu m (.ref a) vs H Q) := by
  cases m with
  | append =>
    match ys, e with
    | [y], e =>
      have e : (if xs.length < most then some (xs ++ [y]) else none) = some zs := e
      by_cases hl : xs.length < most
      · rw [if_pos hl] at e
        cases e
        have ry' := ry2 rfl
        obtain ⟨v, vs', f, fs, e1, e2, r, rs⟩ := ry.inv
        cases rs
        subst e1
        have k1 : Rps K H (okn ok (fq ++ fp)) xs us fq := rx.imp fun b z => ⟨z.1, fun hf => (List.mem_append.mp hf).elim (fun hf => oq b hf z.1) z.2⟩
        have k2 : Rps K H (okn ok (fq ++ fp)) [y] [v] fp := ry'.imp fun b z => ⟨z.1, fun hf => (List.mem_append.mp hf).elim (fun hf => oq b hf z.1) z.2⟩
        refine ⟨us ++ [v], fq ++ fp, k1.app k2, List.nodup_append.mpr ⟨nq, np, fun b h1 c h2 e => dq c h2 (by rw [← e]; exact h1)⟩, fun b z => (List.mem_append.mp z).imp (fun z => z) fun z => ⟨z, rfl⟩, fun q => ⟨a, us, v, rfl, rfl, hH, by rw [← rx.len, ← most_eq]; exact hl, q _⟩⟩
      · rw [if_neg hl] at e
        cases e
    | [], e => cases e
    | _ :: _ :: _, e => cases e
  | extend =>
    match ys, e with
    | [.lst o ys], e =>
      have e : (if xs.length + ys.length ≤ most then some (xs ++ frzs ys) else none) = some zs := e
      by_cases hl : xs.length + ys.length ≤ most
      · rw [if_pos hl] at e
        cases e
        obtain ⟨v, vs', f, fs, e1, e2, r, rs⟩ := ry.inv
        cases rs
        subst e1
        have go : ∀ b us2, v = .ref b → Rd H b (.lst us2) → ys.length = us2.length → ∃ us' fq', Rps K H (okn ok fq') (xs ++ frzs ys) us' fq' ∧ fq'.Nodup ∧ (∀ b ∈ fq', b ∈ fq ∨ (b ∈ fp ∧ Mu.extend = .append)) ∧ ((∀ x, Q x (upd H a (.lst us'))) → rMu .extend (.ref a) [v] H Q) := fun b us2 ev hb hlen => by
          subst ev
          have k := ry3 rfl o ys b us2 rfl rfl hb
          have k1 : Rps K H (okn ok fq) xs us fq := rx.imp fun b z => ⟨z.1, fun hf => oq b hf z.1⟩
          have k2 : Rps K H (okn ok fq) (frzs ys) us2 [] := k.imp fun b z => ⟨z, fun hf => oq b hf z⟩
          have k3 := k1.app k2
          rw [List.append_nil] at k3
          exact ⟨us ++ us2, fq, k3, nq, fun b z => .inl z, fun q => ⟨a, b, us, us2, rfl, rfl, hH, hb, by rw [← rx.len, ← hlen, ← most_eq]; exact hl, q _⟩⟩
        cases r with
        | lstF hr ho rs => exact go _ _ rfl hr rs.len
        | lstO hr rs => exact go _ _ rfl (.inl hr) rs.len
      · rw [if_neg hl] at e
        cases e
    | [], e => cases e
    | y :: _ :: _, e => cases y <;> cases e
    | [.non], e => cases e
    | [.bl _], e => cases e
    | [.int _], e => cases e
    | [.str _], e => cases e
    | [.tup _], e => cases e
    | [.dct _ _ _], e => cases e
    | [.exn _], e => cases e
  | pop =>
    match ys, e with
    | [], e =>
      have e : (if xs.length = 0 then none else some xs.dropLast) = some zs := e
      by_cases hl : xs.length = 0
      · rw [if_pos hl] at e
        cases e
      · rw [if_neg hl] at e
        cases e
        cases ry
        have ne : xs ≠ [] := fun z => hl (by rw [z]; rfl)
        obtain ⟨v1, v2, f1, f2, e1, e2, r1, r2⟩ := Rps.inv_app (by rw [List.dropLast_concat_getLast ne]; exact rx)
        obtain ⟨v, vs', f, fs, e3, e4, r, rs⟩ := r2.inv
        cases rs
        subst e3 e1
        rw [e2] at nq oq
        refine ⟨v1, f1, r1.imp fun b z => ⟨z.1, fun hf => oq b (List.mem_append_left _ hf) z.1⟩, (List.nodup_append.mp nq).1, fun b z => .inl (by rw [e2]; exact List.mem_append_left _ z), fun q => ⟨a, v1 ++ [v], v, rfl, rfl, hH, by simp, by rw [List.dropLast_concat]; exact q _⟩⟩
    | _ :: _, e => cases e
  | clear =>
    match ys, e with
    | [], e =>
      cases e
      cases ry
      exact ⟨[], [], .nil, .nil, (fun _ z => nomatch z), fun q => ⟨a, us, rfl, rfl, hH, q _⟩⟩
    | _ :: _, e => cases e
  | reverse =>
    match ys, e with
    | [], e =>
      cases e
      cases ry
      obtain ⟨f, r, n, mm⟩ := rx.revO
      exact ⟨us.reverse, f, r.imp fun b z => ⟨z.1, fun hf => oq b ((mm b).mp hf) z.1⟩, n nq, fun b z => .inl ((mm b).mp z), fun q => ⟨a, us, rfl, rfl, hH, q _⟩⟩
    | _ :: _, e => cases e
  | remove =>
    match ys, e with
    | [.str z], e =>
      have e : (if xs.all isS = true then (xs.findIdx? fun y => feq y (.str z)).map fun j => xs.eraseIdx j else none) = some zs := e
      by_cases hl : xs.all isS = true
      · rw [if_pos hl] at e
        obtain ⟨l, rfl⟩ := allS_is hl
        obtain ⟨rfl, rfl⟩ := strs_rps rx
        cases ej : (l.map PV.str).findIdx? fun y => feq y (.str z) with
        | none => rw [ej] at e; cases e
        | some j =>
          rw [ej] at e
          cases e
          obtain ⟨v, vs', f, fs, e1, e2, r, rs⟩ := ry.inv
          cases rs
          cases r
          subst e1
          obtain ⟨hj, h1, h2⟩ := List.findIdx?_eq_some_iff_getElem.mp ej
          have fe : ∀ x : Str, feq (.str x) (.str z) = true ↔ x = z := fun x => by
            show (x == z) = true ↔ _
            simp
          refine ⟨(l.map V.str).eraseIdx j, [], (rps_erase j rx).imp fun b y => ⟨y.1, fun h => nomatch h⟩, .nil, (fun _ y => nomatch y), fun q => ⟨a, l, z, j, rfl, rfl, hH, ?_, fun m hm hz => ?_, q _⟩⟩
          · rw [List.length_map] at hj
            rw [List.getElem_map] at h1
            rw [List.getElem?_eq_getElem hj, (fe _).mp h1]
          · have hml : m < l.length := (List.getElem?_eq_some_iff.mp hz).1
            have := h2 m hm
            rw [List.getElem_map, (List.getElem?_eq_some_iff.mp hz).2] at this
            exact this ((fe z).mpr rfl)
      · rw [if_neg hl] at e
        cases e
    | [], e => cases e
    | y :: _ :: _, e => cases y <;> cases e
    | [.non], e => cases e
    | [.bl _], e => cases e
    | [.int _], e => cases e
    | [.lst _ _], e => cases e
    | [.tup _], e => cases e
    | [.dct _ _ _], e => cases e
    | [.exn _], e => cases e
    | [.scr _], e => cases e
/-- a thing is told: what of the names' things stays one's own -/
theorem SR.aftG {K : PySem.W.Frag} {ok0 : Addr → Prop} {env : PEnv} {fps : Fps} {σ : L2.St} {H H1 : Hp} {is : List Nat} {fp : List Addr} (S : SR K ok0 env fps σ H) (s : Same H H1) (f : ∀ a ∈ fp, H a = none) (d : ∀ a ∈ fp, ∃ u, H1 a = some u ∧ isMu u = true) (c : PV) :
    ∃ fps2, SR K (okn ok0 fp) (BW.aft c is env) fps2 σ H1 ∧ (cls c = false → ∀ a, okE ok0 fps is a → okS ok0 fps2 a) ∧ (∀ i a, a ∈ fps2 i → a ∈ fps i) := by
  cases e : cls c with
  | true =>
    have e2 : BW.aft c is env = env := by
      unfold BW.aft
      rw [if_pos e]
    rw [e2]
    exact ⟨fps, S.avoid s f d, (fun z => nomatch z), fun _ _ z => z⟩
  | false =>
    have e2 : BW.aft c is env = frzV is env := by
      unfold BW.aft
      rw [if_neg (by rw [e]; decide)]
    rw [e2]
    exact ⟨frzF is fps, S.frz.avoid s f d, fun _ a z => okE_S S.dj z, fun i a z => (frzF_sub z).2⟩
/-- behind the arguments: the list is changed -/
theorem mut_core {m : Mu} {x : Nat} {env : PEnv} {is : List Nat} {ok0 : Addr → Prop} {fps : Fps} {σ : L2.St} {H H1 : Hp} {D : Ends} {ys : List PV} {vs : List V} {fp : List Addr} {v0 : V} (S : SR X.K ok0 env fps σ H) (s1 : Same H H1) (r1 : Rps X.K H1 (okn (okE ok0 fps is) fp) ys vs fp) (f1 : ∀ a ∈ fp, H a = none) (n1 : fp.Nodup)
    (hv : σ[x]? = some (some v0)) (q : PostS X.K ca W ok0 fps H D (muS x m ys (aft (.tup (kept m ys)) is env))) : rMu m v0 vs H1 fun _ H3 => D.nx σ H3 := by
  obtain ⟨fps2, S2, imp2, sub⟩ := S.aftG (is := is) s1 f1 r1.dom (.tup (kept m ys))
  have c2 : cls (.tup (kept m ys)) = clss (kept m ys) := rfl
  rw [c2] at imp2
  generalize he : aft (.tup (kept m ys)) is env = env2 at q S2
  unfold muS at q
  split at q
  · rename_i xs ex
    split at q
    · rename_i zs ez
      obtain ⟨v, e1, e2⟩ := S2.at_ x _ ex
      rw [hv] at e1
      cases e1
      generalize hf : fps2 x = fx at e2
      cases e2 with
      | lstO hH rx =>
        rename_i a us fq
        have nda := S2.nd x
        rw [hf] at nda
        have ax : a ∈ fps2 x := by rw [hf]; exact List.mem_cons_self
        have frf : ∀ b ∈ fp, ∀ j, b ∉ fps j := fun b hb j hj => by
          obtain ⟨_, u, hu, _⟩ := S.own j b hj
          rw [f1 b hb] at hu
          cases hu
        have dq : ∀ b ∈ fp, b ∉ fq := fun b hb hq => frf b hb x (sub x b (by rw [hf]; exact List.mem_cons_of_mem _ hq))
        have ry2 : m = .append → Rps X.K H1 (okn (okS ok0 fps2) fp) ys vs fp := fun e => by
          subst e
          cases c : clss ys with
          | true => exact r1.free c
          | false => exact r1.imp fun b z => ⟨imp2 c b z.1, z.2⟩
        have ry3 : m = .extend → ∀ o zs a us, ys = [.lst o zs] → vs = [.ref a] → Rd H1 a (.lst us) → Rps X.K H1 (okS ok0 fps2) (frzs zs) us [] := fun e o zs a us e1 e2 e3 => by
          subst e e1 e2
          have fz : Rps X.K H1 (okE ok0 fps is) (frzs zs) us [] := by
            obtain ⟨v, vs', f, fs, e4, e5, r, rs⟩ := r1.inv
            cases e4
            cases rs
            have ff : ∀ b ∈ f, H b = none := fun b hb => f1 b (by rw [e5]; exact List.mem_append_left _ hb)
            have fin : ∀ us2 f2, Rps X.K H1 (okn (okE ok0 fps is) fp) zs us2 f2 → (∀ b ∈ f2, b ∈ f) → us2 = us → Rps X.K H1 (okE ok0 fps is) (frzs zs) us [] := fun us2 f2 r sb e => by
              subst e
              exact r.frz (fun _ z => z.1) fun b hb => S.frE b (ff b (sb b hb))
            cases r with
            | lstF hr ho rs =>
              refine fin _ _ rs (fun _ z => nomatch z) ?_
              rcases hr with hr | ⟨o1, hr⟩ <;> rcases e3 with e3 | ⟨o2, e3⟩ <;> (rw [hr] at e3; cases e3 <;> rfl)
            | lstO hr rs =>
              refine fin _ _ rs (fun b z => List.mem_cons_of_mem _ z) ?_
              rcases e3 with e3 | ⟨o2, e3⟩ <;> (rw [hr] at e3; cases e3 <;> rfl)
          cases c : clss (frzs zs) with
          | true => exact fz.free c
          | false => exact fz.imp fun b z => imp2 c b z
        obtain ⟨us', fq', r2, n2, o2, d2⟩ := mu_do (K := X.K) (ok := okS ok0 fps2) (okx := okn (okE ok0 fps is) fp) (m := m) (fp := fp) (ys := ys) (vs := vs) (Q := fun _ H3 => D.nx σ H3) ez hH (fq := fq)
          (rx.imp fun b z => ⟨⟨z.1.1, z.2⟩, z.1.2⟩) (fun b hb z => z.2 x (by rw [hf]; exact List.mem_cons_of_mem _ hb)) (List.nodup_cons.mp nda).2 dq n1 r1 ry2 ry3
        refine d2 fun y => ?_
        have hp : ∀ b ∈ fp, ok0 b ∧ ∀ j, b ∉ fps2 j := fun b hb => ⟨S.fr b (f1 b hb), fun j hj => frf b hb j (sub j b hj)⟩
        refine q σ _ _ (S2.mut (fq := fq) (fq' := fq') (fp := fp) ex hf hH r2 n2 (fun b z => (o2 b z).imp (fun z => z) fun z => z.1) hp hv) ⟨fun b o hb hn => ?_, fun i b hb => ?_, fun b hb => ?_⟩
        · have : b ≠ a := fun e => hn x (sub x b (by rw [e]; exact ax))
          rw [upd_ne this]
          exact s1 b o hb
        · rcases updF_in hb with ⟨e, hb⟩ | ⟨e, hb⟩
          · rcases List.mem_cons.mp hb with e2 | hb
            · exact .inl ⟨x, sub x b (by rw [e2]; exact ax)⟩
            · rcases o2 b hb with hb | hb
              · exact .inl ⟨x, sub x b (by rw [hf]; exact List.mem_cons_of_mem _ hb)⟩
              · exact .inr (f1 b hb.1)
          · exact .inl ⟨i, sub i b hb⟩
        · by_cases e : b = a
          · rw [e, upd_same] at hb
            cases hb
          · rw [upd_ne e] at hb
            exact s1.free hb
    · exact q.elim
  · exact q.elim
/-- the list, then the arguments -/
theorem mut_imp {m : Mu} {x : Nat} {es : Exs} {D : Ends} {σ : L2.St} {H : Hp} (h : tS X.K ca cl w W (.mut x m es) D σ H) : ∃ v0, σ[x]? = some (some v0) ∧ tyV X.K "list" v0 H ∧ tAs X.K ca cl W es σ H fun vs H1 => rMu m v0 vs H1 fun _ H3 => D.nx σ H3 := by
  obtain ⟨ok0, env, fps, S, hm⟩ := h
  replace hm : PostS X.K ca W ok0 fps H D (if hasL env x = true then RS.of (evEs cl env es) env fun vs => muS x m vs (aft (.tup (kept m vs)) (vEs es) env) else .bad) := hm
  by_cases hx : hasL env x = true
  · rw [if_pos hx] at hm
    unfold hasL at hx
    split at hx
    · rename_i o xs ex
      obtain ⟨v0, e1, e2⟩ := S.at_ x _ ex
      generalize fps x = fx at e2
      refine ⟨v0, e1, ?_, env, okE ok0 fps (vEs es), S.ein, S.frE, PostS.posta S hm fun ys H1 vs fp _ s1 r1 f1 n1 q1 => mut_core S s1 r1 f1 n1 e1 q1⟩
      cases e2 with
      | lstF hr _ _ => exact .inl ⟨rfl, _, .inl hr⟩
      | lstO hr _ => exact .inl ⟨rfl, _, .inl (.inl hr)⟩
    · cases hx
  · rw [if_neg hx] at hm
    exact hm.elim
def muName : Mu → Str
  | .append => "append"
  | .extend => "extend"
  | .pop => "pop"
  | .clear => "clear"
  | .reverse => "reverse"
  | .remove => "remove"
theorem name_of (C : Cok X W tc cl n ca fa) {i : Nat} {x : Str} {p : Pos} (h : nameB tc i x = true) : PE X (.Name x p) (tVar i) := by
  unfold nameB at h
  rw [Bool.and_eq_true, Bool.and_eq_true, decide_eq_true_eq] at h
  obtain ⟨h1, h2, h3⟩ := h
  have hv : Vis X.env.scope x := by
    rw [C.sc] at h2
    unfold visB at h2
    unfold Vis
    split at h2 <;> first | exact .inl (by assumption) | exact .inr (.inl (by assumption)) | exact .inr (.inr (by assumption)) | cases h2
  have ho : (x == ("__debug__" : Str)) = false ∧ (x == ("__classdict__" : Str)) = false := by
    unfold odd at h3
    rw [Bool.not_eq_true', Bool.or_eq_false_iff] at h3
    exact h3
  exact pe_var (by rw [← C.N]; exact h1) hv ho.1 ho.2
theorem var_of (C : Cok X W tc cl n ca fa) {i : Nat} {py : Expr} (h : ckI tc (.ex (.var i)) py = true) : PE X py (tVar i) := by
  replace h : ckE tc (.var i) py = true := (Bool.and_eq_true _ _ ▸ (show (plainX py && ckE tc (.var i) py) = true from h)).2
  cases py with
  | Name x p => exact name_of C h
  | _ => cases h
theorem few_of {e : Expr} {env : Env} {cpos : Pos} (h : plainX e = true) : ((backTo cpos (starEach [e] env)).all (fun x => !x.1) && (backToKw cpos (keywordEach [] env)).all (fun x => x.1.isSome)
      && decide (([e] : List Expr).length + ([] : List Keyword).length + (if ([] : List Keyword).isEmpty then 0 else 1) < 30)) = true := by
  rw [star_of h]
  rfl
/-- x.m(e), x.m() -/
theorem s_mut1 {m : Mu} {id : String} {x : Nat} {e : Ex} {y : Str} {py : Expr} {p apos cpos pos : Pos} (C : Cok X W tc cl n ca fa) (slot : Slot "list" (muName m) id) (hty : typeOf (.builtin id) = pure (.type "method_descriptor")) (hm : MtR X id (rMu m))
    (hn : nameB tc x y = true) (h : PA X [py] (tAs X.K ca cl W (.cons e .nil))) (hp : plainX py = true) (hl : (apos.endLine == cpos.line) = true) : PS X (.Expr (.Call (.Attribute (.Name y p) (muName m) apos) [py] [] cpos) pos) (tS X.K ca cl w W (.mut x m (.cons e .nil))) := by
  refine PS.imp (ps_expr (pe_bm PySem.F.plainAttrs_list slot hty hm (name_of C hn) h rfl (few_of hp) hl (star_of hp) rfl) (sw_no rfl)) fun D σ H hq => ?_
  obtain ⟨v0, e1, e2, e3⟩ := mut_imp hq
  exact ⟨v0, e1, e2, e3⟩
theorem s_mut0 {m : Mu} {id : String} {x : Nat} {y : Str} {p apos cpos pos : Pos} (C : Cok X W tc cl n ca fa) (slot : Slot "list" (muName m) id) (hty : typeOf (.builtin id) = pure (.type "method_descriptor")) (hm : MtR X id (rMu m))
    (hn : nameB tc x y = true) (hl : (apos.endLine == cpos.line) = true) : PS X (.Expr (.Call (.Attribute (.Name y p) (muName m) apos) [] [] cpos) pos) (tS X.K ca cl w W (.mut x m .nil)) := by
  refine PS.imp (ps_expr (pe_bm0 PySem.F.plainAttrs_list slot hty hm (name_of C hn) rfl hl) (sw_no rfl)) fun D σ H hq => ?_
  obtain ⟨v0, e1, e2, env, ok, hi, fr, hp⟩ := mut_imp hq
  exact ⟨v0, e1, e2, hp H [] [] (Same.refl _) .nil (fun _ z => nomatch z) .nil⟩
/-! ### d[k] = v -/
theorem PostS.post2 {K : PySem.W.Frag} {ok0 : Addr → Prop} {fps : Fps} {H H1 : Hp} {D : Ends} {env : PEnv} {σ : L2.St} {r : Res PV} {f : PV → RS} {ok : Addr → Prop} {Q : VK} (S : SR K ok0 env fps σ H1) (s1 : Same H H1) (h : PostS K ca W ok0 fps H D (RS.of r env f)) (k : ∀ x H' v fp, r = .ok x → Same H1 H' → Rp K H' (okn ok fp) x v fp → (∀ a ∈ fp, H1 a = none) → fp.Nodup → PostS K ca W ok0 fps H D (f x) → Q v H') :
    Post K ca (WE W σ) ok H1 Q r := by
  cases r with
  | ok x => exact fun H' v fp s r f n => k x H' v fp rfl s r f n h
  | exc c => exact fun d H' s => h d σ H' fps (S.same s) (Stp.same (s1.trans s))
  | bad => exact h
theorem put_imp {x : Nat} {k e : Ex} {D : Ends} {σ : L2.St} {H : Hp} (h : tS X.K ca cl w W (.put x k e) D σ H) : sDPut (tVar x) (tE X.K ca cl W k) (tE X.K ca cl W e) D σ H := by
  obtain ⟨ok0, env, fps, S, hm⟩ := h
  replace hm : PostS X.K ca W ok0 fps H D (if hasD env x = true then RS.of (evE cl env e) env fun v => RS.of (evE cl env k) env fun j => putS x (frz j) v (aft v (vE e) env) else .bad) := hm
  by_cases hx : hasD env x = true
  · rw [if_pos hx] at hm
    have hd : ∃ v0, σ[x]? = some (some v0) := by
      unfold hasD at hx
      split at hx
      · rename_i o ks xs ex
        obtain ⟨v0, e1, _⟩ := S.at_ x _ ex
        exact ⟨v0, e1⟩
      · cases hx
    obtain ⟨v0, e0⟩ := hd
    refine ⟨env, okE ok0 fps (vE e), S.ein, S.frE, PostS.post (f := fun v => RS.of (evE cl env k) env fun j => putS x (frz j) v (aft v (vE e) env)) S hm fun y H1 v fp _ s1 r1 f1 n1 q1 => ?_⟩
    refine ⟨v0, e0, env, okE ok0 fps (vE k), (S.same s1).ein, (S.same s1).frE, PostS.post2 (f := fun j => putS x (frz j) y (aft y (vE e) env)) (S.same s1) s1 q1 fun jv H3 u f3 _ s3 r3 f3n n3 q3 => ?_⟩
    obtain ⟨fps2, S2, imp2, sub⟩ := S.aftG (is := vE e) s1 f1 r1.dom y
    generalize he : aft y (vE e) env = env2 at q3 S2
    unfold putS at q3
    split at q3
    · rename_i ks xs ex
      split at q3
      · rename_i j ej
        by_cases hl : ks.length < most
        · rw [if_pos hl] at q3
          have S3 := S2.same s3
          obtain ⟨v1, e1, e2⟩ := S3.at_ x _ ex
          rw [e0] at e1
          cases e1
          generalize hf : fps2 x = fx at e2
          cases e2 with
          | dctO hH hz rx =>
            rename_i a us fq
            have nda := S3.nd x
            rw [hf] at nda
            have ax : a ∈ fps2 x := by rw [hf]; exact List.mem_cons_self
            have frf : ∀ b ∈ fp, ∀ i, b ∉ fps i := fun b hb i hi => by
              obtain ⟨_, o, ho, _⟩ := S.own i b hi
              rw [f1 b hb] at ho
              cases ho
            have dq : ∀ b ∈ fp, b ∉ fq := fun b hb hq => frf b hb x (sub x b (by rw [hf]; exact List.mem_cons_of_mem _ hq))
            have ry : Rp X.K H3 (okn (okS ok0 fps2) fp) y v fp := by
              refine Rp.same s3 ?_
              cases c : cls y with
              | true => exact r1.free c
              | false => exact r1.imp fun b z => ⟨imp2 c b z.1, z.2⟩
            have r3' := (r3.frz (ok' := fun b => okE ok0 fps (vE k) b ∨ b ∈ f3) (fun b z => .inl z.1) fun b z => .inr z)
            obtain ⟨eu, _, _⟩ := key_rp r3' ej
            obtain ⟨us', fq', g1, g2, g3, g4, g5⟩ := put_rep (j := j) (K := X.K) (ok := okn (okS ok0 fps2) fp) ry (rx.imp fun b z => ⟨⟨z.1.1, z.2⟩, z.1.2⟩) hz (kB_of r3' ej)
            have nq := g5 (List.nodup_cons.mp nda).2 n1 dq
            have hp : ∀ b ∈ fp, ok0 b ∧ ∀ i, b ∉ fps2 i := fun b hb => ⟨S.fr b (f1 b hb), fun i hi => frf b hb i (sub i b hi)⟩
            refine ⟨a, upd H3 a (.dK ((putD ks xs j y).1.zip us')), rfl, .inl ⟨ks.zip us, j, hH, eu, ?_, by rw [g1]⟩, ?_⟩
            · rw [List.length_zip, ← hz.1, Nat.min_self, ← most_eq]
              exact hl
            · refine q3 σ _ _ (S3.mutD (fq := fq) (fq' := fq') (fp := fp) ex hf hH g2 (g3.imp fun b z => ⟨z.1, fun hb => ?_⟩) nq g4 hp e0) ⟨fun b o hb hn => ?_, fun i b hb => ?_, fun b hb => ?_⟩
              · rcases g4 b hb with hb | hb
                · exact z.1.2 x (by rw [hf]; exact List.mem_cons_of_mem _ hb)
                · exact z.2 hb
              · have : b ≠ a := fun e => hn x (sub x b (by rw [e]; exact ax))
                rw [upd_ne this]
                exact s3 b o (s1 b o hb)
              · rcases updF_in hb with ⟨e, hb⟩ | ⟨e, hb⟩
                · rcases List.mem_cons.mp hb with e2 | hb
                  · exact .inl ⟨x, sub x b (by rw [e2]; exact ax)⟩
                  · rcases g4 b hb with hb | hb
                    · exact .inl ⟨x, sub x b (by rw [hf]; exact List.mem_cons_of_mem _ hb)⟩
                    · exact .inr (f1 b hb)
                · exact .inl ⟨i, sub i b hb⟩
              · by_cases e : b = a
                · rw [e, upd_same] at hb
                  cases hb
                · rw [upd_ne e] at hb
                  exact s1.free (s3.free hb)
        · rw [if_neg hl] at q3
          exact q3.elim
      · exact q3.elim
    · exact q3.elim
  · rw [if_neg hx] at hm
    exact hm.elim
theorem sw_sub {e o i : Expr} {p : Pos} {l : Nat} {env : Env} : swapsWith e (some (.Subscript o i p)) l env = pure false := by
  cases e <;> rfl
theorem nosl_of {e : Expr} (h : plainX e = true) : NoSl e := fun o i => by
  cases e <;> first | rfl | cases h
theorem s_put {x : Nat} {k e : Ex} {y : Str} {pk pv : Expr} {p p2 pos : Pos} (C : Cok X W tc cl n ca fa) (hn : nameB tc x y = true) (hk : SndE X ca cl W k pk) (he : SndE X ca cl W e pv) : PS X (.Assign [.Subscript (.Name y p) pk p2] pv pos) (tS X.K ca cl w W (.put x k e)) :=
  PS.imp (ps_dput (by have := C.room.units; omega) (name_of C hn) hk.pe he.pe sw_sub) fun D σ H hq => put_imp hq
end
end BW

/-! Changes at a place within a value; d.update(e). -/
namespace BW
open PySem PySem.Spec PyProof.Rows
open L2 hiding St
section
variable {K : PySem.W.Frag} {H : Hp} {ok : Addr → Prop}
theorem childs : ∀ {xs : List PV} {us : List V} {fq : List Addr} {n : Nat} {z : PV}, Rps K H ok xs us fq → xs[n]? = some z → fq.Nodup → (∀ b, ok b → b ∉ fq) → ∃ u g, us[n]? = some u ∧ Rp K H ok z u g ∧ (∀ b ∈ g, b ∈ fq) ∧ g.Nodup ∧
    ∀ (H' : Hp) (ok' : Addr → Prop) (z' : PV) (g' : List Addr), (∀ b o, H b = some o → b ∉ g → H' b = some o) → (∀ b, ok b → ok' b) → Rp K H' ok' z' u g' → g'.Nodup → (∀ b ∈ g', b ∈ g ∨ b ∉ fq) → ∃ fq', Rps K H' ok' (xs.set n z') us fq' ∧ fq'.Nodup ∧ ∀ b ∈ fq', b ∈ fq ∨ b ∈ g'
  | [], us, fq, n, z, r, e, nd, ho => by simp at e
  | x :: xs, us, fq, 0, z, r, e, nd, ho => by
    obtain ⟨v, vs, f, fs, e1, e2, r1, rs⟩ := r.inv
    subst e1 e2
    simp at e
    subst e
    obtain ⟨n1, n2, d⟩ := List.nodup_append.mp nd
    refine ⟨v, f, rfl, r1, fun b z => List.mem_append_left _ z, n1, fun H' ok' z' g' k ko r' n' s' => ?_⟩
    refine ⟨g' ++ fs, .cons r' (rs.keep (M := fun b => b ∈ f) k r1.dom ko (fun b hb hf => ho b hb (List.mem_append_left _ hf)) fun b hb hf => d b hf b hb rfl), List.nodup_append.mpr ⟨n', n2, fun a ha b hb e => ?_⟩, fun b z => ?_⟩
    · subst e
      rcases s' a ha with z | z
      · exact d a z a hb rfl
      · exact z (List.mem_append_right _ hb)
    · rcases List.mem_append.mp z with z | z
      · exact .inr z
      · exact .inl (List.mem_append_right _ z)
  | x :: xs, us, fq, n + 1, z, r, e, nd, ho => by
    obtain ⟨v, vs, f, fs, e1, e2, r1, rs⟩ := r.inv
    subst e1 e2
    obtain ⟨n1, n2, d⟩ := List.nodup_append.mp nd
    obtain ⟨u, g, h1, h2, h3, h4, back⟩ := childs (n := n) rs (by simpa using e) n2 fun b hb hf => ho b hb (List.mem_append_right _ hf)
    refine ⟨u, g, by simpa using h1, h2, fun b z => List.mem_append_right _ (h3 b z), h4, fun H' ok' z' g' k ko r' n' s' => ?_⟩
    obtain ⟨fq', k1, k2, k3⟩ := back H' ok' z' g' k ko r' n' fun b hb => (s' b hb).imp (fun z => z) fun z hz => z (List.mem_append_right _ hz)
    refine ⟨f ++ fq', .cons (r1.keep (M := fun b => b ∈ g) k h2.dom ko (fun b hb hg => ho b hb (List.mem_append_right _ (h3 b hg))) fun b hb hg => d b hb b (h3 b hg) rfl) k1, List.nodup_append.mpr ⟨n1, k2, fun a ha b hb e => ?_⟩, fun b z => ?_⟩
    · subst e
      rcases k3 a hb with z | z
      · exact d a ha a z rfl
      · rcases s' a z with z | z
        · exact d a ha a (h3 a z) rfl
        · exact z (List.mem_append_left _ ha)
    · rcases List.mem_append.mp z with z | z
      · exact .inl (List.mem_append_left _ z)
      · exact (k3 b z).imp (fun z => List.mem_append_right _ z) fun z => z
theorem dlook_at {j : DKey} {z : PV} : ∀ {ks : List DKey} {xs : List PV}, ks.Nodup → dlook ks xs j = some z → ∃ n, ks[n]? = some j ∧ xs[n]? = some z ∧ ∀ y, dset ks xs j y = xs.set n y
  | [], xs, _, e => by cases xs <;> cases e
  | k :: ks, [], _, e => by cases e
  | k :: ks, x :: xs, nd, e => by
    obtain ⟨n1, n2⟩ := List.nodup_cons.mp nd
    have e : (if k = j then some x else dlook ks xs j) = some z := e
    by_cases q : k = j
    · rw [if_pos q] at e
      have e := Option.some.inj e
      subst e
      refine ⟨0, by rw [q]; rfl, rfl, fun y => ?_⟩
      show (if k = j then y else x) :: dset ks xs j y = y :: xs
      rw [if_pos q, dset_not (by rw [← q]; exact n1)]
    · rw [if_neg q] at e
      obtain ⟨n, h1, h2, h3⟩ := dlook_at n2 e
      exact ⟨n + 1, h1, h2, fun y => by
        show (if k = j then y else x) :: dset ks xs j y = x :: xs.set n y
        rw [if_neg q, h3]⟩
theorem valV_at {j : DKey} {u : V} : ∀ {ks : List DKey} {us : List V} {n : Nat}, ks.Nodup → ks[n]? = some j → us[n]? = some u → valV (ks.zip us) j = some u
  | [], _, n, _, e, _ => by simp at e
  | k :: ks, [], n, _, _, e => by simp at e
  | k :: ks, v :: us, 0, nd, e1, e2 => by
    cases e1
    cases e2
    exact valV_pos (p := (_, _)) rfl
  | k :: ks, v :: us, n + 1, nd, e1, e2 => by
    obtain ⟨n1, n2⟩ := List.nodup_cons.mp nd
    have e1 : ks[n]? = some j := by simpa using e1
    have ne : k ≠ j := fun e => n1 (by rw [e]; exact List.mem_of_getElem? e1)
    exact (valV_neg (p := (k, v)) ne).trans (valV_at n2 e1 (by simpa using e2))
/-- what is read at a key -/
def RdK (K : PySem.W.Frag) (H : Hp) (v : V) (k : PV) (u : V) : Prop := (∃ a us i, v = .ref a ∧ k = .int i ∧ (H a = some (.lst us) ∨ SqT K H a us) ∧ atI us i = some u) ∨ ∃ a kvs j, v = .ref a ∧ keyV k = some j ∧ H a = some (.dK kvs) ∧ valV kvs j = some u
theorem atI_some {α : Type} {xs : List α} {i : Int} {z : α} (e : atI xs i = some z) : ∃ n, ixN xs.length i = some n ∧ xs[n]? = some z := by
  unfold atI at e
  cases q : ixN xs.length i with
  | none => rw [q] at e; cases e
  | some n => rw [q] at e; exact ⟨n, rfl, e⟩
theorem setI_eq {xs : List PV} {i : Int} {n : Nat} {y : PV} (h : ixN xs.length i = some n) : setI xs i y = xs.set n y := by
  unfold setI
  rw [h]
theorem child {y kk z : PV} {v : V} {f : List Addr} (r : Rp K H ok y v f) (e : getK y kk = some z) (nd : f.Nodup) (ho : ∀ b, ok b → b ∉ f) : ∃ u g, RdK K H v kk u ∧ Rp K H ok z u g ∧ (∀ b ∈ g, b ∈ f) ∧ g.Nodup ∧
    ∀ (H' : Hp) (ok' : Addr → Prop) (z' : PV) (g' : List Addr), (∀ b o, H b = some o → b ∉ g → H' b = some o) → (∀ b, ok b → ok' b) → Rp K H' ok' z' u g' → g'.Nodup → (∀ b ∈ g', b ∈ g ∨ b ∉ f) → ∃ f', Rp K H' ok' (setK y kk z') v f' ∧ f'.Nodup ∧ ∀ b ∈ f', b ∈ f ∨ b ∈ g' := by
  cases r with
  | @lstO a xs us fq hH rs =>
    cases kk with
    | int i =>
      obtain ⟨n, hn, en⟩ := atI_some (show atI xs i = some z from e)
      obtain ⟨n1, n2⟩ := List.nodup_cons.mp nd
      obtain ⟨u, g, h1, h2, h3, h4, back⟩ := childs rs en n2 fun b hb hf => ho b hb (List.mem_cons_of_mem _ hf)
      refine ⟨u, g, .inl ⟨a, us, i, rfl, rfl, .inl hH, ?_⟩, h2, fun b z => List.mem_cons_of_mem _ (h3 b z), h4, fun H' ok' z' g' k ko r' n' s' => ?_⟩
      · unfold atI
        rw [← rs.len, hn]
        exact h1
      · obtain ⟨fq', k1, k2, k3⟩ := back H' ok' z' g' k ko r' n' fun b hb => (s' b hb).imp (fun z => z) fun z hz => z (List.mem_cons_of_mem _ hz)
        have es : setK (.lst true xs) (.int i) z' = .lst true (xs.set n z') := congrArg (PV.lst true) (setI_eq hn)
        rw [es]
        have na : a ∉ g := fun z => n1 (h3 a z)
        refine ⟨a :: fq', .lstO (k _ _ hH na) k1, List.nodup_cons.mpr ⟨fun z => ?_, k2⟩, fun b z => ?_⟩
        · rcases k3 a z with z | z
          · exact n1 z
          · rcases s' a z with z | z
            · exact na z
            · exact z List.mem_cons_self
        · rcases List.mem_cons.mp z with e | z
          · exact .inl (by rw [e]; exact List.mem_cons_self)
          · exact (k3 b z).imp (fun z => List.mem_cons_of_mem _ z) fun z => z
    | _ => cases e
  | @tup a xs us fq hs rs =>
    cases kk with
    | int i =>
      obtain ⟨n, hn, en⟩ := atI_some (show atI xs i = some z from e)
      obtain ⟨u, g, h1, h2, h3, h4, back⟩ := childs rs en nd ho
      refine ⟨u, g, .inl ⟨a, us, i, rfl, rfl, .inr hs, ?_⟩, h2, h3, h4, fun H' ok' z' g' k ko r' n' s' => ?_⟩
      · unfold atI
        rw [← rs.len, hn]
        exact h1
      · obtain ⟨fq', k1, k2, k3⟩ := back H' ok' z' g' k ko r' n' s'
        have es : setK (.tup xs) (.int i) z' = .tup (xs.set n z') := congrArg PV.tup (setI_eq hn)
        rw [es]
        exact ⟨fq', .tup (sqT_keep (M := fun b => b ∈ g) k h2.dom hs) k1, k2, k3⟩
    | _ => cases e
  | @dctO a ks xs us fq hH hz rs =>
    have e : (match keyV kk with | some j => dlook ks xs j | none => none) = some z := e
    cases ek : keyV kk with
    | none => rw [ek] at e; cases e
    | some j =>
      rw [ek] at e
      have kn : ks.Nodup := by
        have hb := hz.2
        unfold ksB at hb
        rw [Bool.and_eq_true, decide_eq_true_eq] at hb
        exact hb.2
      obtain ⟨n, e1, e2, e3⟩ := dlook_at kn e
      obtain ⟨n1, n2⟩ := List.nodup_cons.mp nd
      obtain ⟨u, g, h1, h2, h3, h4, back⟩ := childs rs e2 n2 fun b hb hf => ho b hb (List.mem_cons_of_mem _ hf)
      refine ⟨u, g, .inr ⟨a, ks.zip us, j, rfl, ek, hH, valV_at kn e1 h1⟩, h2, fun b z => List.mem_cons_of_mem _ (h3 b z), h4, fun H' ok' z' g' k ko r' n' s' => ?_⟩
      obtain ⟨fq', k1, k2, k3⟩ := back H' ok' z' g' k ko r' n' fun b hb => (s' b hb).imp (fun z => z) fun z hz => z (List.mem_cons_of_mem _ hz)
      have es : setK (.dct true ks xs) kk z' = .dct true ks (xs.set n z') := by
        show (match keyV kk with | some j => PV.dct true ks (dset ks xs j z') | none => .dct true ks xs) = _
        rw [ek]
        exact congrArg (PV.dct true ks) (e3 z')
      rw [es]
      have na : a ∉ g := fun z => n1 (h3 a z)
      refine ⟨a :: fq', .dctO (k _ _ hH na) hz k1, List.nodup_cons.mpr ⟨fun z => ?_, k2⟩, fun b z => ?_⟩
      · rcases k3 a z with z | z
        · exact n1 z
        · rcases s' a z with z | z
          · exact na z
          · exact z List.mem_cons_self
      · rcases List.mem_cons.mp z with e | z
        · exact .inl (by rw [e]; exact List.mem_cons_self)
        · exact (k3 b z).imp (fun z => List.mem_cons_of_mem _ z) fun z => z
  | _ => cases e
theorem getP_snoc : ∀ {ks : List PV} {v k y z : PV}, getPv v ks = some y → getK y k = some z → getPv v (ks ++ [k]) = some z
  | [], v, k, y, z, h, e => by
    cases h
    show (getK v k).bind _ = _
    rw [e]
    rfl
  | j :: ks, v, k, y, z, h, e => by
    obtain ⟨u, h1, h2⟩ := Option.bind_eq_some_iff.mp (show (getK v j).bind (fun u => getPv u ks) = some y from h)
    show (getK v j).bind _ = _
    rw [h1]
    exact getP_snoc h2 e
theorem setP_snoc : ∀ {ks : List PV} {v k y z : PV}, getPv v ks = some y → setPv v (ks ++ [k]) z = setPv v ks (setK y k z)
  | [], v, k, y, z, h => by
    cases h
    rfl
  | j :: ks, v, k, y, z, h => by
    obtain ⟨u, h1, h2⟩ := Option.bind_eq_some_iff.mp (show (getK v j).bind (fun u => getPv u ks) = some y from h)
    show setK v j (setPv ((getK v j).getD .non) (ks ++ [k]) z) = setK v j (setPv ((getK v j).getD .non) ks (setK y k z))
    rw [h1]
    exact congrArg (setK v j) (setP_snoc h2)
/-- a value within a value, and the way back -/
structure Foc (K : PySem.W.Frag) (H : Hp) (ok : Addr → Prop) (pv : PV) (v0 : V) (fp : List Addr) (ks : List PV) (y : PV) (v : V) (f : List Addr) : Prop where
  get : getPv pv ks = some y
  rp : Rp K H ok y v f
  sub : ∀ b ∈ f, b ∈ fp
  nd : f.Nodup
  back : ∀ (H' : Hp) (ok' : Addr → Prop) (y' : PV) (f' : List Addr), (∀ b o, H b = some o → b ∉ f → H' b = some o) → (∀ b, ok b → ok' b) → Rp K H' ok' y' v f' → f'.Nodup → (∀ b ∈ f', b ∈ f ∨ b ∉ fp) → ∃ fp', Rp K H' ok' (setPv pv ks y') v0 fp' ∧ fp'.Nodup ∧ ∀ b ∈ fp', b ∈ fp ∨ b ∈ f'
variable {pv y k z : PV} {v0 v : V} {fp f : List Addr} {ks : List PV} {H1 : Hp}
theorem Foc.nil (r : Rp K H ok pv v0 fp) (nd : fp.Nodup) : Foc K H ok pv v0 fp [] pv v0 fp := ⟨rfl, r, fun _ z => z, nd, fun H' ok' y' f' _ _ r' n' _ => ⟨f', r', n', fun b z => .inr z⟩⟩
theorem Foc.step (F : Foc K H ok pv v0 fp ks y v f) (ho : ∀ b, ok b → b ∉ fp) (e : getK y k = some z) : ∃ u g, RdK K H v k u ∧ Foc K H ok pv v0 fp (ks ++ [k]) z u g := by
  obtain ⟨u, g, h1, h2, h3, h4, back⟩ := child F.rp e F.nd fun b hb hf => ho b hb (F.sub b hf)
  refine ⟨u, g, h1, getP_snoc F.get e, h2, fun b z => F.sub b (h3 b z), h4, fun H' ok' z' g' k ko r' n' s' => ?_⟩
  obtain ⟨f', k1, k2, k3⟩ := back H' ok' z' g' k ko r' n' fun b hb => (s' b hb).imp (fun z => z) fun z hz => z (F.sub b hz)
  rw [setP_snoc F.get]
  obtain ⟨fp', l1, l2, l3⟩ := F.back H' ok' _ f' (fun b o hb hn => k b o hb fun z => hn (h3 b z)) ko k1 k2 fun b hb => (k3 b hb).elim .inl fun z => (s' b z).imp (h3 b) fun z => z
  exact ⟨fp', l1, l2, fun b hb => (l3 b hb).elim .inl fun z => (k3 b z).imp (F.sub b) fun z => z⟩
theorem Foc.same (F : Foc K H ok pv v0 fp ks y v f) (s : Same H H1) : Foc K H1 ok pv v0 fp ks y v f :=
  ⟨F.get, F.rp.same s, F.sub, F.nd, fun H' ok' y' f' k => F.back H' ok' y' f' fun b o hb hn => k b o (s b o hb) hn⟩
end
section
variable {K : PySem.W.Frag} {H : Hp} {ok0 : Addr → Prop} {env : PEnv} {fps : Fps} {σ : L2.St}
/-- a name's value is changed at one object -/
theorem SR.mutV {pv' : PV} {v0 : V} {a : Addr} {o : HO} {fq' fp : List Addr} {i : Nat} (S : SR K (okn ok0 fp) env fps σ H) (hl : i < env.length) (ha : a ∈ fps i) (hm : ∃ u, H a = some u ∧ isMu u = true) (ho : isMu o = true)
    (r : Rp K (upd H a o) (fun b => okS ok0 fps b ∧ b ∉ fq') pv' v0 fq') (nd : fq'.Nodup) (sub : ∀ b ∈ fq', b ∈ fps i ∨ b ∈ fp) (hp : ∀ b ∈ fp, ok0 b ∧ ∀ j, b ∉ fps j) (hσ : σ[i]? = some (some v0)) :
    SR K ok0 (env.set i (some pv')) (updF fps i fq') σ (upd H a o) := by
  have kp : ∀ b u, H b = some u → ¬ b = a → upd H a o b = some u := fun b u e n => by rw [upd_ne n]; exact e
  have km : ∀ b, b = a → ∃ u, H b = some u ∧ isMu u = true := fun b e => by rw [e]; exact hm
  refine ⟨by rw [List.length_set]; exact S.len, fun j pv e => ?_, fun j => ?_, fun j k b h1 h2 => ?_, fun j b h1 => ?_, fun b z => ?_⟩
  · by_cases q : i = j
    · subst q
      rw [List.getElem?_set_self hl] at e
      cases e
      have e0 : updF fps i fq' i = fq' := by unfold updF; rw [if_pos rfl]
      rw [e0]
      refine ⟨_, hσ, r.imp fun b z => ⟨z.1.1, fun k hk => ?_⟩⟩
      rcases updF_in hk with ⟨_, hk⟩ | ⟨_, hk⟩
      · exact z.2 hk
      · exact z.1.2 k hk
    · rw [List.getElem?_set_ne q] at e
      obtain ⟨w, h1, h2⟩ := S.at_ j pv e
      have e0 : updF fps i fq' j = fps j := by unfold updF; rw [if_neg (Ne.symm q)]
      rw [e0]
      refine ⟨w, h1, h2.keep (M := fun b => b = a) kp km (fun b z => ?_) (fun b z e => ?_) fun b z e => ?_⟩
      · refine ⟨z.1.1, fun k hk => ?_⟩
        rcases updF_in hk with ⟨_, hk⟩ | ⟨_, hk⟩
        · rcases sub b hk with hk | hk
          · exact z.2 i hk
          · exact z.1.2 hk
        · exact z.2 k hk
      · exact z.2 i (by rw [e]; exact ha)
      · rw [e] at z
        exact q (S.dj i j a ha z)
  · unfold updF
    split
    · exact nd
    · exact S.nd j
  · have key : ∀ k, k ≠ i → b ∈ fps k → b ∉ fq' := fun k hk hb z => by
      rcases sub b z with z | z
      · exact hk (S.dj k i b hb z)
      · exact (hp b z).2 k hb
    rcases updF_in h1 with ⟨e1, h1⟩ | ⟨e1, h1⟩ <;> rcases updF_in h2 with ⟨e2, h2⟩ | ⟨e2, h2⟩
    · rw [e1, e2]
    · exact absurd h1 (key k e2 h2)
    · exact absurd h2 (key j e1 h1)
    · exact S.dj j k b h1 h2
  · have up : ∀ u, H b = some u → isMu u = true → ∃ u, upd H a o b = some u ∧ isMu u = true := fun u e m => by
      by_cases q : b = a
      · exact ⟨o, by rw [q]; exact upd_same, ho⟩
      · exact ⟨u, by rw [upd_ne q]; exact e, m⟩
    rcases updF_in h1 with ⟨e1, h1⟩ | ⟨e1, h1⟩
    · refine ⟨?_, r.dom b h1⟩
      rcases sub b h1 with z | z
      · exact (S.own i b z).1.1
      · exact (hp b z).1
    · obtain ⟨o, u, q1, q2⟩ := S.own j b h1
      exact ⟨o.1, up u q1 q2⟩
  · by_cases q : b = a
    · rw [q, upd_same] at z
      cases z
    · rw [upd_ne q] at z
      exact (S.fr b z).1
/-- a thing is told: one name's things stay -/
theorem SR.aftX {H1 : Hp} {is : List Nat} {fp : List Addr} {x : Nat} (S : SR K ok0 env fps σ H) (s : Same H H1) (f : ∀ a ∈ fp, H a = none) (d : ∀ a ∈ fp, ∃ u, H1 a = some u ∧ isMu u = true) (c : PV) (hx : (cls c || !decide (x ∈ is)) = true) :
    ∃ fps2, SR K (okn ok0 fp) (BW.aft c is env) fps2 σ H1 ∧ (cls c = false → ∀ a, okE ok0 fps is a → okS ok0 fps2 a) ∧ (∀ i a, a ∈ fps2 i → a ∈ fps i) ∧ fps2 x = fps x ∧ (BW.aft c is env)[x]? = env[x]? := by
  cases e : cls c with
  | true =>
    have e2 : BW.aft c is env = env := by
      unfold BW.aft
      rw [if_pos e]
    rw [e2]
    exact ⟨fps, S.avoid s f d, (fun z => nomatch z), (fun _ _ z => z), rfl, rfl⟩
  | false =>
    have e2 : BW.aft c is env = frzV is env := by
      unfold BW.aft
      rw [if_neg (by rw [e]; decide)]
    rw [e2]
    rw [e, Bool.false_or, Bool.not_eq_true', decide_eq_false_iff_not] at hx
    refine ⟨frzF is fps, S.frz.avoid s f d, fun _ a z => okE_S S.dj z, fun i a z => (frzF_sub z).2, ?_, ?_⟩
    · unfold frzF
      rw [if_neg hx]
    · rw [frzV_at, if_neg hx]
end
section
variable {X : Cx} {ca fa : Nat → Addr} {cl : Cl} {W : WX} {tc : Tc} {n w : Nat}
def ckP (tc : Tc) : Px → Expr → Bool
  | .var x, py => (match py with
    | .Name y _ => nameB tc x y
    | _ => false)
  | .idx p e, py => (match py with
    | .Subscript v s _ => plainX s && (ckP tc p v && ckE tc e s)
    | _ => false)
def PostQ (K : PySem.W.Frag) (ca : Nat → Addr) (E : XK) (ok0 : Addr → Prop) (env : PEnv) (fps : Fps) (σ : L2.St) (H : Hp) (x : Nat) (Q : VK) : Res (List PV × PV) → Prop
  | .ok q => ∀ H1 pv v0 v f, Same H H1 → env[x]? = some (some pv) → σ[x]? = some (some v0) → Foc K H1 (fun a => okS ok0 fps a ∧ ∃ u, H a = some u) pv v0 (fps x) q.1 q.2 v f → Q v H1
  | .exc c => ∀ (d : Unit) H', Same H H' → E (.ref (ca c)) none H'
  | .bad => False
def tP (K : PySem.W.Frag) (ca : Nat → Addr) (cl : Cl) (W : WX) (p : Px) : TE := fun σ H Q => ∃ ok0 env fps, SR K ok0 env fps σ H ∧ PostQ K ca (WE W σ) ok0 env fps σ H p.root Q (evP cl env p)
def rPth (K : PySem.W.Frag) : R2 := fun x y H Q => (∃ a us i u, x = .ref a ∧ y = .int i ∧ (H a = some (.lst us) ∨ SqT K H a us) ∧ atI us i = some u ∧ Q u H) ∨ ∃ a kvs j u, x = .ref a ∧ y = kV j ∧ H a = some (.dK kvs) ∧ valV kvs j = some u ∧ Q u H
theorem ix_path (hu : X.A.units + 1 < cLine) : IxR X (rPth X.K) := by
  intro value slice pins s σ H x y v u Q I rx ry h hs'
  rcases h with ⟨a, us, i, u2, rfl, rfl, hh, e, q⟩ | ⟨a, kvs, j, u2, rfl, rfl, hh, e, q⟩
  · rcases hh with hh | hh
    · exact ix_list value slice pins s σ H _ _ v u Q I rx ry ⟨a, us, i, u2, rfl, rfl, .inl (.inl hh), e, q⟩ hs'
    · exact ix_tup value slice pins s σ H _ _ v u Q I rx ry ⟨a, us, i, u2, rfl, rfl, hh, e, q⟩ hs'
  · obtain rfl : v = Value.ref a := rx
    have g : DGet H a (kV j) (some u2) := .inl ⟨_, j, .inl hh, rfl, e.symm⟩
    exact PyProof.Rows.tail_any (dict_typeIs I g) PySem.F.slot_dict_getitem.lookup (d_getItem hu I g ry fun w2 s3 I3 rw2 => ⟨u2, H, I3, rw2, q⟩) hs'
theorem rp_keyI {K : PySem.W.Frag} {H : Hp} {ok : Addr → Prop} {x : PV} {u : V} {i : Int} (r : Rp K H ok x u []) (e : x = .int i) : u = .int i := by
  subst e
  cases r
  rfl
theorem p_pe (sE : ∀ (e : Ex) (py : Expr), ckE tc e py = true → SndE X ca cl W e py) (C : Cok X W tc cl n ca fa) : ∀ (p : Px) (py : Expr), ckP tc p py = true → PE X py (tP X.K ca cl W p)
  | .var x, py, h => by
    cases py with
    | Name y pos =>
      refine PE.imp (name_of C h) fun σ H Q hq => ?_
      obtain ⟨ok0, env, fps, S, hm⟩ := hq
      replace hm : PostQ X.K ca (WE W σ) ok0 env fps σ H x Q (rootV env[x]?) := hm
      cases ev : env[x]? with
      | none => rw [ev] at hm; exact hm.elim
      | some o =>
        cases o with
        | none => rw [ev] at hm; exact hm.elim
        | some pv =>
          rw [ev] at hm
          obtain ⟨v0, e1, e2⟩ := S.at_ x pv ev
          exact ⟨v0, e1, hm H pv v0 v0 (fps x) (Same.refl _) ev e1 (.nil e2.inD (S.nd x))⟩
    | _ => cases h
  | .idx p e, py, h => by
    cases py with
    | Subscript v s pos =>
      have h : (plainX s && (ckP tc p v && ckE tc e s)) = true := h
      rw [Bool.and_eq_true, Bool.and_eq_true] at h
      refine PE.imp (pe_ix (ix_path (by have := C.room.units; omega)) (p_pe sE C p v h.2.1) (sE e s h.2.2).pe (ix_of h.1)) fun σ H Q hq => ?_
      obtain ⟨ok0, env, fps, S, hm⟩ := hq
      refine ⟨ok0, env, fps, S, ?_⟩
      replace hm : PostQ X.K ca (WE W σ) ok0 env fps σ H p.root Q ((evP cl env p).bind fun q => (evE cl env e).bind fun k => stepV (frz k) q (getK q.2 (frz k))) := hm
      cases e1 : evP cl env p with
      | exc c => rw [e1] at hm; exact hm
      | bad => rw [e1] at hm; exact hm.elim
      | ok q =>
        rw [e1] at hm
        replace hm : PostQ X.K ca (WE W σ) ok0 env fps σ H p.root Q ((evE cl env e).bind fun k => stepV (frz k) q (getK q.2 (frz k))) := hm
        intro H1 pv v0 v f s1 ev e0 F
        refine ⟨env, okE ok0 fps (vE e), (S.same s1).ein, (S.same s1).frE, ?_⟩
        cases e2 : evE cl env e with
        | exc c => rw [e2] at hm; exact fun d H2 s2 => hm d H2 (s1.trans s2)
        | bad => rw [e2] at hm; exact hm.elim
        | ok k =>
          rw [e2] at hm
          intro H2 u g s2 r2 f2 n2
          replace hm : PostQ X.K ca (WE W σ) ok0 env fps σ H p.root Q (stepV (frz k) q (getK q.2 (frz k))) := hm
          cases e3 : getK q.2 (frz k) with
          | none => rw [e3] at hm; exact hm.elim
          | some z =>
            rw [e3] at hm
            obtain ⟨u', g', rd, F2⟩ := (F.same s2).step (fun b hb => hb.1.2 p.root) e3
            have q3 : Q u' H2 := hm H2 pv v0 u' g' (s1.trans s2) ev e0 F2
            have rk := r2.frz (ok' := fun _ => True) (fun _ _ => True.intro) fun _ _ => True.intro
            rcases rd with ⟨a, us, i, rfl, ek, ho, ea⟩ | ⟨a, kvs, j, rfl, ek, ho, ea⟩
            · exact .inl ⟨a, us, i, u', rfl, rp_keyI rk ek, ho, ea, q3⟩
            · exact .inr ⟨a, kvs, j, u', rfl, (key_rp rk ek).1, ho, ea, q3⟩
    | _ => cases h
/-- what the arguments tell behind them -/
theorem args_app {m : Mu} {is : List Nat} {K : PySem.W.Frag} {ok0 : Addr → Prop} {fps fps2 : Fps} {H1 : Hp} {ys : List PV} {vs : List V} {fp : List Addr} (r1 : Rps K H1 (okn (okE ok0 fps is) fp) ys vs fp) (imp2 : clss (kept m ys) = false → ∀ a, okE ok0 fps is a → okS ok0 fps2 a) :
    m = .append → Rps K H1 (okn (okS ok0 fps2) fp) ys vs fp := fun e => by
  subst e
  cases c : clss ys with
  | true => exact r1.free c
  | false => exact r1.imp fun b z => ⟨imp2 c b z.1, z.2⟩
theorem args_ext {m : Mu} {is : List Nat} {K : PySem.W.Frag} {ok0 : Addr → Prop} {env : PEnv} {σ : L2.St} {fps fps2 : Fps} {H H1 : Hp} {ys : List PV} {vs : List V} {fp : List Addr} (S : SR K ok0 env fps σ H) (f1 : ∀ a ∈ fp, H a = none) (r1 : Rps K H1 (okn (okE ok0 fps is) fp) ys vs fp) (imp2 : clss (kept m ys) = false → ∀ a, okE ok0 fps is a → okS ok0 fps2 a) :
    m = .extend → ∀ o zs a us, ys = [.lst o zs] → vs = [.ref a] → Rd H1 a (.lst us) → Rps K H1 (okS ok0 fps2) (frzs zs) us [] := fun e o zs a us e1 e2 e3 => by
  subst e e1 e2
  have fz : Rps K H1 (okE ok0 fps is) (frzs zs) us [] := by
    obtain ⟨v, vs', f, fs, e4, e5, r, rs⟩ := r1.inv
    cases e4
    cases rs
    have ff : ∀ b ∈ f, H b = none := fun b hb => f1 b (by rw [e5]; exact List.mem_append_left _ hb)
    have fin : ∀ us2 f2, Rps K H1 (okn (okE ok0 fps is) fp) zs us2 f2 → (∀ b ∈ f2, b ∈ f) → us2 = us → Rps K H1 (okE ok0 fps is) (frzs zs) us [] := fun us2 f2 r sb e => by
      subst e
      exact r.frz (fun _ z => z.1) fun b hb => S.frE b (ff b (sb b hb))
    cases r with
    | lstF hr ho rs =>
      refine fin _ _ rs (fun _ z => nomatch z) ?_
      rcases hr with hr | ⟨o1, hr⟩ <;> rcases e3 with e3 | ⟨o2, e3⟩ <;> (rw [hr] at e3; cases e3 <;> rfl)
    | lstO hr rs =>
      refine fin _ _ rs (fun b z => List.mem_cons_of_mem _ z) ?_
      rcases e3 with e3 | ⟨o2, e3⟩ <;> (rw [hr] at e3; cases e3 <;> rfl)
  cases c : clss (frzs zs) with
  | true => exact fz.free c
  | false => exact fz.imp fun b z => imp2 c b z
theorem pmut_core {m : Mu} {x : Nat} {env : PEnv} {is : List Nat} {ok ok0 : Addr → Prop} {fps : Fps} {σ : L2.St} {H1 H2 : Hp} {D : Ends} {ys : List PV} {vs : List V} {fp f : List Addr} {pv : PV} {v0 v : V} {ks xs : List PV} (S : SR X.K ok0 env fps σ H1) (s : Same H1 H2) (r : Rps X.K H2 (okn (okE ok0 fps is) fp) ys vs fp) (fr : ∀ a ∈ fp, H1 a = none) (nd : fp.Nodup)
    (ev : env[x]? = some (some pv)) (e0 : σ[x]? = some (some v0)) (F : Foc X.K H1 ok pv v0 (fps x) ks (.lst true xs) v f) (hok : ∀ b, ok b → okS ok0 fps b ∧ ∃ u, H1 b = some u) (q : PostS X.K ca W ok0 fps H1 D (pmuS x (ks, .lst true xs) m ys is env)) : rMu m v vs H2 fun _ H3 => D.nx σ H3 := by
  replace q : PostS X.K ca W ok0 fps H1 D (if (cls (.tup (kept m ys)) || !decide (x ∈ is)) = true then (match muV m xs ys with
    | some zs => chS x ks (.lst true zs) (aft (.tup (kept m ys)) is env) env[x]?
    | none => .bad) else .bad) := q
  by_cases hc : (cls (.tup (kept m ys)) || !decide (x ∈ is)) = true
  · rw [if_pos hc] at q
    cases ez : muV m xs ys with
    | none => rw [ez] at q; exact q.elim
    | some zs =>
      rw [ez, ev] at q
      replace q : PostS X.K ca W ok0 fps H1 D (.fl (.next ((aft (.tup (kept m ys)) is env).set x (some (setPv pv ks (.lst true zs)))))) := q
      obtain ⟨fps2, S2, imp2, sub, fx, ex⟩ := S.aftX (is := is) (x := x) s fr r.dom (.tup (kept m ys)) hc
      have c2 : cls (.tup (kept m ys)) = clss (kept m ys) := rfl
      rw [c2] at imp2
      generalize aft (.tup (kept m ys)) is env = env2 at q S2 ex
      obtain ⟨a, us, fq, rfl, rfl, hH, rx⟩ : ∃ a us fq, v = .ref a ∧ f = a :: fq ∧ H1 a = some (.lst us) ∧ Rps X.K H1 ok xs us fq := by
        have rf := F.rp
        cases rf with
        | lstO hH rx => exact ⟨_, _, _, rfl, rfl, hH, rx⟩
      have F2 := F.same s
      have nda := F.nd
      have hH2 := s a _ hH
      have axf : a ∈ fps x := F.sub a List.mem_cons_self
      have ax : a ∈ fps2 x := by rw [fx]; exact axf
      have qx : ∀ b ∈ fq, b ∈ fps x := fun b z => F.sub b (List.mem_cons_of_mem _ z)
      have frf : ∀ b ∈ fp, ∀ j, b ∉ fps j := fun b hb j hj => by
        obtain ⟨_, u, hu, _⟩ := S.own j b hj
        rw [fr b hb] at hu
        cases hu
      have rx2 : Rps X.K H2 (okn (okS ok0 fps2) fp) xs us fq := (rx.imp fun b z => by
        obtain ⟨⟨o, n⟩, u, hu⟩ := hok b z
        exact ⟨⟨o, fun j hj => n j (sub j b hj)⟩, fun hp => by rw [fr b hp] at hu; cases hu⟩).same s
      obtain ⟨us', fq', r2, n2, o2, d2⟩ := mu_do (K := X.K) (ok := okS ok0 fps2) (okx := okn (okE ok0 fps is) fp) (m := m) (fp := fp) (ys := ys) (vs := vs) (Q := fun _ H3 => D.nx σ H3) ez hH2 (fq := fq) rx2 (fun b hb z => z.2 x (by rw [fx]; exact qx b hb)) (List.nodup_cons.mp nda).2 (fun b hb hq => frf b hb x (qx b hq)) nd r (args_app r imp2) (args_ext S fr r imp2)
      refine d2 fun _ => ?_
      have naq' : a ∉ fq' := fun z => by
        rcases o2 a z with z | z
        · exact (List.nodup_cons.mp nda).1 z
        · have := fr a z.1
          rw [hH] at this
          cases this
      obtain ⟨fp', l1, l2, l3⟩ := F2.back (upd H2 a (.lst us')) (fun b => okS ok0 fps2 b ∧ b ∉ a :: fq') (.lst true zs) (a :: fq') (fun b o hb hn => by rw [upd_ne (fun e => hn (by rw [e]; exact List.mem_cons_self))]; exact hb)
        (fun b z => by
          obtain ⟨⟨o, n⟩, u, hu⟩ := hok b z
          refine ⟨⟨o, fun j hj => n j (sub j b hj)⟩, fun hb => ?_⟩
          rcases List.mem_cons.mp hb with e | hb
          · exact n x (by rw [e]; exact axf)
          · rcases o2 b hb with z | z
            · exact n x (qx b z)
            · rw [fr b z.1] at hu
              cases hu)
        (.lstO upd_same (r2.keep (M := fun b => b = a) (fun b o e n => by rw [upd_ne n]; exact e) (fun b e => ⟨.lst us, by rw [e]; exact hH2, rfl⟩) (fun b z => ⟨z.1, fun hb => (List.mem_cons.mp hb).elim (fun e => z.1.2 x (by rw [e]; exact ax)) z.2⟩) (fun b z e => z.1.2 x (by rw [e]; exact ax)) fun b z e => naq' (by rw [← e]; exact z)))
        (List.nodup_cons.mpr ⟨naq', n2⟩)
        (fun b hb => by
          rcases List.mem_cons.mp hb with e | hb
          · exact .inl (by rw [e]; exact List.mem_cons_self)
          · exact (o2 b hb).imp (fun z => List.mem_cons_of_mem _ z) fun z => frf b z.1 x)
      have hl : x < env2.length := (List.getElem?_eq_some_iff.mp (ex.trans ev)).1
      refine q σ _ _ (S2.mutV (fp := fp) (fq' := fp') hl ax ⟨_, hH2, rfl⟩ rfl (l1.imp fun b z => ⟨z.1, fun hb => ?_⟩) l2 (fun b hb => ?_) (fun b hb => ⟨S.fr b (fr b hb), fun j hj => frf b hb j (sub j b hj)⟩) e0) ⟨fun b o hb hn => ?_, fun i b hb => ?_, fun b hb => ?_⟩
      · rcases l3 b hb with hb | hb
        · exact z.1.2 x (by rw [fx]; exact hb)
        · exact z.2 hb
      · rcases l3 b hb with hb | hb
        · exact .inl (by rw [fx]; exact hb)
        · rcases List.mem_cons.mp hb with e | hb
          · exact .inl (by rw [e]; exact ax)
          · exact (o2 b hb).imp (fun z => by rw [fx]; exact qx b z) fun z => z.1
      · rw [upd_ne (fun e => hn x (by rw [e]; exact axf))]
        exact s b o hb
      · rcases updF_in hb with ⟨e, hb⟩ | ⟨e, hb⟩
        · rcases l3 b hb with hb | hb
          · exact .inl ⟨x, hb⟩
          · rcases List.mem_cons.mp hb with e | hb
            · exact .inl ⟨x, by rw [e]; exact axf⟩
            · exact (o2 b hb).imp (fun z => ⟨x, qx b z⟩) fun z => fr b z.1
        · exact .inl ⟨i, sub i b hb⟩
      · by_cases e : b = a
        · rw [e, upd_same] at hb
          cases hb
        · rw [upd_ne e] at hb
          exact s.free hb
  · rw [if_neg hc] at q
    exact q.elim
/-- one object of a name's is put new, with nothing in it -/
theorem clr_core {K : PySem.W.Frag} {x : Nat} {env : PEnv} {ok ok0 : Addr → Prop} {fps : Fps} {σ : L2.St} {H : Hp} {f : List Addr} {pv y y' : PV} {v0 v : V} {ks : List PV} {a : Addr} {o : HO} (S : SR K ok0 env fps σ H) (ev : env[x]? = some (some pv)) (e0 : σ[x]? = some (some v0)) (F : Foc K H ok pv v0 (fps x) ks y v f) (hok : ∀ b, ok b → okS ok0 fps b)
    (ha : a ∈ f) (hm : ∃ u, H a = some u ∧ isMu u = true) (ho : isMu o = true) (r : Rp K (upd H a o) (fun b => okS ok0 fps b ∧ b ∉ [a]) y' v [a]) : ∃ fps', SR K ok0 (env.set x (some (setPv pv ks y'))) fps' σ (upd H a o) ∧ Stp fps H fps' (upd H a o) := by
  have axf : a ∈ fps x := F.sub a ha
  obtain ⟨fp', l1, l2, l3⟩ := F.back (upd H a o) (fun b => okS ok0 fps b ∧ b ∉ [a]) y' [a] (fun b o hb hn => by rw [upd_ne (fun e => hn (by rw [e]; exact ha))]; exact hb) (fun b z => ⟨hok b z, fun hb => (hok b z).2 x (by rw [List.mem_singleton.mp hb]; exact axf)⟩) r (by simp) (fun b hb => .inl (by rw [List.mem_singleton.mp hb]; exact ha))
  have l4 : ∀ b ∈ fp', b ∈ fps x := fun b hb => (l3 b hb).elim (fun z => z) fun z => by rw [List.mem_singleton.mp z]; exact axf
  have hl : x < env.length := (List.getElem?_eq_some_iff.mp ev).1
  refine ⟨_, (S.avoid (fp := []) (Same.refl _) (fun _ z => nomatch z) fun _ z => nomatch z).mutV (fp := []) (fq' := fp') hl axf hm ho (l1.imp fun b z => ⟨z.1, fun hb => z.1.2 x (l4 b hb)⟩) l2 (fun b hb => .inl (l4 b hb)) (fun _ z => nomatch z) e0, fun b u hb hn => ?_, fun i b hb => ?_, fun b hb => ?_⟩
  · rw [upd_ne (fun e => hn x (by rw [e]; exact axf))]
    exact hb
  · rcases updF_in hb with ⟨e, hb⟩ | ⟨e, hb⟩
    · exact .inl ⟨x, l4 b hb⟩
    · exact .inl ⟨i, hb⟩
  · by_cases e : b = a
    · rw [e, upd_same] at hb
      cases hb
    · rwa [upd_ne e] at hb
def tClr (K : PySem.W.Frag) (to : TE) : TE := fun σ H Q => to σ H fun x H1 => (tyV K "list" x H1 ∧ rClear x [] H1 Q) ∨ (tyV K "dict" x H1 ∧ rDClear x [] H1 Q)
theorem pe_clr {o : Expr} {to : TE} {apos cpos : Pos} (ho : PE X o to) (hbase : attributeBase o "clear" X.env (eval o X.env) = eval o X.env) (hline : (apos.endLine == cpos.line) = true) : PE X (.Call (.Attribute o "clear" apos) [] [] cpos) (tClr X.K to) := by
  refine ⟨fun pins s σ H Q I h => ?_⟩
  refine wpAny_Call_method0_late hbase hline (wpAny_mono (ho.run pins s σ H _ I h) (fun v s1 ⟨x, H1, I1, r1, q1⟩ => ?_) fun _ _ z => z)
  rcases q1 with ⟨ty, q1⟩ | ⟨ty, q1⟩
  · obtain ⟨h1, h2⟩ := tyV_is I1 r1 ty
    exact ⟨"list", "list.clear", PySem.F.plainAttrs_list, PySem.F.slot_list_clear, PySem.F.type_list_clear, h1, h2, Calls.callWith_builtin rfl (PySem.evalArgs_none (mt_clear pins s1 σ H1 x [] v [] Q I1 r1 .nil q1))⟩
  · obtain ⟨h1, h2⟩ := tyV_is I1 r1 ty
    exact ⟨"dict", "dict.clear", PySem.F.plainAttrs_dict, PySem.F.slot_dict_clear, PySem.F.type_dict_clear, h1, h2, Calls.callWith_builtin rfl (PySem.evalArgs_none (mtd_clear pins s1 σ H1 x [] v [] Q I1 r1 .nil q1))⟩
theorem pclr_imp {p : Px} {D : Ends} {σ : L2.St} {H : Hp} (h : tS X.K ca cl w W (.pclr p) D σ H) : tClr X.K (tP X.K ca cl W p) σ H fun _ H3 => D.nx σ H3 := by
  obtain ⟨ok0, env, fps, S, hm⟩ := h
  refine ⟨ok0, env, fps, S, ?_⟩
  replace hm : PostS X.K ca W ok0 fps H D (RS.of (evP cl env p) env fun q => pclrS p.root q env) := hm
  cases e1 : evP cl env p with
  | exc c => rw [e1] at hm; exact fun d H' s => hm d σ H' fps (S.same s) (Stp.same s)
  | bad => rw [e1] at hm; exact hm.elim
  | ok q =>
    rw [e1] at hm
    obtain ⟨ks, y⟩ := q
    intro H1 pv v0 v f s1 ev e0 F
    replace hm := PostS.mono (Stp.same s1) (show PostS X.K ca W ok0 fps H D (pclrS p.root (ks, y) env) from hm)
    have S1 := S.same s1
    have F' : Foc X.K H1 (fun a => okS ok0 fps a ∧ ∃ u, H a = some u) pv v0 (fps p.root) ks y v f := F
    generalize p.root = x at *
    have rf := F'.rp
    cases rf with
    | @lstO a xs us fq hH rx =>
      replace hm : PostS X.K ca W ok0 fps H1 D (chS x ks (.lst true []) env env[x]?) := hm
      rw [ev] at hm
      obtain ⟨fps', S2, st⟩ := clr_core (y' := .lst true []) (o := .lst []) S1 ev e0 F' (fun b z => z.1) List.mem_cons_self ⟨_, hH, rfl⟩ rfl (.lstO upd_same .nil)
      exact .inl ⟨.inl ⟨rfl, _, .inl (.inl hH)⟩, a, us, rfl, rfl, hH, hm σ _ _ S2 st⟩
    | @dctO a dks xs us fq hH hz rx =>
      replace hm : PostS X.K ca W ok0 fps H1 D (chS x ks (.dct true [] []) env env[x]?) := hm
      rw [ev] at hm
      obtain ⟨fps', S2, st⟩ := clr_core (y' := .dct true [] []) (o := .dK []) S1 ev e0 F' (fun b z => z.1) List.mem_cons_self ⟨_, hH, rfl⟩ rfl (.dctO (vs := []) upd_same ⟨rfl, rfl⟩ .nil)
      exact .inr ⟨.inr (.inr (.inl ⟨rfl, .inl ⟨_, hH⟩⟩)), a, _, rfl, rfl, hH, hm σ _ _ S2 st⟩
    | _ => exact hm.elim
theorem pmut_imp {p : Px} {m : Mu} {es : Exs} {D : Ends} {σ : L2.St} {H : Hp} (h : tS X.K ca cl w W (.pmut p m es) D σ H) : tP X.K ca cl W p σ H fun v H1 => tyV X.K "list" v H1 ∧ tAs X.K ca cl W es σ H1 fun vs H2 => rMu m v vs H2 fun _ H3 => D.nx σ H3 := by
  obtain ⟨ok0, env, fps, S, hm⟩ := h
  refine ⟨ok0, env, fps, S, ?_⟩
  replace hm : PostS X.K ca W ok0 fps H D (RS.of (evP cl env p) env fun q => if isLO q.2 = true then RS.of (evEs cl env es) env fun vs => pmuS p.root q m vs (vEs es) env else .bad) := hm
  cases e1 : evP cl env p with
  | exc c => rw [e1] at hm; exact fun d H' s => hm d σ H' fps (S.same s) (Stp.same s)
  | bad => rw [e1] at hm; exact hm.elim
  | ok q =>
    rw [e1] at hm
    obtain ⟨ks, y⟩ := q
    intro H1 pv v0 v f s1 ev e0 F
    replace hm : PostS X.K ca W ok0 fps H D (if isLO y = true then RS.of (evEs cl env es) env fun vs => pmuS p.root (ks, y) m vs (vEs es) env else .bad) := hm
    by_cases hy : isLO y = true
    · rw [if_pos hy] at hm
      obtain ⟨xs, rfl⟩ : ∃ xs, y = .lst true xs := by
        unfold isLO at hy
        split at hy
        · exact ⟨_, rfl⟩
        · cases hy
      have S1 := S.same s1
      have F' : Foc X.K H1 _ pv v0 (fps p.root) ks (.lst true xs) v f := F
      have hty : tyV X.K "list" v H1 := by
        have r := F'.rp
        cases r with
        | lstO hr _ => exact .inl ⟨rfl, _, .inl (.inl hr)⟩
      exact ⟨hty, env, okE ok0 fps (vEs es), S1.ein, S1.frE, PostS.posta S1 (PostS.mono (Stp.same s1) hm) fun ys H2 vs fp _ s2 r2 f2 n2 q2 => pmut_core S1 s2 r2 f2 n2 ev e0 F' (fun b ⟨z, u, hu⟩ => ⟨z, u, s1 b u hu⟩) q2⟩
    · rw [if_neg hy] at hm
      exact hm.elim
theorem pput_imp {p : Px} {k e : Ex} {D : Ends} {σ : L2.St} {H : Hp} (h : tS X.K ca cl w W (.pput p k e) D σ H) : sDPut (tP X.K ca cl W p) (tE X.K ca cl W k) (tE X.K ca cl W e) D σ H := by
  obtain ⟨ok0, env, fps, S, hm⟩ := h
  replace hm : PostS X.K ca W ok0 fps H D (RS.of (evE cl env e) env fun v => RS.of (evP cl env p) env fun q => if isDO q.2 = true then RS.of (evE cl env k) env fun j => pputS p.root q (frz j) v (vE e) env else .bad) := hm
  refine ⟨env, okE ok0 fps (vE e), S.ein, S.frE, PostS.post (f := fun v => RS.of (evP cl env p) env fun q => if isDO q.2 = true then RS.of (evE cl env k) env fun j => pputS p.root q (frz j) v (vE e) env else .bad) S hm fun y H1 uv fp _ s1 r1 f1 n1 q1 => ?_⟩
  refine ⟨okn ok0 fp, env, fps, S.avoid s1 f1 r1.dom, ?_⟩
  cases e2 : evP cl env p with
  | exc c => rw [e2] at q1; exact fun d H' s => q1 d σ H' fps ((S.same s1).same s) (Stp.same (s1.trans s))
  | bad => rw [e2] at q1; exact q1.elim
  | ok q =>
    rw [e2] at q1
    obtain ⟨ks, z⟩ := q
    intro H2 pv v0 v f s2 ev e0 F
    replace q1 : PostS X.K ca W ok0 fps H D (if isDO z = true then RS.of (evE cl env k) env fun j => pputS p.root (ks, z) (frz j) y (vE e) env else .bad) := q1
    by_cases hy : isDO z = true
    · rw [if_pos hy] at q1
      obtain ⟨dks, xs, rfl⟩ : ∃ dks xs, z = .dct true dks xs := by
        unfold isDO at hy
        split at hy
        · exact ⟨_, _, rfl⟩
        · cases hy
      have F' : Foc X.K H2 (fun a => okS (okn ok0 fp) fps a ∧ ∃ u, H1 a = some u) pv v0 (fps p.root) ks (.dct true dks xs) v f := F
      have SS := (S.same s1).same s2
      refine ⟨env, okE ok0 fps (vE k), SS.ein, SS.frE, PostS.post2 (f := fun j => pputS p.root (ks, .dct true dks xs) (frz j) y (vE e) env) SS (s1.trans s2) q1 fun jv H3 uk f3 _ s3 r3 f3n n3 q3 => ?_⟩
      generalize p.root = x at *
      replace q3 : PostS X.K ca W ok0 fps H D (if (cls y || !decide (x ∈ vE e)) = true then (match keyV (frz jv) with
        | some j => if dks.length < most then chS x ks (.dct true (putD dks xs j y).1 (putD dks xs j y).2) (aft y (vE e) env) env[x]? else .bad
        | none => .bad) else .bad) := q3
      by_cases hc : (cls y || !decide (x ∈ vE e)) = true
      · rw [if_pos hc] at q3
        cases ej : keyV (frz jv) with
        | none => rw [ej] at q3; exact q3.elim
        | some j =>
          rw [ej] at q3
          by_cases hlen : dks.length < most
          · replace q3 : PostS X.K ca W ok0 fps H D (if dks.length < most then chS x ks (.dct true (putD dks xs j y).1 (putD dks xs j y).2) (aft y (vE e) env) env[x]? else .bad) := q3
            rw [if_pos hlen, ev] at q3
            replace q3 : PostS X.K ca W ok0 fps H D (.fl (.next ((aft y (vE e) env).set x (some (setPv pv ks (.dct true (putD dks xs j y).1 (putD dks xs j y).2)))))) := q3
            obtain ⟨fps2, S2, imp2, sub, fx, ex⟩ := S.aftX (is := vE e) (x := x) s1 f1 r1.dom y hc
            generalize aft y (vE e) env = env2 at q3 S2 ex
            obtain ⟨a, us, fq, rfl, rfl, hH, hz, rx⟩ : ∃ a us fq, v = .ref a ∧ f = a :: fq ∧ H2 a = some (.dK (dks.zip us)) ∧ (dks.length = us.length ∧ ksB dks = true) ∧ Rps X.K H2 (fun a => okS (okn ok0 fp) fps a ∧ ∃ u, H1 a = some u) xs us fq := by
              have rf := F'.rp
              cases rf with
              | dctO hH hz rx => exact ⟨_, _, _, rfl, rfl, hH, hz, rx⟩
            have F3 := F'.same s3
            have S3 := (S2.same s2).same s3
            have nda := F'.nd
            have hH3 := s3 a _ hH
            have axf : a ∈ fps x := F'.sub a List.mem_cons_self
            have ax : a ∈ fps2 x := by rw [fx]; exact axf
            have qx : ∀ b ∈ fq, b ∈ fps x := fun b z => F'.sub b (List.mem_cons_of_mem _ z)
            have frf : ∀ b ∈ fp, ∀ j, b ∉ fps j := fun b hb j hj => by
              obtain ⟨_, u, hu, _⟩ := S.own j b hj
              rw [f1 b hb] at hu
              cases hu
            have rx2 : Rps X.K H3 (okn (okS ok0 fps2) fp) xs us fq := (rx.imp fun b z => ⟨⟨z.1.1.1, fun j hj => z.1.2 j (sub j b hj)⟩, z.1.1.2⟩).same s3
            have ry : Rp X.K H3 (okn (okS ok0 fps2) fp) y uv fp := by
              refine Rp.same s3 (Rp.same s2 ?_)
              cases c : cls y with
              | true => exact r1.free c
              | false => exact r1.imp fun b z => ⟨imp2 c b z.1, z.2⟩
            have r3' := (r3.frz (ok' := fun b => okE ok0 fps (vE k) b ∨ b ∈ f3) (fun b z => .inl z.1) fun b z => .inr z)
            obtain ⟨eu, _, _⟩ := key_rp r3' ej
            obtain ⟨us', fq', g1, g2, g3, g4, g5⟩ := put_rep (j := j) (K := X.K) (ok := okn (okS ok0 fps2) fp) ry rx2 hz (kB_of r3' ej)
            have nq := g5 (List.nodup_cons.mp nda).2 n1 fun b hb hq => frf b hb x (qx b hq)
            have naq' : a ∉ fq' := fun z => by
              rcases g4 a z with z | z
              · exact (List.nodup_cons.mp nda).1 z
              · exact frf a z x axf
            obtain ⟨fp', l1, l2, l3⟩ := F3.back (upd H3 a (.dK ((putD dks xs j y).1.zip us'))) (fun b => okS ok0 fps2 b ∧ b ∉ a :: fq') (.dct true (putD dks xs j y).1 (putD dks xs j y).2) (a :: fq') (fun b o hb hn => by rw [upd_ne (fun e => hn (by rw [e]; exact List.mem_cons_self))]; exact hb)
              (fun b z => by
                refine ⟨⟨z.1.1.1, fun j hj => z.1.2 j (sub j b hj)⟩, fun hb => ?_⟩
                rcases List.mem_cons.mp hb with e | hb
                · exact z.1.2 x (by rw [e]; exact axf)
                · rcases g4 b hb with hb | hb
                  · exact z.1.2 x (qx b hb)
                  · exact z.1.1.2 hb)
              (.dctO upd_same g2 (g3.keep (M := fun b => b = a) (fun b o e n => by rw [upd_ne n]; exact e) (fun b e => ⟨.dK (dks.zip us), by rw [e]; exact hH3, rfl⟩)
                (fun b z => ⟨z.1, fun hb => (List.mem_cons.mp hb).elim (fun e => z.1.2 x (by rw [e]; exact ax)) fun hb => (g4 b hb).elim (fun hb => z.1.2 x (by rw [fx]; exact qx b hb)) z.2⟩) (fun b z e => z.1.2 x (by rw [e]; exact ax)) fun b z e => naq' (by rw [← e]; exact z)))
              (List.nodup_cons.mpr ⟨naq', nq⟩)
              (fun b hb => by
                rcases List.mem_cons.mp hb with e | hb
                · exact .inl (by rw [e]; exact List.mem_cons_self)
                · exact (g4 b hb).imp (fun z => List.mem_cons_of_mem _ z) fun z => frf b z x)
            have hl : x < env2.length := (List.getElem?_eq_some_iff.mp (ex.trans ev)).1
            refine ⟨a, upd H3 a (.dK ((putD dks xs j y).1.zip us')), rfl, .inl ⟨dks.zip us, j, hH3, eu, ?_, by rw [g1]⟩, ?_⟩
            · rw [List.length_zip, ← hz.1, Nat.min_self, ← most_eq]
              exact hlen
            · refine q3 σ _ _ (S3.mutV (fp := fp) (fq' := fp') hl ax ⟨_, hH3, rfl⟩ rfl (l1.imp fun b z => ⟨z.1, fun hb => ?_⟩) l2 (fun b hb => ?_) (fun b hb => ⟨S.fr b (f1 b hb), fun j hj => frf b hb j (sub j b hj)⟩) e0) ⟨fun b o hb hn => ?_, fun i b hb => ?_, fun b hb => ?_⟩
              · rcases l3 b hb with hb | hb
                · exact z.1.2 x (by rw [fx]; exact hb)
                · exact z.2 hb
              · rcases l3 b hb with hb | hb
                · exact .inl (by rw [fx]; exact hb)
                · rcases List.mem_cons.mp hb with e | hb
                  · exact .inl (by rw [e]; exact ax)
                  · exact (g4 b hb).imp (fun z => by rw [fx]; exact qx b z) fun z => z
              · rw [upd_ne (fun e => hn x (by rw [e]; exact axf))]
                exact s3 b o (s2 b o (s1 b o hb))
              · rcases updF_in hb with ⟨e, hb⟩ | ⟨e, hb⟩
                · rcases l3 b hb with hb | hb
                  · exact .inl ⟨x, hb⟩
                  · rcases List.mem_cons.mp hb with e | hb
                    · exact .inl ⟨x, by rw [e]; exact axf⟩
                    · exact (g4 b hb).imp (fun z => ⟨x, qx b z⟩) fun z => f1 b z
                · exact .inl ⟨i, sub i b hb⟩
              · by_cases e : b = a
                · rw [e, upd_same] at hb
                  cases hb
                · rw [upd_ne e] at hb
                  exact s1.free (s2.free (s3.free hb))
          · replace q3 : PostS X.K ca W ok0 fps H D (if dks.length < most then chS x ks (.dct true (putD dks xs j y).1 (putD dks xs j y).2) (aft y (vE e) env) env[x]? else .bad) := q3
            rw [if_neg hlen] at q3
            exact q3.elim
      · rw [if_neg hc] at q3
        exact q3.elim
    · rw [if_neg hy] at q1
      exact q1.elim
/-! ### d.update(e) -/
def rDUpd : V → List V → Hp → VK → Prop := fun x vs H Q => ∃ (a b : Addr) (kvs more : List (Key × V)), x = .ref a ∧ vs = [.ref b] ∧ H a = some (.dK kvs) ∧ Rd H b (.dK more) ∧ a ≠ b ∧ kvs.length + more.length ≤ sizeLine ∧ Q .non (upd H a (.dK (mergeK kvs more)))
theorem mtd_update : MtR X "dict.update" rDUpd := by
  intro pins s σ H x vs v us Q I rx rv h
  obtain ⟨a, b, kvs, more, rfl, rfl, e, e2, ne, hl, q⟩ := h
  obtain rfl : v = Value.ref a := rx
  obtain ⟨u, rfl, ru⟩ := rv.one
  obtain rfl : u = Value.ref b := ru
  obtain ⟨z, hd, vs, rel, dd⟩ := dk_of I.hok e
  obtain ⟨z2, hd2, vs2, rel2, dd2⟩ := dk_rd I.hok e2
  refine call_meetsIn PySem.F.slot_dict_update dd.typeIs PySem.F.entry_dict_update (PySem.F.args_dict_update_2 _ _) (meets_dict_update (mixKind X.prog X.w) a b ne hd2) ⟨vs, vs2, dd, dd2, by rw [← rel.length, ← rel2.length]; exact hl, fun h' dd' _ hs => ⟨.non, _, ?_, rfl, q⟩⟩
  have he : ∃ q, h'.get? a = some q := let ⟨q, _, _, hq, _⟩ := dd'; ⟨q, hq⟩
  exact d_write (t' := s.toks) I (by rw [e]; exact True.intro) hs he (dk_new (Nat.le_trans (length_mergeK _ _) hl) hd (rel2.merge rel) dd')
theorem flat_cls : ∀ {xs : List PV}, xs.all flat = true → clss xs = true
  | [], _ => rfl
  | x :: xs, h => by
    rw [List.all_cons, Bool.and_eq_true] at h
    show (cls x && clss xs) = true
    rw [flat_cls h.2, Bool.and_true]
    cases x <;> first | rfl | (have h1 := h.1; cases h1)
theorem upd_imp {x : Nat} {e : Ex} {D : Ends} {σ : L2.St} {H : Hp} (h : tS X.K ca cl w W (.upd x e) D σ H) : ∃ v0, σ[x]? = some (some v0) ∧ tyV X.K "dict" v0 H ∧ tAs X.K ca cl W (.cons e .nil) σ H fun vs H1 => rDUpd v0 vs H1 fun _ H3 => D.nx σ H3 := by
  obtain ⟨ok0, env, fps, S, hm⟩ := h
  replace hm : PostS X.K ca W ok0 fps H D (if isDv0 env[x]? = true then RS.of (evE cl env e) env fun v => updS x (frz v) (vE e) env env[x]? else .bad) := hm
  by_cases hx : isDv0 env[x]? = true
  · rw [if_pos hx] at hm
    obtain ⟨ks, xs, ev⟩ : ∃ ks xs, env[x]? = some (some (.dct true ks xs)) := by
      unfold isDv0 at hx
      split at hx
      · rename_i ks xs q
        exact ⟨ks, xs, q⟩
      · cases hx
    rw [ev] at hm
    obtain ⟨v0, e0, e2⟩ := S.at_ x _ ev
    generalize hf : fps x = fx at e2
    cases e2 with
    | @dctO a _ _ us fq hH hz rx =>
      have nda := S.nd x
      rw [hf] at nda
      have axf : a ∈ fps x := by rw [hf]; exact List.mem_cons_self
      have qx : ∀ b ∈ fq, b ∈ fps x := fun b z => by rw [hf]; exact List.mem_cons_of_mem _ z
      have hm2 : PostS X.K ca W ok0 fps H D (RS.of (evEs cl env (.cons e .nil)) env fun vs => updS x (frz (vs.headD .non)) (vE e) env (some (some (.dct true ks xs)))) := by
        show PostS X.K ca W ok0 fps H D (RS.of ((evE cl env e).bind fun x => (Res.ok []).bind fun xs => .ok (x :: xs)) env _)
        cases q : evE cl env e with
        | ok y => rw [q] at hm; exact hm
        | exc c => rw [q] at hm; exact hm
        | bad => rw [q] at hm; exact hm
      refine ⟨.ref a, e0, .inr (.inr (.inl ⟨rfl, .inl ⟨_, hH⟩⟩)), env, okE ok0 fps (vEs (.cons e .nil)), S.ein, S.frE, PostS.posta S hm2 fun ys H1 vs fp e1 s1 r1 f1 n1 q1 => ?_⟩
      obtain ⟨y, rfl⟩ : ∃ y, ys = [y] := by
        replace e1 : ((evE cl env e).bind fun x => (Res.ok []).bind fun xs => Res.ok (x :: xs)) = .ok ys := e1
        cases q : evE cl env e with
        | ok y => rw [q] at e1; cases e1; exact ⟨y, rfl⟩
        | exc c => rw [q] at e1; cases e1
        | bad => rw [q] at e1; cases e1
      obtain ⟨u, vs', f, fs, rfl, ef, r, rs⟩ := r1.inv
      cases rs
      rw [List.append_nil] at ef
      subst ef
      replace q1 : PostS X.K ca W ok0 fps H D (updS x (frz y) (vE e) env (some (some (.dct true ks xs)))) := q1
      have hH1 := s1 a _ hH
      have go : ∀ (b : Addr) (ls : List DKey) (zs : List PV) (ws : List V) (g : List Addr) (okx : Addr → Prop), u = .ref b → frz y = .dct false ls (frzs zs) → Rd H1 b (.dK (ls.zip ws)) → (ls.length = ws.length ∧ ksB ls = true) → Rps X.K H1 okx zs ws g → (x ∉ vE e → a ≠ b) → rDUpd (.ref a) [u] H1 fun _ H3 => D.nx σ H3 := fun b ls zs ws g okx eu ey hr hz2 rz ne => by
        rw [ey] at q1
        replace q1 : PostS X.K ca W ok0 fps H D (if ((frzs zs).all flat && (!decide (x ∈ vE e) && decide (ks.length + ls.length ≤ most))) = true then .fl (.next (env.set x (some (.dct true (mrg ks xs ls (frzs zs)).1 (mrg ks xs ls (frzs zs)).2)))) else .bad) := q1
        by_cases hc : ((frzs zs).all flat && (!decide (x ∈ vE e) && decide (ks.length + ls.length ≤ most))) = true
        · rw [if_pos hc] at q1
          rw [Bool.and_eq_true, Bool.and_eq_true, Bool.not_eq_true', decide_eq_false_iff_not, decide_eq_true_eq] at hc
          obtain ⟨c1, c2, c3⟩ := hc
          have rz0 : Rps X.K H1 (fun _ => True) (frzs zs) ws [] := rz.frz (fun _ _ => True.intro) fun _ _ => True.intro
          have rz2 : Rps X.K H1 (okS ok0 fps) (frzs zs) ws [] := rz0.free (flat_cls c1)
          have hk := hz2.2
          unfold ksB at hk
          rw [Bool.and_eq_true] at hk
          obtain ⟨us', fq', k1, k2, k3, k4, k5⟩ := mrg_rep rz2 hk.1 hz2.1 (rx.same s1) hz (List.nodup_cons.mp nda).2
          have naq' : a ∉ fq' := fun z => (List.nodup_cons.mp nda).1 (k4 a z)
          refine ⟨a, b, ks.zip us, ls.zip ws, rfl, by rw [eu], hH1, hr, ne c2, ?_, ?_⟩
          · rw [List.length_zip, List.length_zip, ← hz.1, ← hz2.1, Nat.min_self, Nat.min_self, ← most_eq]
            exact c3
          · rw [k1]
            have hl : x < env.length := (List.getElem?_eq_some_iff.mp ev).1
            refine q1 σ _ _ ((S.avoid (fp := []) s1 (fun _ z => nomatch z) fun _ z => nomatch z).mutV (fp := []) (fq' := a :: fq') hl axf ⟨_, hH1, rfl⟩ rfl (.dctO upd_same k2 (k3.keep (M := fun b => b = a) (fun b o e n => by rw [upd_ne n]; exact e) (fun b e => ⟨.dK (ks.zip us), by rw [e]; exact hH1, rfl⟩)
              (fun b z => ⟨z, fun hb => (List.mem_cons.mp hb).elim (fun e => z.2 x (by rw [e]; exact axf)) fun hb => z.2 x (qx b (k4 b hb))⟩) (fun b z e => z.2 x (by rw [e]; exact axf)) fun b z e => naq' (by rw [← e]; exact z))) (List.nodup_cons.mpr ⟨naq', k5⟩) (fun b hb => .inl ?_) (fun _ z => nomatch z) e0) ⟨fun b o hb hn => ?_, fun i b hb => ?_, fun b hb => ?_⟩
            · rcases List.mem_cons.mp hb with e | hb
              · rw [e]; exact axf
              · exact qx b (k4 b hb)
            · rw [upd_ne (fun e => hn x (by rw [e]; exact axf))]
              exact s1 b o hb
            · rcases updF_in hb with ⟨e, hb⟩ | ⟨e, hb⟩
              · rcases List.mem_cons.mp hb with e | hb
                · exact .inl ⟨x, by rw [e]; exact axf⟩
                · exact .inl ⟨x, qx b (k4 b hb)⟩
              · exact .inl ⟨i, hb⟩
            · by_cases e : b = a
              · rw [e, upd_same] at hb
                cases hb
              · rw [upd_ne e] at hb
                exact s1.free hb
        · rw [if_neg hc] at q1
          exact q1.elim
      cases r with
      | @dctF b ls zs ws hr hz2 ho rz =>
        refine go b ls zs ws [] _ rfl rfl hr hz2 rz fun hx e => ?_
        subst e
        rcases ho.1.2 with z | ⟨i, hi, z⟩
        · exact z x axf
        · have := S.dj x i a axf z
          subst this
          exact hx (by simpa [vEs] using hi)
      | @dctO b ls zs ws g hr hz2 rz =>
        refine go b ls zs ws g _ rfl rfl (.inl hr) hz2 rz fun hx e => ?_
        have := f1 b List.mem_cons_self
        rw [← e, hH] at this
        cases this
      | _ => exact q1.elim
  · rw [if_neg hx] at hm
    exact hm.elim
end
end BW

/-! A list's thing put in, at a place. -/
namespace BW
open PySem PySem.SeqAt PySem.W PySem.Calls PyProof.Rows
open L2 hiding St
section
variable {prog : Program} {w : World} {A : Around} {E : Value → Shared → Prop} {s : Shared}
theorem setItem_at {l : Addr} {items : Array Value} {k : Int} {t : Tok} {v : Value} {n j : Nat} {Q : Unit → Shared → Prop} (ho : s.heap.get? l = some { cls := .type "list", data := .seq items n })
    (hj : j < items.size) (hs : items.size ≤ 2 ^ 62) (hk : (0 ≤ k ∧ k = (j : Int)) ∨ (k < 0 ∧ k + (items.size : Int) = (j : Int)))
    (hQ : Q () { s with heap := s.heap.update l (Obj.mapSeq (·.setIfInBounds j v)) }) :
    wpAny (model prog w) A (setItem (.ref l) (.int k t) v) Q E s := by
  have hl : s.heap.IsList l items := ⟨_, ho, rfl, n, rfl⟩
  unfold setItem
  try with_reducible refine wpAny_holding ?_
  first | refine wpAny_bind (wpAny_pure ?_) | skip
  refine wpAny_bind (wpAny_sequenceKey hl.typeIs (by decide) ?_)
  refine wpAny_bind (wpAny_callSpecial?_slot (name := Str.ofString "__setitem__") hl.typeIs slot_list_setitem
    (wpAny_call_entry slot_list_setitem hl.typeIs entry_list_setitem ?_ (args_list_setitem _ _ _)))
  show wpAny _ _ (Builtin.List.listSubscript? (.int k t) >>= _) _ _ s
  have hfit : Builtin.List.listFitsIndex k = true := by
    unfold Builtin.List.listFitsIndex
    simp only [Bool.and_eq_true, decide_eq_true_eq]
    omega
  refine wpAny_bind (wpAny_listSubscript_int hfit ?_)
  clear hfit
  have hx' : items[j]? = some items[j] := Array.getElem?_eq_getElem hj
  rcases hk with ⟨h0, rfl⟩ | ⟨h0, he⟩
  · show wpAny _ _ ((seqItemAt l j >>= fun r => pure (r.map (j, ·))) >>= _) _ _ s
    refine wpAny_bind (wpAny_bind (wpAny_seqItemAt ho rfl (wpAny_pure ?_)))
    rw [hx']
    show wpAny _ _ (setSeqItemAt l j v >>= _) _ _ s
    refine wpAny_bind (wpAny_setSeqItemAt ho rfl ?_)
    first
      | exact wpAny_bind (wpAny_pure (wpAny_pure ⟨.none, rfl, wpAny_pure hQ⟩))
      | exact wpAny_pure ⟨.none, rfl, wpAny_pure hQ⟩
  · have hidx := seqIndex_neg (n := items.size) h0 (by omega)
    rw [he] at hidx
    obtain ⟨i, rfl⟩ : ∃ i : Nat, k = Int.negSucc i := by
      cases k with
      | ofNat n => exact absurd h0 (Int.not_lt.mpr (Int.ofNat_nonneg n))
      | negSucc n => exact ⟨n, rfl⟩
    show wpAny _ _ ((Builtin.List.listItems (.ref l) >>= fun xs => pure ((seqIndex? (Int.negSucc i) xs.size).bind fun i => xs[i]?.map (i, ·))) >>= _) _ _ s
    refine wpAny_bind (wpAny_bind ?_)
    show wpAny _ _ (seqItems? (.ref l) >>= _) _ _ s
    refine wpAny_bind (wpAny_seqItems ho rfl (wpAny_pure (wpAny_pure ?_)))
    rw [hidx]
    simp only [Option.bind_some, Int.toNat_natCast, hx', Option.map_some]
    show wpAny _ _ (setSeqItemAt l j v >>= _) _ _ s
    refine wpAny_bind (wpAny_setSeqItemAt ho rfl ?_)
    first
      | exact wpAny_bind (wpAny_pure (wpAny_pure ⟨.none, rfl, wpAny_pure hQ⟩))
      | exact wpAny_pure ⟨.none, rfl, wpAny_pure hQ⟩
end
theorem vals_set {v : V} {r : Value} (rv : RelV v r) : ∀ {us : List V} {its : List Value} (j : Nat), Vals us its → Vals (us.set j v) (its.set j r)
  | [], _, j, h => by cases h; exact Paired.nil
  | u :: us, _, 0, h => by
    cases h with
    | cons a b => exact Paired.cons rv b
  | u :: us, _, j + 1, h => by
    cases h with
    | cons a b => exact Paired.cons a (vals_set rv j b)
/-- xs[y] = v -/
def sLPut (td ty tv : TE) : TS := fun D σ H => tv σ H fun v H1 => td σ H1 fun x H2 => ty σ H2 fun y H3 => ∃ (a : Addr) (us : List V) (i : Int) (j : Nat), x = .ref a ∧ y = .int i ∧ H3 a = some (.lst us) ∧ j < us.length ∧ ((0 ≤ i ∧ i = (j : Int)) ∨ (i < 0 ∧ i + (us.length : Int) = (j : Int))) ∧ D.nx σ (upd H3 a (.lst (us.set j v)))
theorem ps_lput {X : Cx} {o i value : Expr} {pos pos' : Pos} {td ty tv : TE} (hu : X.A.units + 1 < cLine) (ho : PE X o td) (hi : PE X i ty) (hv : PE X value tv) (hs : swapsWith value (some (.Subscript o i pos')) pos.line X.env = pure false) :
    PS X (.Assign [.Subscript o i pos'] value pos) (sLPut td ty tv) := by
  refine ⟨fun pins s σ H D I h => ?_⟩
  refine wpAny_Assign_Subscript (thn (hv.run pins s σ H _ I h) fun r s1 ⟨v, H1, I1, rv, q1⟩ => thn (ho.run pins s1 σ H1 _ I1 q1) fun u s2 ⟨x, H2, I2, rx, q2⟩ => thn (hi.run pins s2 σ H2 _ I2 q2) fun iv s3 ⟨y, H3, I3, ry, a, us, i, j, ex, ey, hH, hj, hk, q3⟩ => ?_) hs
  subst ex ey
  obtain rfl : u = Value.ref a := rx
  obtain ⟨t, rfl⟩ := ry
  obtain ⟨z, its, n, rl, hl, e⟩ := I3.lstM hH
  have hsz : its.toArray.size = us.length := by rw [List.size_toArray, hl]
  have zz : us.length ≤ 2 ^ 62 := Nat.le_trans z (by decide)
  refine setItem_at (j := j) e (by omega) (by omega) (by rw [hsz]; exact hk) ⟨σ, _, I3.lset (its' := its.set j r) (t' := s3.toks) hH e ?_ (vals_set rv j rl) (by rw [List.length_set]; exact z), q3⟩
  simp
theorem set_rep {K : PySem.W.Frag} {H : Hp} {ok : Addr → Prop} {y : PV} {v : V} {fp : List Addr} (ry : Rp K H ok y v fp) : ∀ {j : Nat} {xs : List PV} {us : List V} {fq : List Addr}, Rps K H ok xs us fq → j < xs.length →
    ∃ fq', Rps K H ok (xs.set j y) (us.set j v) fq' ∧ (∀ b ∈ fq', b ∈ fq ∨ b ∈ fp) ∧ (fq.Nodup → fp.Nodup → (∀ b ∈ fp, b ∉ fq) → fq'.Nodup)
  | _, [], _, _, _, h => absurd h (by simp)
  | 0, x :: xs, us, fq, r, h => by
    obtain ⟨u, us', f, fs, e1, e2, r1, rs⟩ := r.inv
    subst e1 e2
    exact ⟨fp ++ fs, .cons ry rs, fun b z => (List.mem_append.mp z).elim .inr fun z => .inl (List.mem_append_right _ z), fun a b c => List.nodup_append.mpr ⟨b, (List.nodup_append.mp a).2.1, fun x h1 z h2 e => c x h1 (by rw [e]; exact List.mem_append_right _ h2)⟩⟩
  | j + 1, x :: xs, us, fq, r, h => by
    obtain ⟨u, us', f, fs, e1, e2, r1, rs⟩ := r.inv
    subst e1 e2
    obtain ⟨fq2, g3, g4, g5⟩ := set_rep ry (j := j) rs (by simpa using h)
    refine ⟨f ++ fq2, .cons r1 g3, fun b z => ?_, fun a b c => ?_⟩
    · rcases List.mem_append.mp z with z | z
      · exact .inl (List.mem_append_left _ z)
      · exact (g4 b z).imp (fun z => List.mem_append_right _ z) fun z => z
    · obtain ⟨a1, a2, a3⟩ := List.nodup_append.mp a
      refine List.nodup_append.mpr ⟨a1, g5 a2 b fun x hx hz => c x hx (List.mem_append_right _ hz), fun x h1 z h2 e => ?_⟩
      subst e
      rcases g4 x h2 with z | z
      · exact a3 x h1 x z rfl
      · exact c x z (List.mem_append_left _ h1)
theorem atj_rp {K : PySem.W.Frag} {H : Hp} {ok : Addr → Prop} {x : PV} {v : V} {fp : List Addr} {n j : Nat} (h : Rp K H ok x v fp) (e : atJ n x = some j) : ∃ i : Int, v = .int i ∧ j < n ∧ ((0 ≤ i ∧ i = (j : Int)) ∨ (i < 0 ∧ i + (n : Int) = (j : Int))) := by
  cases h with
  | int i =>
    refine ⟨i, rfl, ?_⟩
    unfold atJ at e
    by_cases c : 0 ≤ i ∧ i < (n : Int)
    · simp only [c, and_self, decide_true, if_true, Option.some.injEq] at e
      omega
    · by_cases c2 : i < 0 ∧ 0 ≤ i + (n : Int)
      · simp only [c, c2, and_self, decide_true, decide_false, if_true, Bool.false_eq_true, if_false, Option.some.injEq] at e
        omega
      · simp only [c, c2, decide_false, Bool.false_eq_true, if_false] at e
        cases e
  | _ => cases e
section
variable {X : Cx} {ca fa : Nat → Addr} {cl : Cl} {W : WX} {tc : Tc} {n w : Nat}
theorem lput_imp {p : Px} {k e : Ex} {D : Ends} {σ : L2.St} {H : Hp} (h : tS X.K ca cl w W (.lput p k e) D σ H) : sLPut (tP X.K ca cl W p) (tE X.K ca cl W k) (tE X.K ca cl W e) D σ H := by
  obtain ⟨ok0, env, fps, S, hm⟩ := h
  replace hm : PostS X.K ca W ok0 fps H D (RS.of (evE cl env e) env fun v => RS.of (evP cl env p) env fun q => if isLO q.2 = true then RS.of (evE cl env k) env fun j => lputS p.root q (frz j) v (vE e) env else .bad) := hm
  refine ⟨env, okE ok0 fps (vE e), S.ein, S.frE, PostS.post (f := fun v => RS.of (evP cl env p) env fun q => if isLO q.2 = true then RS.of (evE cl env k) env fun j => lputS p.root q (frz j) v (vE e) env else .bad) S hm fun y H1 uv fp _ s1 r1 f1 n1 q1 => ?_⟩
  refine ⟨okn ok0 fp, env, fps, S.avoid s1 f1 r1.dom, ?_⟩
  cases e2 : evP cl env p with
  | exc c => rw [e2] at q1; exact fun d H' s => q1 d σ H' fps ((S.same s1).same s) (Stp.same (s1.trans s))
  | bad => rw [e2] at q1; exact q1.elim
  | ok q =>
    rw [e2] at q1
    obtain ⟨ks, z⟩ := q
    intro H2 pv v0 v f s2 ev e0 F
    replace q1 : PostS X.K ca W ok0 fps H D (if isLO z = true then RS.of (evE cl env k) env fun j => lputS p.root (ks, z) (frz j) y (vE e) env else .bad) := q1
    by_cases hy : isLO z = true
    · rw [if_pos hy] at q1
      obtain ⟨xs, rfl⟩ : ∃ xs, z = .lst true xs := by
        unfold isLO at hy
        split at hy
        · exact ⟨_, rfl⟩
        · cases hy
      have F' : Foc X.K H2 (fun a => okS (okn ok0 fp) fps a ∧ ∃ u, H1 a = some u) pv v0 (fps p.root) ks (.lst true xs) v f := F
      have SS := (S.same s1).same s2
      refine ⟨env, okE ok0 fps (vE k), SS.ein, SS.frE, PostS.post2 (f := fun j => lputS p.root (ks, .lst true xs) (frz j) y (vE e) env) SS (s1.trans s2) q1 fun jv H3 uk f3 _ s3 r3 f3n n3 q3 => ?_⟩
      generalize p.root = x at *
      replace q3 : PostS X.K ca W ok0 fps H D (if (cls y || !decide (x ∈ vE e)) = true then (match atJ xs.length (frz jv) with
        | some j => chS x ks (.lst true (xs.set j y)) (aft y (vE e) env) env[x]?
        | none => .bad) else .bad) := q3
      by_cases hc : (cls y || !decide (x ∈ vE e)) = true
      · rw [if_pos hc] at q3
        cases ej : atJ xs.length (frz jv) with
        | none => rw [ej] at q3; exact q3.elim
        | some j =>
          rw [ej] at q3
          replace q3 : PostS X.K ca W ok0 fps H D (chS x ks (.lst true (xs.set j y)) (aft y (vE e) env) env[x]?) := q3
          rw [ev] at q3
          replace q3 : PostS X.K ca W ok0 fps H D (.fl (.next ((aft y (vE e) env).set x (some (setPv pv ks (.lst true (xs.set j y))))))) := q3
          obtain ⟨fps2, S2, imp2, sub, fx, ex⟩ := S.aftX (is := vE e) (x := x) s1 f1 r1.dom y hc
          generalize aft y (vE e) env = env2 at q3 S2 ex
          obtain ⟨a, us, fq, rfl, rfl, hH, rx⟩ : ∃ a us fq, v = .ref a ∧ f = a :: fq ∧ H2 a = some (.lst us) ∧ Rps X.K H2 (fun a => okS (okn ok0 fp) fps a ∧ ∃ u, H1 a = some u) xs us fq := by
            have rf := F'.rp
            cases rf with
            | lstO hH rx => exact ⟨_, _, _, rfl, rfl, hH, rx⟩
          have F3 := F'.same s3
          have S3 := (S2.same s2).same s3
          have nda := F'.nd
          have hH3 := s3 a _ hH
          have axf : a ∈ fps x := F'.sub a List.mem_cons_self
          have ax : a ∈ fps2 x := by rw [fx]; exact axf
          have qx : ∀ b ∈ fq, b ∈ fps x := fun b z => F'.sub b (List.mem_cons_of_mem _ z)
          have frf : ∀ b ∈ fp, ∀ j, b ∉ fps j := fun b hb j hj => by
            obtain ⟨_, u, hu, _⟩ := S.own j b hj
            rw [f1 b hb] at hu
            cases hu
          have rx2 : Rps X.K H3 (okn (okS ok0 fps2) fp) xs us fq := (rx.imp fun b z => ⟨⟨z.1.1.1, fun j hj => z.1.2 j (sub j b hj)⟩, z.1.1.2⟩).same s3
          have ry : Rp X.K H3 (okn (okS ok0 fps2) fp) y uv fp := by
            refine Rp.same s3 (Rp.same s2 ?_)
            cases c : cls y with
            | true => exact r1.free c
            | false => exact r1.imp fun b z => ⟨imp2 c b z.1, z.2⟩
          have r3' := (r3.frz (ok' := fun b => okE ok0 fps (vE k) b ∨ b ∈ f3) (fun b z => .inl z.1) fun b z => .inr z)
          obtain ⟨jj, eu, hj, hk⟩ := atj_rp r3' ej
          obtain ⟨fq', g3, g4, g5⟩ := set_rep (K := X.K) (ok := okn (okS ok0 fps2) fp) ry rx2 hj
          have nq := g5 (List.nodup_cons.mp nda).2 n1 fun b hb hq => frf b hb x (qx b hq)
          have naq' : a ∉ fq' := fun z => by
            rcases g4 a z with z | z
            · exact (List.nodup_cons.mp nda).1 z
            · exact frf a z x axf
          obtain ⟨fp', l1, l2, l3⟩ := F3.back (upd H3 a (.lst (us.set j uv))) (fun b => okS ok0 fps2 b ∧ b ∉ a :: fq') (.lst true (xs.set j y)) (a :: fq') (fun b o hb hn => by rw [upd_ne (fun e => hn (by rw [e]; exact List.mem_cons_self))]; exact hb)
            (fun b z => by
              refine ⟨⟨z.1.1.1, fun j hj => z.1.2 j (sub j b hj)⟩, fun hb => ?_⟩
              rcases List.mem_cons.mp hb with e | hb
              · exact z.1.2 x (by rw [e]; exact axf)
              · rcases g4 b hb with hb | hb
                · exact z.1.2 x (qx b hb)
                · exact z.1.1.2 hb)
            (.lstO upd_same (g3.keep (M := fun b => b = a) (fun b o e n => by rw [upd_ne n]; exact e) (fun b e => ⟨.lst us, by rw [e]; exact hH3, rfl⟩)
              (fun b z => ⟨z.1, fun hb => (List.mem_cons.mp hb).elim (fun e => z.1.2 x (by rw [e]; exact ax)) fun hb => (g4 b hb).elim (fun hb => z.1.2 x (by rw [fx]; exact qx b hb)) z.2⟩) (fun b z e => z.1.2 x (by rw [e]; exact ax)) fun b z e => naq' (by rw [← e]; exact z)))
            (List.nodup_cons.mpr ⟨naq', nq⟩)
            (fun b hb => by
              rcases List.mem_cons.mp hb with e | hb
              · exact .inl (by rw [e]; exact List.mem_cons_self)
              · exact (g4 b hb).imp (fun z => List.mem_cons_of_mem _ z) fun z => frf b z x)
          have hl : x < env2.length := (List.getElem?_eq_some_iff.mp (ex.trans ev)).1
          have hlu : xs.length = us.length := rx.len
          refine ⟨a, us, jj, j, rfl, eu, hH3, by omega, by rw [← hlu]; exact hk, ?_⟩
          · refine q3 σ _ _ (S3.mutV (fp := fp) (fq' := fp') hl ax ⟨_, hH3, rfl⟩ rfl (l1.imp fun b z => ⟨z.1, fun hb => ?_⟩) l2 (fun b hb => ?_) (fun b hb => ⟨S.fr b (f1 b hb), fun j hj => frf b hb j (sub j b hj)⟩) e0) ⟨fun b o hb hn => ?_, fun i b hb => ?_, fun b hb => ?_⟩
            · rcases l3 b hb with hb | hb
              · exact z.1.2 x (by rw [fx]; exact hb)
              · exact z.2 hb
            · rcases l3 b hb with hb | hb
              · exact .inl (by rw [fx]; exact hb)
              · rcases List.mem_cons.mp hb with e | hb
                · exact .inl (by rw [e]; exact ax)
                · exact (g4 b hb).imp (fun z => by rw [fx]; exact qx b z) fun z => z
            · rw [upd_ne (fun e => hn x (by rw [e]; exact axf))]
              exact s3 b o (s2 b o (s1 b o hb))
            · rcases updF_in hb with ⟨e, hb⟩ | ⟨e, hb⟩
              · rcases l3 b hb with hb | hb
                · exact .inl ⟨x, hb⟩
                · rcases List.mem_cons.mp hb with e | hb
                  · exact .inl ⟨x, by rw [e]; exact axf⟩
                  · exact (g4 b hb).imp (fun z => ⟨x, qx b z⟩) fun z => f1 b z
              · exact .inl ⟨i, sub i b hb⟩
            · by_cases e : b = a
              · rw [e, upd_same] at hb
                cases hb
              · rw [upd_ne e] at hb
                exact s1.free (s2.free (s3.free hb))
      · rw [if_neg hc] at q3
        exact q3.elim
    · rw [if_neg hy] at q1
      exact q1.elim
end
end BW

/-! x.append(y.pop(i)); d.setdefault(k, []).insert(0, v). -/
namespace BW
open PySem PySem.SeqAt PySem.W PySem.Calls PyProof.Rows
open L2 hiding St
section
variable {K : PySem.W.Frag} {H : Hp} {ok : Addr → Prop}
theorem flat_fp {x : PV} {v : V} {fp : List Addr} (r : Rp K H ok x v fp) (f : flat x = true) : fp = [] := by
  cases r <;> first | rfl | cases f
theorem flat_any {H' : Hp} {ok' : Addr → Prop} {x : PV} {v : V} {fp : List Addr} (r : Rp K H ok x v fp) (f : flat x = true) : Rp K H' ok' x v [] := by
  cases r with
  | non => exact .non
  | bl b => exact .bl b
  | int i => exact .int i
  | str x z => exact .str x z
  | _ => cases f
/-- a flat thing is taken out -/
theorem rps_out : ∀ {xs : List PV} {us : List V} {fq : List Addr} {j : Nat} {v : PV}, Rps K H ok xs us fq → xs[j]? = some v → flat v = true → ∃ u, us[j]? = some u ∧ Rp K H ok v u [] ∧ Rps K H ok (xs.eraseIdx j) (us.eraseIdx j) fq
  | [], _, _, j, v, r, e, f => by simp at e
  | x :: xs, _, _, 0, v, r, e, f => by
    obtain ⟨u, us, g, gs, rfl, rfl, r1, rs⟩ := r.inv
    cases e
    have := flat_fp r1 f
    subst this
    exact ⟨u, rfl, r1, rs⟩
  | x :: xs, _, _, j + 1, v, r, e, f => by
    obtain ⟨u, us, g, gs, rfl, rfl, r1, rs⟩ := r.inv
    obtain ⟨w, h1, h2, h3⟩ := rps_out (j := j) rs (by simpa using e) f
    exact ⟨w, by simpa using h1, h2, .cons r1 h3⟩
theorem upd_upd {a : Addr} {o o' : HO} : upd (upd H a o) a o' = upd H a o' := by
  funext b
  by_cases e : b = a
  · rw [e, upd_same, upd_same]
  · rw [upd_ne e, upd_ne e, upd_ne e]
theorem upd_comm {a c : Addr} {o o' : HO} (h : a ≠ c) : upd (upd H a o) c o' = upd (upd H c o') a o := by
  funext b
  by_cases e : b = a
  · rw [e, upd_same, upd_ne h, upd_same]
  · rw [upd_ne (a := a) e]
    by_cases e2 : b = c
    · rw [e2, upd_same, upd_same]
    · rw [upd_ne e2, upd_ne e2, upd_ne e]
end
section
variable {K : PySem.W.Frag} {H : Hp} {ok0 : Addr → Prop} {env : PEnv} {fps : Fps} {σ : L2.St}
/-- a name's own object is changed, no new ones -/
theorem SR.chg {x : Nat} {a : Addr} {o : HO} {fq fq' : List Addr} {pv' : PV} {v0 : V} (S : SR K ok0 env fps σ H) (hl : x < env.length) (hf : fps x = fq) (ha : a ∈ fq) (hm : ∃ u, H a = some u ∧ isMu u = true) (ho : isMu o = true) (r : Rp K (upd H a o) (fun b => okS ok0 fps b ∧ b ∉ fq') pv' v0 fq') (nd : fq'.Nodup) (sub : ∀ b ∈ fq', b ∈ fq) (e0 : σ[x]? = some (some v0)) :
    SR K ok0 (env.set x (some pv')) (updF fps x fq') σ (upd H a o) ∧ Stp fps H (updF fps x fq') (upd H a o) := by
  subst hf
  refine ⟨(S.avoid (fp := []) (Same.refl _) (fun _ z => nomatch z) fun _ z => nomatch z).mutV (fp := []) (fq' := fq') hl ha hm ho (r.imp fun b z => ⟨z.1, z.2⟩) nd (fun b hb => .inl (sub b hb)) (fun _ z => nomatch z) e0, fun b u hb hn => ?_, fun i b hb => ?_, fun b hb => ?_⟩
  · rw [upd_ne (fun e => hn x (by rw [e]; exact ha))]
    exact hb
  · rcases updF_in hb with ⟨e, hb⟩ | ⟨e, hb⟩
    · exact .inl ⟨x, sub b hb⟩
    · exact .inl ⟨i, hb⟩
  · by_cases e : b = a
    · rw [e, upd_same] at hb
      cases hb
    · rwa [upd_ne e] at hb
end
section
variable {X : Cx} {ca fa : Nat → Addr} {cl : Cl} {W : WX} {tc : Tc} {n w : Nat}
theorem atJ_seq {m j : Nat} {i : Int} (hj : j < m) (h : (0 ≤ i ∧ i = (j : Int)) ∨ (i < 0 ∧ i + (m : Int) = (j : Int))) : seqIndex? i m = some j := by
  unfold seqIndex?
  rcases h with ⟨h0, rfl⟩ | ⟨h0, h1⟩
  · simp [hj]
    omega
  · rw [if_pos h0, h1]
    simp [hj]
theorem papp_imp {x y : Nat} {e : Ex} {D : Ends} {σ : L2.St} {H : Hp} (h : tS X.K ca cl w W (.papp x y e) D σ H) : ∃ v0, σ[x]? = some (some v0) ∧ tyV X.K "list" v0 H ∧ ∃ v1, σ[y]? = some (some v1) ∧ tyV X.K "list" v1 H ∧
    tAs X.K ca cl W (.cons e .nil) σ H fun vs H1 => rPopAt v1 vs H1 fun u H2 => rAppend v0 [u] H2 fun _ H3 => D.nx σ H3 := by
  obtain ⟨ok0, env, fps, S, hm⟩ := h
  replace hm : PostS X.K ca W ok0 fps H D (if (hasL env x && hasL env y) = true then RS.of (evE cl env e) env fun k => pappS x y (frz k) env env[x]? env[y]? else .bad) := hm
  by_cases hx : (hasL env x && hasL env y) = true
  · rw [if_pos hx] at hm
    have lst : ∀ z, hasL env z = true → ∃ o xs, env[z]? = some (some (.lst o xs)) := fun z h => by
      unfold hasL at h
      split at h
      · exact ⟨_, _, by assumption⟩
      · cases h
    rw [Bool.and_eq_true] at hx
    obtain ⟨ox, xs, ex⟩ := lst x hx.1
    obtain ⟨oy, ys, ey⟩ := lst y hx.2
    obtain ⟨v0, e0, r0⟩ := S.at_ x _ ex
    obtain ⟨v1, e1, r1⟩ := S.at_ y _ ey
    have ty : ∀ {o : Bool} {zs : List PV} {v : V} {ok : Addr → Prop} {f : List Addr}, Rp X.K H ok (.lst o zs) v f → tyV X.K "list" v H := fun r => by
      cases r with
      | lstO hr _ => exact .inl ⟨rfl, _, .inl (.inl hr)⟩
      | lstF hr _ _ => exact .inl ⟨rfl, _, .inl hr⟩
    refine ⟨v0, e0, ty r0, v1, e1, ty r1, ?_⟩
    have hm2 : PostS X.K ca W ok0 fps H D (RS.of (evEs cl env (.cons e .nil)) env fun vs => pappS x y (frz (vs.headD .non)) env env[x]? env[y]?) := by
      show PostS X.K ca W ok0 fps H D (RS.of ((evE cl env e).bind fun x => (Res.ok []).bind fun xs => .ok (x :: xs)) env _)
      cases q : evE cl env e with
      | ok y => rw [q] at hm; exact hm
      | exc c => rw [q] at hm; exact hm
      | bad => rw [q] at hm; exact hm
    refine ⟨env, okE ok0 fps (vEs (.cons e .nil)), S.ein, S.frE, PostS.posta S hm2 fun zs H1 vs fp e2 s1 r2 f1 n1 q1 => ?_⟩
    obtain ⟨k, rfl⟩ : ∃ k, zs = [k] := by
      replace e2 : ((evE cl env e).bind fun x => (Res.ok []).bind fun xs => Res.ok (x :: xs)) = .ok zs := e2
      cases q : evE cl env e with
      | ok y => rw [q] at e2; cases e2; exact ⟨y, rfl⟩
      | exc c => rw [q] at e2; cases e2
      | bad => rw [q] at e2; cases e2
    obtain ⟨uk, vs', f, fs, rfl, ef, rk, rs⟩ := r2.inv
    cases rs
    replace q1 : PostS X.K ca W ok0 fps H D (pappS x y (frz k) env env[x]? env[y]?) := q1
    rw [ex, ey] at q1
    cases ox with
    | false => exact q1.elim
    | true =>
      cases oy with
      | false => exact q1.elim
      | true =>
        replace q1 : PostS X.K ca W ok0 fps H D (match atJ ys.length (frz k) with
          | some j => (match ys[j]? with
            | some v => if (flat v && (decide (x ≠ y) && (decide (xs.length < most) && decide (ys.length ≤ most)))) = true then .fl (.next ((env.set y (some (.lst true (ys.eraseIdx j)))).set x (some (.lst true (xs ++ [v]))))) else .bad
            | none => .bad)
          | none => .bad) := q1
        cases ej : atJ ys.length (frz k) with
        | none => rw [ej] at q1; exact q1.elim
        | some j =>
          simp only [ej] at q1
          cases ev : ys[j]? with
          | none => rw [ev] at q1; exact q1.elim
          | some v =>
            simp only [ev] at q1
            by_cases hc : (flat v && (decide (x ≠ y) && (decide (xs.length < most) && decide (ys.length ≤ most)))) = true
            · rw [if_pos hc] at q1
              rw [Bool.and_eq_true, Bool.and_eq_true, Bool.and_eq_true, decide_eq_true_eq, decide_eq_true_eq, decide_eq_true_eq] at hc
              obtain ⟨c1, c2, c3, c4⟩ := hc
              have rk' := rk.frz (ok' := fun _ => True) (fun _ _ => True.intro) fun _ _ => True.intro
              obtain ⟨i, rfl, hj, hi⟩ := atj_rp rk' ej
              have S1 := S.same s1
              obtain ⟨v0', e0', r0'⟩ := S1.at_ x _ ex
              rw [e0] at e0'
              cases e0'
              obtain ⟨v1', e1', r1'⟩ := S1.at_ y _ ey
              rw [e1] at e1'
              cases e1'
              generalize gx : fps x = fx at r0'
              generalize gy : fps y = fy at r1'
              cases r0' with
              | @lstO a xs us fq hH rx =>
                cases r1' with
                | @lstO c ys ws fr hC ry =>
                  have nx := S.nd x
                  rw [gx] at nx
                  have ny := S.nd y
                  rw [gy] at ny
                  have lx : x < env.length := (List.getElem?_eq_some_iff.mp ex).1
                  have ly : y < env.length := (List.getElem?_eq_some_iff.mp ey).1
                  have ac : a ≠ c := fun e => c2 (S.dj x y a (by rw [gx]; exact List.mem_cons_self) (by rw [gy, e]; exact List.mem_cons_self))
                  obtain ⟨u, h1, h2, h3⟩ := rps_out ry ev c1
                  have kp : ∀ b o, H1 b = some o → ¬ b = c → upd H1 c (.lst (ws.eraseIdx j)) b = some o := fun b o e n => by rw [upd_ne n]; exact e
                  have km : ∀ b, b = c → ∃ u, H1 b = some u ∧ isMu u = true := fun b e => ⟨.lst ws, by rw [e]; exact hC, rfl⟩
                  obtain ⟨S2, st2⟩ := S1.chg (x := y) (a := c) (o := .lst (ws.eraseIdx j)) (fq' := c :: fr) (pv' := .lst true (ys.eraseIdx j)) ly gy List.mem_cons_self ⟨_, hC, rfl⟩ rfl
                    (.lstO upd_same (h3.keep (M := fun b => b = c) kp km (fun b z => ⟨z, fun hb => z.2 y (by rw [gy]; exact hb)⟩) (fun b z e => z.2 y (by rw [gy, e]; exact List.mem_cons_self)) fun b z e => (List.nodup_cons.mp ny).1 (by rw [← e]; exact z))) ny (fun _ z => z) e1
                  have gx2 : updF fps y (c :: fr) x = a :: fq := by
                    unfold updF
                    rw [if_neg c2]
                    exact gx
                  have hH2 : upd H1 c (.lst (ws.eraseIdx j)) a = some (.lst us) := by rw [upd_ne ac]; exact hH
                  have nc : ∀ b ∈ fq, b ≠ c := fun b hb e => c2 (S.dj x y b (by rw [gx]; exact List.mem_cons_of_mem _ hb) (by rw [gy, e]; exact List.mem_cons_self))
                  have okc : ∀ b, okS ok0 fps b → okS ok0 (updF fps y (c :: fr)) b := fun b z => ⟨z.1, fun i hi => by
                    rcases updF_in hi with ⟨_, hi⟩ | ⟨_, hi⟩
                    · exact z.2 y (by rw [gy]; exact hi)
                    · exact z.2 i hi⟩
                  have rx2 : Rps X.K (upd H1 c (.lst (ws.eraseIdx j))) (okS ok0 (updF fps y (c :: fr))) xs us fq := rx.keep (M := fun b => b = c) kp km okc (fun b z e => z.2 y (by rw [gy, e]; exact List.mem_cons_self)) nc
                  have rv2 : Rps X.K (upd H1 c (.lst (ws.eraseIdx j))) (okS ok0 (updF fps y (c :: fr))) [v] [u] [] := .cons (f := []) (fs := []) (flat_any h2 c1) .nil
                  have rxv := rx2.app rv2
                  rw [List.append_nil] at rxv
                  obtain ⟨S3, st3⟩ := S2.chg (x := x) (a := a) (o := .lst (us ++ [u])) (fq' := a :: fq) (pv' := .lst true (xs ++ [v])) (by rw [List.length_set]; exact lx) gx2 List.mem_cons_self ⟨_, hH2, rfl⟩ rfl
                    (.lstO upd_same (rxv.keep (M := fun b => b = a) (fun b o e n => by rw [upd_ne n]; exact e) (fun b e => ⟨.lst us, by rw [e]; exact hH2, rfl⟩) (fun b z => ⟨z, fun hb => z.2 x (by rw [gx2]; exact hb)⟩) (fun b z e => z.2 x (by rw [gx2, e]; exact List.mem_cons_self)) fun b z e => (List.nodup_cons.mp nx).1 (by rw [← e]; exact z))) nx (fun _ z => z) e0
                  have lw : ys.length = ws.length := ry.len
                  refine ⟨c, ws, i, j, u, rfl, rfl, hC, ?_, ?_, atJ_seq (by omega) (by rw [← lw]; exact hi), h1, a, us, u, rfl, rfl, hH2, ?_, q1 σ _ _ S3 ((Stp.same s1).trans (st2.trans st3))⟩
                  · unfold most at c4
                    omega
                  · unfold most at c4
                    omega
                  · rw [← rx.len, ← most_eq]
                    exact c3
            · rw [if_neg hc] at q1
              exact q1.elim
  · rw [if_neg hx] at hm
    exact hm.elim
theorem dlook_out {j : DKey} : ∀ {ks : List DKey} {xs : List PV}, ks.length = xs.length → dlook ks xs j = none → j ∉ ks
  | [], _, _, _ => fun h => nomatch h
  | k :: ks, [], h, _ => by cases h
  | k :: ks, x :: xs, h, e => by
    have e : (if k = j then some x else dlook ks xs j) = none := e
    by_cases q : k = j
    · rw [if_pos q] at e
      cases e
    · rw [if_neg q] at e
      rw [List.mem_cons, not_or]
      exact ⟨fun z => q z.symm, dlook_out (by simpa using h) e⟩
/-- one object of a name's is changed, no new ones -/
theorem one_core {K : PySem.W.Frag} {x : Nat} {env : PEnv} {ok ok0 : Addr → Prop} {fps : Fps} {σ : L2.St} {H : Hp} {f f' : List Addr} {pv y y' : PV} {v0 v : V} {ks : List PV} {a : Addr} {o : HO} (S : SR K ok0 env fps σ H) (ev : env[x]? = some (some pv)) (e0 : σ[x]? = some (some v0)) (F : Foc K H ok pv v0 (fps x) ks y v f) (hok : ∀ b, ok b → okS ok0 fps b)
    (ha : a ∈ f) (hm : ∃ u, H a = some u ∧ isMu u = true) (ho : isMu o = true) (sub : ∀ b ∈ f', b ∈ f) (nd : f'.Nodup) (r : Rp K (upd H a o) (fun b => okS ok0 fps b ∧ b ∉ f') y' v f') : ∃ fps', SR K ok0 (env.set x (some (setPv pv ks y'))) fps' σ (upd H a o) ∧ Stp fps H fps' (upd H a o) := by
  have axf : a ∈ fps x := F.sub a ha
  obtain ⟨fp', l1, l2, l3⟩ := F.back (upd H a o) (fun b => okS ok0 fps b ∧ b ∉ f') y' f' (fun b o hb hn => by rw [upd_ne (fun e => hn (by rw [e]; exact ha))]; exact hb) (fun b z => ⟨hok b z, fun hb => (hok b z).2 x (F.sub b (sub b hb))⟩) r nd (fun b hb => .inl (sub b hb))
  have l4 : ∀ b ∈ fp', b ∈ fps x := fun b hb => (l3 b hb).elim (fun z => z) fun z => F.sub b (sub b z)
  have hl : x < env.length := (List.getElem?_eq_some_iff.mp ev).1
  obtain ⟨S2, st⟩ := S.chg (x := x) (a := a) (o := o) (fq' := fp') (pv' := setPv pv ks y') hl rfl axf hm ho (l1.imp fun b z => ⟨z.1, fun hb => z.1.2 x (l4 b hb)⟩) l2 l4 e0
  exact ⟨_, S2, st⟩
def rIns : V → List V → Hp → VK → Prop := fun x vs H Q => ∃ (l : Addr) (xs : List V) (i : Int) (y : V), x = .ref l ∧ vs = [.int i, y] ∧ H l = some (.lst xs) ∧ xs.length < sizeLine ∧ 0 ≤ i ∧ i < 2 ^ 63 ∧
    Q .non (upd H l (.lst (xs.take i.toNat ++ [y] ++ xs.drop i.toNat)))
theorem sdi_imp {p : Px} {k : Ex} {m : Nat} {D : Ends} {σ : L2.St} {H : Hp} (h : tS X.K ca cl w W (.sdi p k m) D σ H) :
    tDSetd (tP X.K ca cl W p) (tE X.K ca cl W k) (tLst tNil) σ H fun v Hx => tyV X.K "list" v Hx ∧ ∃ vm, σ[m]? = some (some vm) ∧ rIns v [.int 0, vm] Hx fun _ H3 => D.nx σ H3 := by
  obtain ⟨ok0, env, fps, S, hm⟩ := h
  replace hm : PostS X.K ca W ok0 fps H D (RS.of (evP cl env p) env fun q => if isDO q.2 = true then RS.of (evE cl env k) env fun j => RS.of (getE env m) env fun y => sdiS p.root q (frz j) y env else .bad) := hm
  refine ⟨ok0, env, fps, S, ?_⟩
  cases e1 : evP cl env p with
  | exc c => rw [e1] at hm; exact fun d H' s => hm d σ H' fps (S.same s) (Stp.same s)
  | bad => rw [e1] at hm; exact hm.elim
  | ok q =>
    rw [e1] at hm
    obtain ⟨ks, z⟩ := q
    intro H1 pv v0 v f s1 ev e0 F
    replace hm : PostS X.K ca W ok0 fps H D (if isDO z = true then RS.of (evE cl env k) env fun j => RS.of (getE env m) env fun y => sdiS p.root (ks, z) (frz j) y env else .bad) := hm
    by_cases hy : isDO z = true
    · rw [if_pos hy] at hm
      obtain ⟨dks, xs, rfl⟩ : ∃ dks xs, z = .dct true dks xs := by
        unfold isDO at hy
        split at hy
        · exact ⟨_, _, rfl⟩
        · cases hy
      have F' : Foc X.K H1 (fun a => okS ok0 fps a ∧ ∃ u, H a = some u) pv v0 (fps p.root) ks (.dct true dks xs) v f := F
      have S1 := S.same s1
      obtain ⟨a, us, fq, rfl, rfl, hH, hz, rx⟩ : ∃ a us fq, v = .ref a ∧ f = a :: fq ∧ H1 a = some (.dK (dks.zip us)) ∧ (dks.length = us.length ∧ ksB dks = true) ∧ Rps X.K H1 (fun a => okS ok0 fps a ∧ ∃ u, H a = some u) xs us fq := by
        have rf := F'.rp
        cases rf with
        | dctO hH hz rx => exact ⟨_, _, _, rfl, rfl, hH, hz, rx⟩
      refine ⟨a, rfl, .inl ⟨_, .inl hH⟩, env, okE ok0 fps (vE k), S1.ein, S1.frE, PostS.post S1 (PostS.mono (Stp.same s1) hm) fun jv H2 uk f2 _ s2 r2 f2n n2 q2 => ⟨Nat.zero_le _, fun q' hq => ?_⟩⟩
      cases em : getE env m with
      | exc c =>
        unfold getE at em
        split at em <;> cases em
      | bad => rw [em] at q2; exact q2.elim
      | ok y =>
        rw [em] at q2
        generalize p.root = x at *
        replace q2 : PostS X.K ca W ok0 fps H1 D (if (isS (frz jv) && (flat y && decide (dks.length < most))) = true then (match keyV (frz jv) with
          | some j => (match dlook dks xs j with
            | some z => (match z with
              | .lst true zs => if zs.length < most then chS x (ks ++ [frz jv]) (.lst true (y :: zs)) env env[x]? else .bad
              | _ => .bad)
            | none => chS x ks (.dct true (dks ++ [j]) (xs ++ [.lst true [y]])) env env[x]?)
          | none => .bad) else .bad) := q2
        obtain ⟨vm, m1, m2⟩ := (S.ein (is := [m])).2 m (List.mem_singleton.mpr rfl) y em
        by_cases hc : (isS (frz jv) && (flat y && decide (dks.length < most))) = true
        · rw [if_pos hc] at q2
          rw [Bool.and_eq_true, Bool.and_eq_true, decide_eq_true_eq] at hc
          obtain ⟨c0, c1, c2⟩ := hc
          cases ej : keyV (frz jv) with
          | none => rw [ej] at q2; exact q2.elim
          | some j =>
            simp only [ej] at q2
            have r2' := r2.frz (ok' := fun _ => True) (fun _ _ => True.intro) fun _ _ => True.intro
            obtain ⟨eu, _, _⟩ := key_rp r2' ej
            have kb := kB_of r2' ej
            have s3 : Same H2 (upd H2 q' (.lst [])) := same_upd hq
            have hH2 := s2 a _ hH
            have hH3 := s3 a _ hH2
            have aq : a ≠ q' := fun e => by rw [e, hq] at hH2; cases hH2
            have nodk : dks.Nodup := by
              have hb := hz.2
              unfold ksB at hb
              rw [Bool.and_eq_true, decide_eq_true_eq] at hb
              exact hb.2
            have axf : a ∈ fps x := F'.sub a List.mem_cons_self
            have qx : ∀ b ∈ fq, b ∈ fps x := fun b z => F'.sub b (List.mem_cons_of_mem _ z)
            have nda := F'.nd
            refine ⟨dks.zip us, j, hH3, eu, ?_, ?_⟩
            · rw [List.length_zip, ← hz.1, Nat.min_self, ← most_eq]
              exact c2
            · cases ed : dlook dks xs j with
              | some zl =>
                simp only [ed] at q2
                obtain ⟨zs, rfl⟩ : ∃ zs, zl = .lst true zs := by
                  cases zl with
                  | lst o zs =>
                    cases o with
                    | true => exact ⟨zs, rfl⟩
                    | false => exact q2.elim
                  | _ => exact q2.elim
                replace q2 : PostS X.K ca W ok0 fps H1 D (if zs.length < most then chS x (ks ++ [frz jv]) (.lst true (y :: zs)) env env[x]? else .bad) := q2
                by_cases hl : zs.length < most
                · rw [if_pos hl, ev] at q2
                  replace q2 : PostS X.K ca W ok0 fps H1 D (.fl (.next (env.set x (some (setPv pv (ks ++ [frz jv]) (.lst true (y :: zs))))))) := q2
                  have gk : getK (.dct true dks xs) (frz jv) = some (.lst true zs) := by
                    show (match keyV (frz jv) with | some j => dlook dks xs j | none => none) = _
                    rw [ej]
                    exact ed
                  obtain ⟨u, g, rd, F2⟩ := ((F'.same s2).same s3).step (fun b hb => hb.1.2 x) gk
                  have eval : valV (dks.zip us) j = some u := by
                    rcases rd with ⟨a2, us2, i, rfl2, ek, ho, ea⟩ | ⟨a2, kvs2, j2, ea2, ek, ho, ea⟩
                    · rw [ek] at c0
                      cases c0
                    · cases ea2
                      rw [hH3] at ho
                      cases ho
                      rw [ej] at ek
                      cases ek
                      exact ea
                  have S3 := (S1.same s2).same s3
                  obtain ⟨l, ls, gq, rfl, rfl, hl3, rl⟩ : ∃ l ls gq, u = .ref l ∧ g = l :: gq ∧ upd H2 q' (.lst []) l = some (.lst ls) ∧ Rps X.K (upd H2 q' (.lst [])) (fun a => okS ok0 fps a ∧ ∃ u, H a = some u) zs ls gq := by
                    have rf := F2.rp
                    cases rf with
                    | lstO hH rx => exact ⟨_, _, _, rfl, rfl, hH, rx⟩
                  have lxf : l ∈ fps x := F2.sub l List.mem_cons_self
                  obtain ⟨fps', S4, st4⟩ := one_core (y' := .lst true (y :: zs)) (o := .lst (vm :: ls)) (f' := l :: gq) S3 ev e0 F2 (fun b z => z.1) List.mem_cons_self ⟨_, hl3, rfl⟩ rfl (fun _ z => z) F2.nd
                    (.lstO upd_same (.cons (f := []) (flat_any m2 c1) (rl.keep (M := fun b => b = l) (fun b o e n => by rw [upd_ne n]; exact e) (fun b e => ⟨.lst ls, by rw [e]; exact hl3, rfl⟩) (fun b z => ⟨z.1, fun hb => z.1.2 x (F2.sub b hb)⟩) (fun b z e => z.1.2 x (by rw [e]; exact lxf)) fun b z e => (List.nodup_cons.mp F2.nd).1 (by rw [← e]; exact z))))
                  refine ⟨fun v' hv' => ?_, fun hn => by rw [eval] at hn; cases hn⟩
                  rw [eval] at hv'
                  cases hv'
                  refine ⟨.inl ⟨rfl, _, .inl (.inl hl3)⟩, vm, m1, l, ls, 0, vm, rfl, rfl, hl3, ?_, by decide, by decide, q2 σ _ _ S4 ((Stp.same (s2.trans s3)).trans st4)⟩
                  rw [← rl.len, ← most_eq]
                  exact hl
                · rw [if_neg hl] at q2
                  exact q2.elim
              | none =>
                simp only [ed] at q2
                rw [ev] at q2
                replace q2 : PostS X.K ca W ok0 fps H1 D (.fl (.next (env.set x (some (setPv pv ks (.dct true (dks ++ [j]) (xs ++ [.lst true [y]]))))))) := q2
                have lxs : dks.length = xs.length := by rw [hz.1, rx.len]
                have jn : j ∉ dks := dlook_out lxs ed
                have vn : valV (dks.zip us) j = none := valV_out (by rw [List.map_fst_zip (by omega)]; exact jn)
                refine ⟨fun v' hv' => (by rw [vn] at hv'; cases hv'), fun _ => ?_⟩
                have hq3 : upd (upd H2 q' (.lst [])) a (.dK (putK (dks.zip us) j (.ref q'))) q' = some (.lst []) := by rw [upd_ne (Ne.symm aq), upd_same]
                refine ⟨.inl ⟨rfl, _, .inl (.inl hq3)⟩, vm, m1, q', [], 0, vm, rfl, rfl, hq3, by decide, by decide, by decide, ?_⟩
                have sn : Same H2 (upd H2 q' (.lst [vm])) := same_upd hq
                have S2 := S1.same s2
                have frf : ∀ i, q' ∉ fps i := fun i hi => by
                  obtain ⟨_, u, hu, _⟩ := S2.own i q' hi
                  rw [hq] at hu
                  cases hu
                have Sn := S2.avoid (fp := [q']) sn (fun b hb => by rw [List.mem_singleton.mp hb]; exact hq) fun b hb => ⟨.lst [vm], by rw [List.mem_singleton.mp hb]; exact upd_same, rfl⟩
                have ry : Rp X.K (upd H2 q' (.lst [vm])) (okn (okS ok0 fps) [q']) (.lst true [y]) (.ref q') [q'] := .lstO upd_same (.cons (f := []) (fs := []) (flat_any m2 c1) .nil)
                have rxn : Rps X.K (upd H2 q' (.lst [vm])) (okn (okS ok0 fps) [q']) xs us fq := ((rx.imp fun b z => ⟨z.1, fun hb => by
                  obtain ⟨u, hu⟩ := z.2
                  have := s2 b u (s1 b u hu)
                  rw [List.mem_singleton.mp hb, hq] at this
                  cases this⟩).same s2).same sn
                obtain ⟨us', fq', g1, g2, g3, g4, g5⟩ := put_rep (j := j) (K := X.K) (ok := okn (okS ok0 fps) [q']) ry rxn hz kb
                have epd : putD dks xs j (.lst true [y]) = (dks ++ [j], xs ++ [.lst true [y]]) := by
                  unfold putD
                  rw [ed]
                  rfl
                rw [epd] at g1 g2 g3
                have nq := g5 (List.nodup_cons.mp nda).2 (by simp) fun b hb hqq => frf x (by rw [← List.mem_singleton.mp hb]; exact qx b hqq)
                have naq' : a ∉ fq' := fun z => by
                  rcases g4 a z with z | z
                  · exact (List.nodup_cons.mp nda).1 z
                  · exact aq (List.mem_singleton.mp z)
                have Fn := (F'.same s2).same sn
                have hHn := sn a _ hH2
                obtain ⟨fp', l1, l2, l3⟩ := Fn.back (upd (upd H2 q' (.lst [vm])) a (.dK ((dks ++ [j]).zip us'))) (fun b => okS ok0 fps b ∧ b ∉ a :: fq') (.dct true (dks ++ [j]) (xs ++ [.lst true [y]])) (a :: fq') (fun b o hb hn => by rw [upd_ne (fun e => hn (by rw [e]; exact List.mem_cons_self))]; exact hb)
                  (fun b z => by
                    refine ⟨z.1, fun hb => ?_⟩
                    rcases List.mem_cons.mp hb with e | hb
                    · exact z.1.2 x (by rw [e]; exact axf)
                    · rcases g4 b hb with hb | hb
                      · exact z.1.2 x (qx b hb)
                      · obtain ⟨u, hu⟩ := z.2
                        have := s2 b u (s1 b u hu)
                        rw [List.mem_singleton.mp hb, hq] at this
                        cases this)
                  (.dctO upd_same g2 (g3.keep (M := fun b => b = a) (fun b o e n => by rw [upd_ne n]; exact e) (fun b e => ⟨.dK (dks.zip us), by rw [e]; exact hHn, rfl⟩)
                    (fun b z => ⟨z.1, fun hb => (List.mem_cons.mp hb).elim (fun e => z.1.2 x (by rw [e]; exact axf)) fun hb => (g4 b hb).elim (fun hb => z.1.2 x (qx b hb)) z.2⟩) (fun b z e => z.1.2 x (by rw [e]; exact axf)) fun b z e => naq' (by rw [← e]; exact z)))
                  (List.nodup_cons.mpr ⟨naq', nq⟩)
                  (fun b hb => by
                    rcases List.mem_cons.mp hb with e | hb
                    · exact .inl (by rw [e]; exact List.mem_cons_self)
                    · exact (g4 b hb).imp (fun z => List.mem_cons_of_mem _ z) fun z => by rw [List.mem_singleton.mp z]; exact frf x)
                have hl : x < env.length := (List.getElem?_eq_some_iff.mp ev).1
                have eh : upd (upd (upd H2 q' (.lst [])) a (.dK (putK (dks.zip us) j (.ref q')))) q' (.lst [vm]) = upd (upd H2 q' (.lst [vm])) a (.dK ((dks ++ [j]).zip us')) := by
                  rw [upd_comm aq, upd_upd, g1]
                show D.nx σ (upd (upd (upd H2 q' (.lst [])) a (.dK (putK (dks.zip us) j (.ref q')))) q' (.lst [vm]))
                rw [eh]
                refine q2 σ _ _ (Sn.mutV (fp := [q']) (fq' := fp') hl axf ⟨_, hHn, rfl⟩ rfl (l1.imp fun b z => ⟨z.1, fun hb => ?_⟩) l2 (fun b hb => ?_) (fun b hb => ⟨S2.fr b (by rw [List.mem_singleton.mp hb]; exact hq), fun i => by rw [List.mem_singleton.mp hb]; exact frf i⟩) e0) ⟨fun b o hb hn => ?_, fun i b hb => ?_, fun b hb => ?_⟩
                · rcases l3 b hb with hb | hb
                  · exact z.1.2 x hb
                  · exact z.2 hb
                · rcases l3 b hb with hb | hb
                  · exact .inl hb
                  · rcases List.mem_cons.mp hb with e | hb
                    · exact .inl (by rw [e]; exact axf)
                    · exact (g4 b hb).imp (fun z => qx b z) fun z => z
                · rw [upd_ne (fun e => hn x (by rw [e]; exact axf))]
                  exact sn b o (s2 b o hb)
                · rcases updF_in hb with ⟨e, hb⟩ | ⟨e, hb⟩
                  · rcases l3 b hb with hb | hb
                    · exact .inl ⟨x, hb⟩
                    · rcases List.mem_cons.mp hb with e | hb
                      · exact .inl ⟨x, by rw [e]; exact axf⟩
                      · exact (g4 b hb).imp (fun z => ⟨x, qx b z⟩) fun z => s2.free (by rw [List.mem_singleton.mp z]; exact hq)
                  · exact .inl ⟨i, hb⟩
                · by_cases e : b = a
                  · rw [e, upd_same] at hb
                    cases hb
                  · rw [upd_ne e] at hb
                    exact s2.free (sn.free hb)
        · rw [if_neg hc] at q2
          exact q2.elim
    · rw [if_neg hy] at hm
      exact hm.elim
end
end BW

/-! try: .. except X: one assignment. -/
namespace BW
open PySem PySem.Spec PyProof.Rows
open L2 hiding St

abbrev Ecs := List (Str × Nat)
/-- what the written part tells of the module's exceptions -/
structure ExF (K : PySem.W.Frag) (n : Nat) (ca : Nat → Addr) : Prop where
  exm : ∀ c x, c < n → x < n → PySem.W.exmOne K (.ref (ca c)) (.ref (ca x)) = some (caught c x)
  kit : ∀ c x, c < n → x < n → PySem.W.kitOne K (.ref (ca c)) (.ref (ca x)) = some (caught c x)
  ve : ∀ c, c < n → PySem.W.kitOne K (.ref (ca c)) (.type "ValueError") = some true
  ec : ∀ c, c < n → ExcC K (ca c)
def isiE (tc : Tc) (i : Nat) (py : Expr) : Option Str := match py with
  | .Call (.Name f _) [.Name e _, .Name c _] [] _ => if (glB tc.sc f && (decide (f = ("isinstance" : Str)) && (nameB tc i e && (glB tc.sc c && !odd c)))) = true then some c else none
  | _ => none
/-- isinstance(e, (A, B, ..)) -/
def isiT (tc : Tc) (i : Nat) (py : Expr) : Option (List Expr) := match py with
  | .Call (.Name f _) [.Name e _, .Tuple cs _ _] [] _ => if (glB tc.sc f && (decide (f = ("isinstance" : Str)) && (nameB tc i e && decide (cs.length ≤ 1000)))) = true then some cs else none
  | _ => none
/-- not one of them -/
def nsB (tc : Tc) (ec : Ecs) : Bx → List Expr → Bool
  | .not (.is x), py => (match py with
    | [.Name c _] => glB tc.sc c && (!odd c && decide (ec.lookup c = some x))
    | _ => false)
  | .and (.not (.is x)) r, py => (match py with
    | .Name c _ :: cs => glB tc.sc c && (!odd c && (decide (ec.lookup c = some x) && nsB tc ec r cs))
    | _ => false)
  | _, _ => false
def ckB (tc : Tc) (ec : Ecs) (i : Nat) : Bx → Expr → Bool
  | .is x, py => (match isiE tc i py with
    | some c => decide (ec.lookup c = some x)
    | none => false)
  | .isV, py => (match isiE tc i py with
    | some c => decide (c = ("ValueError" : Str))
    | none => false)
  | .not a, py => (match py with
    | .UnaryOp .Not o _ => ckB tc ec i a o
    | py => (match isiT tc i py with
      | some cs => nsB tc ec a cs
      | none => false))
  | .and a b, py => (match py with
    | .BoolOp .And [x, y] _ => ckB tc ec i a x && ckB tc ec i b y
    | .BoolOp .And (x :: y :: z :: r) pos => ckB tc ec i a x && ckB tc ec i b (.BoolOp .And (y :: z :: r) pos)
    | _ => false)
def ckBs (tc : Tc) (ec : Ecs) (i : Nat) : List Bx → List Expr → Bool
  | [], [] => true
  | b :: bs, e :: es => plainX e && (ckB tc ec i b e && ckBs tc ec i bs es)
  | _, _ => false
/-- i: the exception's name, if there is one -/
def ckK (tc : Tc) (ec : Ecs) (nm : Option Nat) : Kx → Expr → Bool
  | .b b, py => (match nm with
    | some i => ckB tc ec i b py
    | none => false)
  | .lst bs, py => (match nm with
    | some i => (match py with
      | .List xs _ => decide (bs.length ≤ 1000) && ckBs tc ec i bs xs
      | _ => false)
    | none => false)
  | .bl b, py => (match py with
    | .Constant (.bool c) _ _ => b == c
    | _ => false)
  | .str z, py => (match py with
    | .Constant (.str y) _ _ => decide (z = y) && PyData.strOk z
    | _ => false)
  | .inc j, py => (match py with
    | .BinOp (.Name x _) .Add (.Constant (.int 1) _ _) _ => nameB tc j x
    | _ => false)
section
variable {X : Cx} {a : Addr} {oe : Obj} {cls : Value} {d : Option Addr} {pn : List (Addr × Obj)} {ca : Nat → Addr} {tc : Tc} {ec : Ecs} {n : Nat} {i : Nat}
/-- the facts in a suite -/
structure Sut (X : Cx) (tc : Tc) (ec : Ecs) (n : Nat) (ca : Nat → Addr) (cls : Value) (d : Option Addr) (oe : Obj) : Prop where
  nd : X.N.Nodup
  N : tc.N = X.N
  sc : tc.sc = X.env.scope
  blt : ∀ x ∈ bnames, X.mg x = none
  fnx : ∀ x, X.fn x = true
  exs : ∀ x c, ec.lookup x = some c → X.mg x = some (.ref (ca c)) ∧ c < n
  F : ExF X.K n ca
  hz : Zc cls d oe
  hf : ∃ vs, oe.data = .fields vs
def tBx (cls : Value) (d : Option Addr) (n : Nat) (ca : Nat → Addr) (a : Addr) (i : Nat) (b : Bx) : TE := fun σ H Q => ∃ c, cls = .ref (ca c) ∧ d = none ∧ c < n ∧ σ[i]? = some (some (.ref a)) ∧ ∀ H', Same H H' → Q (.bl (evB c b)) H'
/-- isinstance(e, (c1, c2, ..)), e the exception that the suite holds -/
def rIsET (K : PySem.W.Frag) (cls : Value) (d : Option Addr) (a : Addr) : List V → Hp → VK → Prop := fun xs H Q => ∃ (D tp : Addr) (cs : List V) (us : List Value) (b : Bool), cls = .ref D ∧ d = none ∧ ExcC K D ∧ xs = [.ref a, .ref tp] ∧ H tp = some (.tup cs) ∧ Paired ClsV cs us ∧ PySem.W.kitAny K (.ref D) us = some b ∧ Q (.bl b) H
theorem call_isET (S : Sut X tc ec n ca cls d oe) : CallR (X.suite a ((a, oe) :: pn)) (.builtin "isinstance") (rIsET X.K cls d a) := by
  intro pins s σ H xs us Q I r h
  obtain ⟨D, tp, cs, ws, b, rfl, rfl, C, rfl, hT, k, e, q⟩ := h
  obtain ⟨u1, u2, rfl, r1, r2⟩ := vals2 r
  cases (show u2 = Value.ref tp from r2)
  cases (show u1 = Value.ref a from r1)
  obtain ⟨_, its, rv, o, h1, h2, n, h3⟩ := (show ObjOk X.prog X.w H s.heap tp (.tup cs) from I.hok tp _ hT)
  have e3 := ClsV.all k rv
  subst e3
  obtain ⟨oc, od, dt, sl⟩ := o
  simp only at h2 h3
  subst h2 h3
  obtain ⟨hget, _⟩ := I.pin (a, oe) (List.mem_append.mpr (.inl List.mem_cons_self))
  obtain ⟨vs, hv⟩ := S.hf
  have hz := S.hz
  have J : PySem.W.InstAt s.heap a oe D none := by
    obtain ⟨oc, od, oda, osl⟩ := oe
    obtain ⟨h1, h2⟩ := hz
    dsimp only at h1 h2 hv
    subst h1 h2 hv
    exact ⟨hget, rfl, rfl, trivial⟩
  exact PySem.W.kia_tup (PySem.W.handS_kitx_exc C.hg C.hk C.hs C.hd C.ha C.hn C.ht C.hm) I.kIn J h1 e (fun z => nomatch z) fun tk => ⟨.bl b, H, I.kept (t' := tk) fun _ _ z => z, rfl, q⟩
def rIsX (K : PySem.W.Frag) (cls : Value) (d : Option Addr) (a : Addr) : List V → Hp → VK → Prop := fun xs H Q => ∃ D, cls = .ref D ∧ d = none ∧ ExcC K D ∧ rIsE K D a xs H Q
theorem call_isX (S : Sut X tc ec n ca cls d oe) : CallR (X.suite a ((a, oe) :: pn)) (.builtin "isinstance") (rIsX X.K cls d a) := by
  intro pins s σ H xs us Q I r h
  obtain ⟨D, rfl, rfl, C, h⟩ := h
  exact call_isE C S.hz S.hf pins s σ H xs us Q I r h
theorem vis_of {x : Str} (S : Sut X tc ec n ca cls d oe) (h : nameB tc i x = true) : X.N[i]? = some x ∧ Vis X.env.scope x ∧ (x == ("__debug__" : Str)) = false ∧ (x == ("__classdict__" : Str)) = false := by
  unfold nameB at h
  rw [Bool.and_eq_true, Bool.and_eq_true, decide_eq_true_eq] at h
  obtain ⟨h1, h2, h3⟩ := h
  refine ⟨by rw [← S.N]; exact h1, ?_, ?_⟩
  · rw [S.sc] at h2
    unfold visB at h2
    unfold Vis
    split at h2 <;> first | exact .inl (by assumption) | exact .inr (.inl (by assumption)) | exact .inr (.inr (by assumption)) | cases h2
  · unfold odd at h3
    rw [Bool.not_eq_true', Bool.or_eq_false_iff] at h3
    exact h3
theorem glS {x : Str} (S : Sut X tc ec n ca cls d oe) (h : glB tc.sc x = true) : Gl (X.suite a pn) x := by
  rw [S.sc] at h
  unfold glB at h
  show X.env.scope.names.lookup x = _
  split at h
  · assumption
  · cases h
/-- isinstance(e, C) -/
theorem isi_pe {py : Expr} {y : Str} {u : V} {cv : Value} (S : Sut X tc ec n ca cls d oe) (h : isiE tc i py = some y) (hc : ∀ p, Gl (X.suite a ((a, oe) :: pn)) y → PE (X.suite a ((a, oe) :: pn)) (.Name y p) (tC u)) (hu : ∀ w, RelV u w → w = cv)
    (b : Nat → Bool) (hk : ∀ c, c < n → PySem.W.kitOne X.K (.ref (ca c)) cv = some (b c)) : PE (X.suite a ((a, oe) :: pn)) py fun σ H Q => ∃ c, cls = .ref (ca c) ∧ d = none ∧ c < n ∧ σ[i]? = some (some (.ref a)) ∧ Q (.bl (b c)) H := by
  unfold isiE at h
  split at h
  · rename_i f p1 e p2 c p3 p4
    split at h
    · rename_i q
      rw [Bool.and_eq_true, Bool.and_eq_true, Bool.and_eq_true, Bool.and_eq_true, decide_eq_true_eq] at q
      obtain ⟨q1, rfl, q3, q4, q5⟩ := q
      cases h
      obtain ⟨v1, v2, v3, v4⟩ := vis_of S q3
      have pv : PE (X.suite a ((a, oe) :: pn)) (.Name e p2) (tVar i) := pe_var v1 v2 v3 v4
      refine PE.imp (pe_callB (call_isX (pn := pn) S) (glS S q1) (S.blt _ (by decide +kernel)) PyProof.Rows.boot_isinstance (pa_cons pv (pa_cons (hc p3 (glS S q4)) pa_nil rfl) rfl) (by decide +kernel) (by decide +kernel) rfl rfl) fun σ H Q hq => ?_
      obtain ⟨c', rfl, rfl, hn, hs, hq⟩ := hq
      exact ⟨.ref a, hs, ca c', rfl, rfl, S.F.ec c' hn, u, cv, b c', rfl, hu, hk c' hn, hq⟩
    · cases h
  · cases h
theorem nd_of {x : Str} (h : odd x = false) : (x == ("__debug__" : Str)) = false := by
  unfold odd at h
  rw [Bool.or_eq_false_iff] at h
  exact h.1
theorem isi_odd {py : Expr} {y : Str} (h : isiE tc i py = some y) : odd y = false := by
  unfold isiE at h
  split at h
  · split at h
    · rename_i q
      cases h
      rw [Bool.and_eq_true, Bool.and_eq_true, Bool.and_eq_true, Bool.and_eq_true, Bool.not_eq_true'] at q
      exact q.2.2.2.2
    · cases h
  · cases h
theorem ns_pa (S : Sut X tc ec n ca cls d oe) : ∀ (b : Bx) (cs : List Expr), nsB tc ec b cs = true → ∃ xs : List Nat, (∀ c, evB c b = !(xs.any (caught c))) ∧ xs.length = cs.length ∧ (∀ x ∈ xs, x < n) ∧ PA (X.suite a ((a, oe) :: pn)) cs fun σ H Q => Q (xs.map fun x => V.ref (ca x)) H
  | .not (.is x), py, h => by
    unfold nsB at h
    split at h
    · rename_i y p
      rw [Bool.and_eq_true, Bool.and_eq_true, decide_eq_true_eq, Bool.not_eq_true'] at h
      obtain ⟨m, hx⟩ := S.exs y x h.2.2
      refine ⟨[x], fun c => by simp [evB], rfl, fun z hz => by rw [List.mem_singleton.mp hz]; exact hx, ?_⟩
      exact PA.imp (pa_cons (pe_glob (v := .ref (ca x)) (glS S h.1) m rfl (nd_of h.2.1)) pa_nil rfl) fun σ H Q hq => hq
    · cases h
  | .and (.not (.is x)) r, py, h => by
    unfold nsB at h
    split at h
    · rename_i y p cs
      rw [Bool.and_eq_true, Bool.and_eq_true, Bool.and_eq_true, decide_eq_true_eq, Bool.not_eq_true'] at h
      obtain ⟨m, hx⟩ := S.exs y x h.2.2.1
      obtain ⟨xs, h1, h2, h3, h4⟩ := ns_pa S r cs h.2.2.2
      refine ⟨x :: xs, fun c => by show (!caught c x && evB c r) = _; rw [h1]; simp, by rw [List.length_cons, h2]; rfl, fun z hz => ?_, ?_⟩
      · rcases List.mem_cons.mp hz with rfl | hz
        · exact hx
        · exact h3 z hz
      · exact PA.imp (pa_cons (pe_glob (v := .ref (ca x)) (glS S h.1) m rfl (nd_of h.2.1)) h4 rfl) fun σ H Q hq => hq
    · cases h
  | .is _, _, h => by cases h
  | .isV, _, h => by cases h
  | .not .isV, _, h => by cases h
  | .not (.not _), _, h => by cases h
  | .not (.and _ _), _, h => by cases h
  | .and (.is _) _, _, h => by cases h
  | .and .isV _, _, h => by cases h
  | .and (.and _ _) _, _, h => by cases h
  | .and (.not .isV) _, _, h => by cases h
  | .and (.not (.not _)) _, _, h => by cases h
  | .and (.not (.and _ _)) _, _, h => by cases h
theorem kit_all (S : Sut X tc ec n ca cls d oe) {c : Nat} (hc : c < n) : ∀ xs : List Nat, (∀ x ∈ xs, x < n) → PySem.W.kitAny X.K (.ref (ca c)) (xs.map fun x => Value.ref (ca x)) = some (xs.any (caught c))
  | [], _ => kitAny_nil
  | x :: xs, h => by
    have i := kit_all S hc xs fun z hz => h z (List.mem_cons_of_mem _ hz)
    refine kitAny_cons (b := caught c x) (S.F.kit c x hc (h x List.mem_cons_self)) (fun e => ?_) fun e => ?_
    · rw [i]
      simp [e]
    · simp [e]
theorem cls_all {ca : Nat → Addr} : ∀ xs : List Nat, Paired ClsV (xs.map fun x => V.ref (ca x)) (xs.map fun x => Value.ref (ca x))
  | [] => .nil
  | x :: xs => .cons (.own (ca x)) (cls_all xs)
theorem isiT_pe (S : Sut X tc ec n ca cls d oe) {py : Expr} {cs : List Expr} {b : Bx} (h : isiT tc i py = some cs) (hb : nsB tc ec b cs = true) : PE (X.suite a ((a, oe) :: pn)) py (tBx cls d n ca a i (.not b)) := by
  unfold isiT at h
  split at h
  · rename_i f p1 e p2 cs' k p3 p4
    split at h
    · rename_i q
      rw [Bool.and_eq_true, Bool.and_eq_true, Bool.and_eq_true, decide_eq_true_eq, decide_eq_true_eq] at q
      obtain ⟨q1, rfl, q3, q4⟩ := q
      cases h
      obtain ⟨v1, v2, v3, v4⟩ := vis_of S q3
      have pv : PE (X.suite a ((a, oe) :: pn)) (.Name e p2) (tVar i) := pe_var v1 v2 v3 v4
      obtain ⟨xs, h1, h2, h3, h4⟩ := ns_pa (a := a) (pn := pn) S b cs hb
      refine PE.imp (pe_callB (call_isET (pn := pn) S) (glS S q1) (S.blt _ (by decide +kernel)) PyProof.Rows.boot_isinstance (pa_cons pv (pa_cons (pe_tup h4) pa_nil rfl) rfl) (by decide +kernel) (by decide +kernel) rfl rfl) fun σ H Q hq => ?_
      obtain ⟨c', rfl, rfl, hn, hs, hq⟩ := hq
      refine ⟨.ref a, hs, ?_, fun tp htp => ?_⟩
      · rw [List.length_map, h2]
        exact line1000 q4
      · refine ⟨ca c', tp, _, _, _, rfl, rfl, S.F.ec c' hn, rfl, upd_same, cls_all xs, kit_all S hn xs h3, ?_⟩
        have := hq _ (same_upd (o := .tup (xs.map fun x => V.ref (ca x))) htp)
        have e : evB c' (.not b) = xs.any (caught c') := by
          show (!evB c' b) = _
          rw [h1 c', Bool.not_not]
        rw [e] at this
        exact this
    · cases h
  · cases h
theorem b_pe (S : Sut X tc ec n ca cls d oe) : ∀ (b : Bx) (py : Expr), ckB tc ec i b py = true → PE (X.suite a ((a, oe) :: pn)) py (tBx cls d n ca a i b)
  | .is x, py, h => by
    unfold ckB at h
    split at h
    · rename_i y e
      have h := of_decide_eq_true h
      obtain ⟨m, hx⟩ := S.exs y x h
      exact PE.imp (isi_pe (u := .ref (ca x)) (cv := .ref (ca x)) S e (fun p hg => pe_glob hg m rfl (nd_of (isi_odd e))) (fun w r => r) (fun c => caught c x) fun c hc => S.F.kit c x hc hx) fun σ H Q hq => by
        obtain ⟨c, h1, h2, h3, h4, h5⟩ := hq
        exact ⟨c, h1, h2, h3, h4, h5 H (Same.refl H)⟩
    · cases h
  | .isV, py, h => by
    unfold ckB at h
    split at h
    · rename_i y e
      have h := of_decide_eq_true h
      subst h
      exact PE.imp (isi_pe (u := .ty "ValueError") (cv := .type "ValueError") S e (fun p hg => pe_bltn hg (S.blt _ (by decide +kernel)) (by decide +kernel) rfl (by decide +kernel) (by decide +kernel)) (fun w r => r) (fun _ => true) fun c hc => S.F.ve c hc) fun σ H Q hq => by
        obtain ⟨c, h1, h2, h3, h4, h5⟩ := hq
        exact ⟨c, h1, h2, h3, h4, h5 H (Same.refl H)⟩
    · cases h
  | .not b, py, h => by
    unfold ckB at h
    split at h
    · refine PE.imp (pe_not (b_pe S b _ h)) fun σ H Q hq => ?_
      obtain ⟨c, h1, h2, h3, h4, h5⟩ := hq
      exact ⟨c, h1, h2, h3, h4, fun H' s' => ⟨_, rfl, h5 H' s'⟩⟩
    · split at h
      · rename_i cs e
        exact isiT_pe S e h
      · cases h
  | .and b b', py, h => by
    have go : ∀ {x : Expr} {r : List Expr} {p : Pos} {y : Expr}, PE (X.suite a ((a, oe) :: pn)) x (tBx cls d n ca a i b) → PE (X.suite a ((a, oe) :: pn)) (.BoolOp .And (y :: r) p) (tBx cls d n ca a i b') → PE (X.suite a ((a, oe) :: pn)) (.BoolOp .And (x :: y :: r) p) (tBx cls d n ca a i (.and b b')) := fun {x r p y} k1 k2 => by
      refine PE.imp (pe_and k1 k2) fun σ H Q hq => ?_
      obtain ⟨c, h1, h2, h3, h4, h5⟩ := hq
      refine ⟨c, h1, h2, h3, h4, fun H' s' => ⟨_, rfl, ?_⟩⟩
      have h5 : ∀ H', Same H H' → Q (.bl (evB c b && evB c b')) H' := h5
      cases q : evB c b with
      | true =>
        rw [if_pos rfl]
        simp only [q, Bool.true_and] at h5
        exact ⟨c, h1, h2, h3, h4, fun H2 s2 => h5 H2 (s'.trans s2)⟩
      | false =>
        rw [if_neg (by decide)]
        simp only [q, Bool.false_and] at h5
        exact h5 H' s'
    unfold ckB at h
    split at h
    · rw [Bool.and_eq_true] at h
      exact go (b_pe S b _ h.1) (pe_one (b_pe S b' _ h.2))
    · rw [Bool.and_eq_true] at h
      exact go (b_pe S b _ h.1) (b_pe S b' _ h.2)
    · cases h
def tBs (cls : Value) (d : Option Addr) (n : Nat) (ca : Nat → Addr) (a : Addr) (i : Nat) (bs : List Bx) : TA := fun σ H Q => ∃ c, cls = .ref (ca c) ∧ d = none ∧ c < n ∧ σ[i]? = some (some (.ref a)) ∧ ∀ H', Same H H' → Q (bs.map fun b => .bl (evB c b)) H'
theorem bs_pa (S : Sut X tc ec n ca cls d oe) : ∀ (bs : List Bx) (es : List Expr), ckBs tc ec i bs es = true → PA (X.suite a ((a, oe) :: pn)) es (tBs cls d n ca a i bs)
  | [], [], _ => PA.imp pa_nil fun σ H Q hq => by
    obtain ⟨c, h1, h2, h3, h4, h5⟩ := hq
    exact h5 H (Same.refl H)
  | b :: bs, e :: es, h => by
    have h : (plainX e && (ckB tc ec i b e && ckBs tc ec i bs es)) = true := h
    rw [Bool.and_eq_true, Bool.and_eq_true] at h
    refine PA.imp (pa_cons (b_pe S b e h.2.1) (bs_pa S bs es h.2.2) (star_of h.1)) fun σ H Q hq => ?_
    obtain ⟨c, h1, h2, h3, h4, h5⟩ := hq
    exact ⟨c, h1, h2, h3, h4, fun H' s' => ⟨c, h1, h2, h3, h4, fun H2 s2 => h5 H2 (s'.trans s2)⟩⟩
  | [], _ :: _, h => by cases h
  | _ :: _, [], h => by cases h
end
/-- a slot that no name of the evaluator's holds -/
theorem SR.slot {K : PySem.W.Frag} {ok0 : Addr → Prop} {env : PEnv} {fps : Fps} {σ : L2.St} {H : Hp} {i : Nat} {o : Option V} (S : SR K ok0 env fps σ H) (h : env[i]? = some none) : SR K ok0 env fps (σ.set i o) H where
  len := by rw [List.length_set]; exact S.len
  at_ := fun j pv e => by
    have q : i ≠ j := fun z => by rw [← z, h] at e; cases e
    obtain ⟨v, h1, h2⟩ := S.at_ j pv e
    exact ⟨v, by rw [List.getElem?_set_ne q]; exact h1, h2⟩
  nd := S.nd
  dj := S.dj
  own := S.own
  fr := S.fr
theorem aft_cl {x : PV} {is : List Nat} {env : PEnv} (h : cls x = true) : aft x is env = env := if_pos h
theorem cls_bls (bs : List Bx) (c : Nat) : clss (bs.map fun b => PV.bl (evB c b)) = true := by
  induction bs with
  | nil => rfl
  | cons b bs ih => exact ih
theorem evK_cls {c : Nat} {env : PEnv} {k : Kx} {x : PV} (h : evK c env k = .ok x) : cls x = true := by
  cases k with
  | b b => cases h; rfl
  | lst bs =>
    cases h
    exact cls_bls bs c
  | bl b => cases h; rfl
  | str z => cases h; rfl
  | inc i =>
    obtain ⟨y, _, e⟩ := bind_ok (show (getE env i).bind _ = .ok x from h)
    cases y <;> first | (cases e; rfl) | cases e
section
variable {X : Cx} {a : Addr} {oe : Obj} {cls : Value} {d : Option Addr} {pn : List (Addr × Obj)} {ca : Nat → Addr} {tc : Tc} {ec : Ecs} {n : Nat} {i : Nat}
theorem rps_bls {K : PySem.W.Frag} {H : Hp} {ok : Addr → Prop} {c : Nat} : ∀ bs : List Bx, Rps K H ok (bs.map fun b => PV.bl (evB c b)) (bs.map fun b => V.bl (evB c b)) []
  | [] => .nil
  | b :: bs => .cons0 (.bl _) (rps_bls bs)
/-- what the suite puts -/
def tKx (K : PySem.W.Frag) (cls : Value) (d : Option Addr) (n : Nat) (ca : Nat → Addr) (a : Addr) (nm : Option Nat) (k : Kx) : TE := fun σ H Q => ∃ c env fps ok0 x, cls = .ref (ca c) ∧ d = none ∧ c < n ∧ (∀ i, nm = some i → σ[i]? = some (some (.ref a))) ∧ SR K ok0 env fps σ H ∧ evK c env k = .ok x ∧ Got K H (okE ok0 fps []) Q x
theorem k_pe (S : Sut X tc ec n ca cls d oe) {nm : Option Nat} {k : Kx} {py : Expr} (h : ckK tc ec nm k py = true) : PE (X.suite a ((a, oe) :: pn)) py (tKx X.K cls d n ca a nm k) := by
  cases k with
  | b b =>
    cases nm with
    | none => cases h
    | some i =>
      refine PE.imp (b_pe S b py h) fun σ H Q hq => ?_
      obtain ⟨c, env, fps, ok0, x, h1, h2, h3, h4, h5, h6, h7⟩ := hq
      cases h6
      exact ⟨c, h1, h2, h3, h4 i rfl, fun H' s' => (Got.mono s' h7).bl⟩
  | lst bs =>
    cases nm with
    | none => cases h
    | some i =>
      unfold ckK at h
      dsimp only at h
      split at h
      · rename_i xs p
        rw [Bool.and_eq_true, decide_eq_true_eq] at h
        refine PE.imp (pe_lst (bs_pa S bs xs h.2)) fun σ H Q hq => ?_
        obtain ⟨c, env, fps, ok0, x, h1, h2, h3, h4, h5, h6, h7⟩ := hq
        cases h6
        refine ⟨c, h1, h2, h3, h4 i rfl, fun H' s' => ⟨?_, fun q hq => (Got.mono s' h7).lst (rps_bls bs) hq⟩⟩
        rw [List.length_map]
        exact line1000 h.1
      · cases h
  | bl b =>
    unfold ckK at h
    dsimp only at h
    split at h
    · rename_i c k p
      obtain rfl := eq_of_beq h
      refine PE.imp pe_bl fun σ H Q hq => ?_
      obtain ⟨c, env, fps, ok0, x, h1, h2, h3, h4, h5, h6, h7⟩ := hq
      cases h6
      exact h7.bl
    · cases h
  | str z =>
    unfold ckK at h
    dsimp only at h
    split at h
    · rename_i y k p
      rw [Bool.and_eq_true, decide_eq_true_eq] at h
      obtain ⟨rfl, h⟩ := h
      refine PE.imp pe_str fun σ H Q hq => ?_
      obtain ⟨c, env, fps, ok0, x, h1, h2, h3, h4, h5, h6, h7⟩ := hq
      cases h6
      exact h7.str h
    · cases h
  | inc j =>
    unfold ckK at h
    dsimp only at h
    split at h
    · rename_i y p1 k p2 p3
      obtain ⟨v1, v2, v3, v4⟩ := vis_of S h
      have pv : PE (X.suite a ((a, oe) :: pn)) (.Name y p1) (tVar j) := pe_var v1 v2 v3 v4
      refine PE.imp (pe_op op_add pv pe_int) fun σ H Q hq => ?_
      obtain ⟨c, env, fps, ok0, x, h1, h2, h3, h4, h5, h6, h7⟩ := hq
      obtain ⟨y, e1, e2⟩ := bind_ok (show (getE env j).bind _ = .ok x from h6)
      cases y with
      | int z =>
        cases e2
        obtain ⟨w, w1, w2⟩ := (h5.ein (is := [j])).2 j List.mem_cons_self _ e1
        cases w2
        exact ⟨_, w1, z, 1, rfl, rfl, h7.int⟩
      | _ => cases e2
    · cases h
/-- the suite's one statement -/
def tSut (K : PySem.W.Frag) (ca : Nat → Addr) (W : WX) (n : Nat) (nm : Option Nat) (t : Nat) (k : Kx) (a : Addr) (cls : Value) (d : Option Addr) : TS := fun D σ H => ∃ c ok0 env fps, cls = .ref (ca c) ∧ d = none ∧ c < n ∧ (∀ i, nm = some i → σ[i]? = some (some (.ref a))) ∧ SR K ok0 env fps σ H ∧
  PostS K ca W ok0 fps H D (RS.of (evK c env k) env fun v => .fl (.next (env.set t (some v))))
theorem sut_ps {W : WX} (S : Sut X tc ec n ca cls d oe) {nm : Option Nat} {k : Kx} {t : Nat} {y : Str} {py : Expr} {p pos : Pos} (h1 : X.N[t]? = some y) (h2 : Loc X.env.scope y) (h : ckK tc ec nm k py = true) (hn : noLc py = true) :
    PSs (X.suite a ((a, oe) :: pn)) [.Assign [.Name y p] py pos] (tSut X.K ca W n nm t k a cls d) := by
  refine PSs.imp (pss_one (ps_set (X := X.suite a ((a, oe) :: pn)) S.nd h1 h2 (k_pe S h) (sw_no hn) (.inl (S.fnx _)))) fun D σ H hq => ?_
  obtain ⟨c, ok0, env, fps, e1, e2, e3, e4, SS, q⟩ := hq
  cases e5 : evK c env k with
  | ok x =>
    rw [e5] at q
    refine ⟨c, env, fps, ok0, x, e1, e2, e3, e4, SS, e5, fun H' v fp s r f nd => ?_⟩
    obtain ⟨fps2, S2, r2, sub⟩ := SS.aft1 (is := []) s r f
    rw [aft_cl (evK_cls e5)] at S2
    refine q _ H' _ (S2.set1 (i := t) r2 nd fun b hb => ⟨SS.fr b (f b hb), fun j hj => ?_⟩) (Stp.of s fun j b z => ?_)
    · obtain ⟨_, u, hu, _⟩ := SS.own j b (sub j b hj)
      rw [f b hb] at hu
      cases hu
    · rcases updF_in z with ⟨_, z⟩ | ⟨_, z⟩
      · exact .inr (f b z)
      · exact .inl ⟨j, sub j b z⟩
  | exc c' =>
    cases k with
    | inc j =>
      replace e5 : (getE env j).bind _ = _ := e5
      cases e6 : getE env j with
      | ok z => rw [e6] at e5; cases z <;> cases e5
      | exc c =>
        unfold getE at e6
        split at e6 <;> cases e6
      | bad => rw [e6] at e5; cases e5
    | _ => cases e5
  | bad => rw [e5] at q; exact q.elim
end
theorem evK_ne {c : Nat} {env : PEnv} {k : Kx} {c' : Nat} : evK c env k ≠ .exc c' := fun e5 => by
  cases k with
  | inc j =>
    replace e5 : (getE env j).bind _ = _ := e5
    cases e6 : getE env j with
    | ok z => rw [e6] at e5; cases z <;> cases e5
    | exc c =>
      unfold getE at e6
      split at e6 <;> cases e6
    | bad => rw [e6] at e5; cases e5
  | _ => cases e5
section
variable {X : Cx} {ca fa : Nat → Addr} {cl : Cl} {W : WX} {tc : Tc} {ec : Ecs} {n w : Nat} {b : Sms} {x t : Nat} {k : Kx} {nm : Option Nat}
/-- an exception of the body -/
theorem try_exc {ok0 : Addr → Prop} {env1 : PEnv} {fps : Fps} {H : Hp} {D : Ends} {c : Nat} (F : ExF X.K n ca) (hx : x < n) (hit : ∀ i, nm = some i → i ≠ t) (hm : PostS X.K ca W ok0 fps H D (tryS n x nm t k (.exc c env1)))
    {σ' : L2.St} {H' : Hp} {fps' : Fps} (S' : SR X.K ok0 env1 fps' σ' H') (st : Stp fps H fps' H') :
    ∃ r, PySem.W.exmOne X.K (.ref (ca c)) (.ref (ca x)) = some r ∧ (r = true → ∀ a (σ2 : L2.St) (D' : Ends), (nm = none → σ2 = σ' ∧ D' = D) → (∀ i, nm = some i → σ2 = σ'.set i (some (.ref a)) ∧ D'.nx = fun σ' H' => D.nx (σ'.set i none) H') → tSut X.K ca W n nm t k a (.ref (ca c)) none D' σ2 H') ∧
      (r = false → W (.ref (ca c)) none σ' H') := by
  replace hm : PostS X.K ca W ok0 fps H D (if c < n then (if caught c x = true then (if nmFree nm env1 = true then RS.of (evK c env1 k) env1 fun v => .fl (.next (env1.set t (some v))) else .bad) else .exc c env1) else .bad) := hm
  by_cases hc : c < n
  · rw [if_pos hc] at hm
    refine ⟨caught c x, F.exm c x hc hx, fun hr a σ2 D' h1 h2 => ?_, fun hr => ?_⟩
    · rw [if_pos hr] at hm
      by_cases hf : nmFree nm env1 = true
      · rw [if_pos hf] at hm
        have hm2 := PostS.mono st hm
        cases nm with
        | none =>
          obtain ⟨rfl, rfl⟩ := h1 rfl
          exact ⟨c, ok0, env1, fps', rfl, rfl, hc, (fun _ z => nomatch z), S', hm2⟩
        | some i =>
          obtain ⟨rfl, hd⟩ := h2 i rfl
          have hi : env1[i]? = some none := by
            unfold nmFree at hf
            dsimp only at hf
            split at hf
            · assumption
            · cases hf
          have hl : i < σ'.length := by
            rw [← S'.len]
            exact (List.getElem?_eq_some_iff.mp hi).1
          refine ⟨c, ok0, env1, fps', rfl, rfl, hc, fun j z => by cases z; exact List.getElem?_set_self hl, S'.slot hi, ?_⟩
          cases e5 : evK c env1 k with
          | ok v =>
            rw [e5] at hm2
            replace hm2 : SQ X.K ok0 fps' H' D.nx (env1.set t (some v)) := hm2
            show SQ X.K ok0 fps' H' D'.nx (env1.set t (some v))
            rw [hd]
            exact fun σ3 H3 f3 S3 st3 => hm2 _ H3 f3 (S3.slot (by rw [List.getElem?_set_ne (hit i rfl).symm]; exact hi)) st3
          | exc c' => exact absurd e5 evK_ne
          | bad => rw [e5] at hm2; exact hm2.elim
      · rw [if_neg hf] at hm
        exact hm.elim
    · rw [if_neg (by rw [hr]; decide)] at hm
      exact hm () σ' H' fps' S' st
  · rw [if_neg hc] at hm
    exact hm.elim
variable {xn nn y : Str} {py : Expr} {pb : List Stmt} {np p p2 pos pos' : Pos}
theorem s_tryN (hs : X.stack = X.env :: X.outer) (hf : X.env.frame = some X.env.locals) (tk : L2.Takes X W) (hc : Names X xn (.ref (ca x))) (hx : x < n)
    (S : ∀ cls d oe, Zc cls d oe → (∃ vs, oe.data = .fields vs) → Sut X tc ec n ca cls d oe) (F : ExF X.K n ca) (nd : X.N.Nodup) (h1 : X.N[t]? = some y) (h2 : Loc X.env.scope y) (hk : ckK tc ec none k py = true) (hn : noLc py = true)
    (hb : ∀ (W : WX) (pn : List (Addr × Obj)) (xe : Value → Shared → Prop), L2.Takes (X.tr pn xe) W → PassesOwn (model X.prog X.w) X.A X.env xe → PSs (X.tr pn xe) pb (tSs X.K ca cl w W b)) :
    PS X (.Try pb [.ExceptHandler (some (.Name xn np)) none [.Assign [.Name y p] py p2] pos'] [] [] pos) (tS X.K ca cl w W (.try_ b n x none t k)) := by
  refine PS.imp (ps_try_only (tb := fun W' => tSs X.K ca cl w W' b) (ts := tSut X.K ca W n none t k) hs hf hc tk hb fun a oe cls d pn hz hf => sut_ps (S cls d oe hz hf) h1 h2 hk hn) fun D σ H hq => ?_
  obtain ⟨ok0, env, fps, SS, hm⟩ := hq
  refine ⟨ok0, env, fps, SS, ?_⟩
  replace hm : PostS X.K ca W ok0 fps H D (tryS n x none t k (evSs cl w env b)) := hm
  cases e : evSs cl w env b with
  | fl f =>
    rw [e] at hm
    cases f <;> exact hm
  | exc c env1 =>
    rw [e] at hm
    intro _ σ' H' fps' S' st
    obtain ⟨r, e1, e2, e3⟩ := try_exc (nm := none) F hx (fun _ z => nomatch z) hm S' st
    exact ⟨r, e1, (fun hr a ha => e2 hr a σ' D (fun _ => ⟨rfl, rfl⟩) (fun _ z => nomatch z)), e3⟩
  | bad => rw [e] at hm; exact hm.elim
theorem s_tryA {i : Nat} (hs : X.stack = X.env :: X.outer) (hf : X.env.frame = some X.env.locals) (tk : L2.Takes X W) (hc : Names X xn (.ref (ca x))) (hx : x < n)
    (S : ∀ cls d oe, Zc cls d oe → (∃ vs, oe.data = .fields vs) → Sut X tc ec n ca cls d oe) (F : ExF X.K n ca) (nd : X.N.Nodup) (h1 : X.N[t]? = some y) (h2 : Loc X.env.scope y) (hk : ckK tc ec (some i) k py = true) (hn : noLc py = true)
    (hi : X.N[i]? = some nn) (hln : X.env.kindOf nn = some .local) (hit : i ≠ t)
    (hb : ∀ (W : WX) (pn : List (Addr × Obj)) (xe : Value → Shared → Prop), L2.Takes (X.tr pn xe) W → PassesOwn (model X.prog X.w) X.A X.env xe → PSs (X.tr pn xe) pb (tSs X.K ca cl w W b)) :
    PS X (.Try pb [.ExceptHandler (some (.Name xn np)) (some nn) [.Assign [.Name y p] py p2] pos'] [] [] pos) (tS X.K ca cl w W (.try_ b n x (some i) t k)) := by
  refine PS.imp (ps_try_as (tb := fun W' => tSs X.K ca cl w W' b) (ts := tSut X.K ca W n (some i) t k) hs hf nd hi hln hc tk hb fun a oe cls d pn hz hf => sut_ps (S cls d oe hz hf) h1 h2 hk hn) fun D σ H hq => ?_
  obtain ⟨ok0, env, fps, SS, hm⟩ := hq
  refine ⟨ok0, env, fps, SS, ?_⟩
  replace hm : PostS X.K ca W ok0 fps H D (tryS n x (some i) t k (evSs cl w env b)) := hm
  cases e : evSs cl w env b with
  | fl f =>
    rw [e] at hm
    cases f <;> exact hm
  | exc c env1 =>
    rw [e] at hm
    intro _ σ' H' fps' S' st
    obtain ⟨r, e1, e2, e3⟩ := try_exc F hx (fun j z => by cases z; exact hit) hm S' st
    exact ⟨r, e1, (fun hr a ha => e2 hr a _ _ (fun z => nomatch z) (fun j z => by cases z; exact ⟨rfl, rfl⟩)), e3⟩
  | bad => rw [e] at hm; exact hm.elim
end
end BW

/-! a, b = x, y -/
namespace BW
open PySem PySem.Spec L2
theorem ss_two {x y : Str} {px py pt pt2 : Pos} {kt k2} {a b : Expr} {env : Env} (hk : env.scope.kind = .function) (hx : env.scope.names.lookup x = some .local) (hy : env.scope.names.lookup y = some .local) (hl : py.line = px.line) (ne : x ≠ y) (pa : plainX a = true) (pb : plainX b = true)
    (hf : (foldedForSure 8 a && foldedForSure 8 b) = false) (hc : (constantsAlone 8 a && constantsAlone 8 b) = false) : swappedStores [.Tuple [.Name x px, .Name y py] kt pt] (.Tuple [a, b] k2 pt2) env = pure (some [x, y]) := by
  have st : ([a, b].any fun | .Starred .. => true | _ => false) = false := by
    cases a <;> first | (cases pa; done) | (cases b <;> first | (cases pb; done) | rfl)
  have bk : env.blockKind = .function := by
    unfold Env.blockKind
    rw [hk]
    rfl
  have kx : env.kindOf x = some .local := hx
  have ky : env.kindOf y = some .local := hy
  have nm : ([Expr.Name x px, .Name y py].filterMap fun
    | .Name id pos => if env.kindOf id == some .local && pos.line == px.line then some id else none
    | _ => none) = [x, y] := by
    simp [kx, ky, hl]
  have ed : [x, y].eraseDups = [x, y] := by
    rw [List.eraseDups_cons]
    simp [ne.symm, List.eraseDups_cons]
  have f2 : [a, b].all (foldedForSure 8) = false := by simpa using hf
  have c2 : [a, b].all (constantsAlone 8) = false := by simpa using hc
  unfold swappedStores
  simp only [List.length_cons, List.length_nil, bk, st, f2, c2, List.head?_cons, Option.map_some, Option.getD_some]
  rw [if_neg (by decide), if_neg fun h => Bool.noConfusion (h.symm.trans st)]
  generalize hg : List.filterMap _ [Expr.Name x px, Expr.Name y py] = g
  have eg : g = [x, y] := hg.symm.trans nm
  rw [eg, ed]
  rfl
variable {X : Cx} {ca fa : Nat → Addr} {cl : Cl} {W : WX} {tc : Tc} {n w : Nat}
theorem par_imp {i j : Nat} {a b : Ex} {D : Ends} {σ : L2.St} {H : Hp} (h : tS X.K ca cl w W (.asg [i, j] (.tup (.cons a (.cons b .nil)))) D σ H) : tPar i j (tAs X.K ca cl W (.cons a (.cons b .nil))) D σ H := by
  obtain ⟨ok0, env, fps, S, hm⟩ := h
  generalize he : (Exs.cons a (.cons b .nil)) = es at hm ⊢
  replace hm : PostS X.K ca W ok0 fps H D (RS.of (evEs cl env es) env fun xs => RS.of (bindT [i, j] (.tup xs) (aft (.tup xs) (vEs es) env)) env fun env1 => .fl (.next env1)) := by
    replace hm : PostS X.K ca W ok0 fps H D (RS.of ((evEs cl env es).bind fun vs => .ok (.tup vs)) env fun v => RS.of (bindT [i, j] v (aft v (vEs es) env)) env fun env1 => .fl (.next env1)) := hm
    cases q : evEs cl env es with
    | ok xs => rw [q] at hm; exact hm
    | exc c => rw [q] at hm; exact hm
    | bad => rw [q] at hm; exact hm
  refine ⟨env, okE ok0 fps (vEs es), S.ein, S.frE, PostS.posta (f := fun xs => RS.of (bindT [i, j] (.tup xs) (aft (.tup xs) (vEs es) env)) env fun env1 => .fl (.next env1)) S hm fun xs H1 vs fp e1 s1 r1 f1 n1 q1 => ?_⟩
  obtain ⟨fps2, S2, r2, sub⟩ := S.aft s1 r1 f1
  have eb0 : bindT [i, j] (.tup xs) (aft (.tup xs) (vEs es) env) = if xs.length = 2 then Res.ok (setP (aft (.tup xs) (vEs es) env) ([i, j].zip xs)) else .bad := rfl
  rw [eb0] at q1
  by_cases hl : xs.length = 2
  · rw [if_pos hl] at q1
    obtain ⟨fps', S', q⟩ := SR.sets (t := [i, j]) S2 r2 n1 (fun a z => ⟨S.fr a (f1 a z), fun k hk => by
      obtain ⟨_, u, hu, _⟩ := S.own k a (sub k a hk)
      rw [f1 a z] at hu
      cases hu⟩) hl
    have lv : vs.length = 2 := by rw [← r2.len]; exact hl
    match vs, lv with
    | [v1, v2], _ =>
      refine ⟨v1, v2, rfl, q1 _ H1 fps' S' (Stp.of s1 fun k a z => ?_)⟩
      rcases q k a z with ⟨l, z⟩ | z
      · exact .inl ⟨l, sub l a z⟩
      · exact .inr (f1 a z)
  · rw [if_neg hl] at q1
    exact q1.elim
/-- a, b = x, y with plain names -/
def swpS (tc : Tc) (t : List Nat) (e : Ex) (ts : List Expr) (v : Expr) : Bool := match t, e, ts, v with
  | [i, j], .tup (.cons a (.cons b .nil)), [.Name x px, .Name y py], .Tuple [p, q] _ _ =>
    decide (i ≠ j ∧ tc.N[i]? = some x ∧ tc.N[j]? = some y ∧ tc.sc.names.lookup x = some .local ∧ tc.sc.names.lookup y = some .local ∧ py.line = px.line ∧ x ≠ y) && (plainX p && (plainX q && (!(foldedForSure 8 p && foldedForSure 8 q) && (!(constantsAlone 8 p && constantsAlone 8 q) && ckEs tc (.cons a (.cons b .nil)) [p, q]))))
  | _, _, _, _ => false
theorem swp_ok {t : List Nat} {e : Ex} {ts : List Expr} {k : Nat} {pt pos : Pos} {v : Expr} (C : Cok X W tc cl n ca fa) (hk : X.env.scope.kind = .function) (h : swpS tc t e ts v = true) : PS X (.Assign [.Tuple ts k pt] v pos) (tS X.K ca cl w W (.asg t e)) := by
  unfold swpS at h
  split at h
  · rw [Bool.and_eq_true, Bool.and_eq_true, Bool.and_eq_true, Bool.and_eq_true, Bool.and_eq_true, decide_eq_true_eq, Bool.not_eq_true', Bool.not_eq_true'] at h
    obtain ⟨⟨ij, hi, hj, hx, hy, hl, ne⟩, pp, pq, hf, hc, he⟩ := h
    rw [C.N] at hi hj
    rw [C.sc] at hx hy
    exact PS.imp (ps_par C.calm C.nd hi hj ij hx hy (sEs _ C _ he).1 (ss_two hk hx hy hl ne pp pq hf hc) rfl) fun D σ H hq => par_imp hq
  · cases h
end BW

/-! What is handed on: calls that own their arguments, pops, tests of these. -/
namespace BW
open PySem PySem.SeqAt PySem.Spec PySem.W PySem.Calls PyProof.Rows
open L2 hiding St
section
variable {K : PySem.W.Frag} {H : Hp} {ok : Addr → Prop}
theorem Rps.part : ∀ {xs : List PV} {us : List V} {fq : List Addr} {j : Nat} {x : PV}, Rps K H ok xs us fq → fq.Nodup → xs[j]? = some x → ∃ u f, us[j]? = some u ∧ Rp K H ok x u f ∧ (∀ a ∈ f, a ∈ fq) ∧ f.Nodup
  | [], _, _, j, x, r, _, e => by simp at e
  | y :: xs, _, _, 0, x, r, nd, e => by
    obtain ⟨u, us, g, gs, rfl, rfl, r1, rs⟩ := r.inv
    cases e
    exact ⟨u, g, rfl, r1, fun a z => List.mem_append_left _ z, (List.nodup_append.mp nd).1⟩
  | y :: xs, _, _, j + 1, x, r, nd, e => by
    obtain ⟨u, us, g, gs, rfl, rfl, r1, rs⟩ := r.inv
    obtain ⟨w, f, h1, h2, h3, h4⟩ := Rps.part (j := j) rs (List.nodup_append.mp nd).2.1 (by simpa using e)
    exact ⟨w, f, by simpa using h1, h2, fun a z => List.mem_append_right _ (h3 a z), h4⟩
/-- the names behind a call that was handed fp -/
theorem SR.called {ok0 : Addr → Prop} {env : PEnv} {fps : Fps} {σ : L2.St} {H1 H' : Hp} {fp fq : List Addr} (S : SR K (okn ok0 fp) env fps σ H1) (fm : ∀ a ∈ fp, ∃ u, H1 a = some u ∧ isMu u = true) (k : ∀ a o, H1 a = some o → a ∉ fp → H' a = some o) (d : ∀ a, H' a = none → H1 a = none)
    (of : ∀ a ∈ fq, a ∈ fp ∨ H1 a = none) (rd : ∀ a ∈ fq, ∃ u, H' a = some u ∧ isMu u = true) : SR K (okn ok0 fq) env fps σ H' where
  len := S.len
  at_ := fun i pv e => by
    obtain ⟨v, h1, h2⟩ := S.at_ i pv e
    exact ⟨v, h1, h2.inD.keep (M := fun a => a ∈ fp) k fm (fun a z => ⟨⟨z.1.1.1, fun hq => (of a hq).elim z.1.1.2 fun q => by
      obtain ⟨u, hu⟩ := z.2
      rw [q] at hu
      cases hu⟩, z.1.2⟩) (fun a z m => z.1.1.2 m) fun a hf m => (S.own i a hf).1.2 m⟩
  nd := S.nd
  dj := S.dj
  own := fun i a z => by
    obtain ⟨o, u, h1, h2⟩ := S.own i a z
    exact ⟨⟨o.1, fun hq => (of a hq).elim o.2 fun q => by rw [q] at h1; cases h1⟩, u, k a u h1 o.2, h2⟩
  fr := fun a z => ⟨(S.fr a (d a z)).1, fun hq => by
    obtain ⟨u, hu, _⟩ := rd a hq
    rw [z] at hu
    cases hu⟩
end
section
variable {X : Cx} {ca fa : Nat → Addr} {cl : Cl} {W : WX} {tc : Tc} {n w : Nat}
theorem m_call {f : Nat} {es : Mes} {x : Str} {e : Expr} {xs : List Expr} {p p2 : Pos} (C : Cok X W tc cl n ca fa) (h : PA X (e :: xs) (tMs X.K ca cl W es)) (hp : ∀ y ∈ e :: xs, plainX y = true) (hg : glB tc.sc x = true) (ho : odd x = false) (hf : tc.fn.lookup x = some f) :
    PE X (.Call (.Name x p) (e :: xs) [] p2) (tM X.K ca cl W (.call f es)) := by
  obtain ⟨m1, m2, fd, ps, F, B, L⟩ := C.fns x f hf
  have hd : (x == ("__debug__" : Str)) = false := by
    unfold odd at ho
    rw [Bool.or_eq_false_iff] at ho
    exact ho.1
  refine PE.imp (pe_callS F C.room (gl_of C hg) m1 m2 B C.pass h hd (star_of (hp e List.mem_cons_self)) (back_of fun y z => hp y (List.mem_cons_of_mem _ z))) fun σ H Q hq => ?_
  obtain ⟨ok0, env, fps, S, hm⟩ := hq
  refine ⟨ok0, env, fps, S, ?_⟩
  replace hm : PostM false X.K ca (WE W σ) ok0 fps σ H Q ((noX (evMs cl env es)).bind fun p => (noX (cl f p.1)).bind fun v => .ok (v, p.2)) := hm
  cases e1 : evMs cl env es with
  | exc c => rw [e1] at hm; exact hm.elim
  | bad => rw [e1] at hm; exact hm.elim
  | ok q =>
    rw [e1] at hm
    intro H1 vs fp fps1 s1 st1 S1 r1 n1 o1
    replace hm : PostM false X.K ca (WE W σ) ok0 fps σ H Q ((noX (cl f q.1)).bind fun v => .ok (v, q.2)) := hm
    have okf : ∀ a ∈ fp, okS ok0 fps1 a := fun a z => ⟨by
      rcases o1 a z with ⟨j, h⟩ | h
      · exact (S.own j a h).1
      · exact S.fr a h, fun i hi => (S1.own i a hi).1.2 z⟩
    refine ⟨?_, okS ok0 fps1, q.1, fp, fun a z => ⟨(S1.fr a z).1, fun i hi => ?_⟩, okf, r1, n1, ?_⟩
    · rw [← r1.len]
      refine L _ fun z => ?_
      rw [z] at hm
      exact hm
    · obtain ⟨_, u, hu, _⟩ := S1.own i a hi
      rw [z] at hu
      cases hu
    · cases e2 : cl f q.1 with
      | exc c => rw [e2] at hm; exact hm.elim
      | bad => rw [e2] at hm; exact hm.elim
      | ok v0 =>
        rw [e2] at hm
        intro H' v fq k d r of nd
        exact hm H' v fq fps1 (fun z => nomatch z) ⟨fun a o e n => k a o (st1.keep a o e n) fun z => (by
          rcases o1 a z with ⟨j, h⟩ | h
          · exact n j h
          · rw [h] at e; cases e), st1.own, fun a z => st1.dom a (d a z)⟩ (S1.called r1.dom k d of r.dom) r nd fun a z => (of a z).elim (o1 a) fun q => .inr (st1.dom a q)
theorem m_idx {m : Me} {k : Nat} {j : Nat} {l : Expr} {p p2 : Pos} (hu : X.A.units + 1 < cLine) (h : PE X l (tM X.K ca cl W m)) : PE X (.Subscript l (.Constant (.int (k : Int)) j p2) p) (tM X.K ca cl W (.idx m k)) := by
  refine PE.imp (pe_ix (ix_path hu) h pe_int (ix_of rfl)) fun σ H Q hq => ?_
  obtain ⟨ok0, env, fps, S, hm⟩ := hq
  refine ⟨ok0, env, fps, S, ?_⟩
  replace hm : PostM false X.K ca (WE W σ) ok0 fps σ H Q ((noX (evM cl env m)).bind fun p => (mvI k p.1).bind fun v => .ok (v, p.2)) := hm
  cases e1 : evM cl env m with
  | exc c => rw [e1] at hm; exact hm.elim
  | bad => rw [e1] at hm; exact hm.elim
  | ok q =>
    rw [e1] at hm
    intro H1 v fp fps1 s1 st1 S1 r1 n1 o1
    replace hm : PostM false X.K ca (WE W σ) ok0 fps σ H Q ((mvI k q.1).bind fun v => .ok (v, q.2)) := hm
    obtain ⟨q1, q2⟩ := q
    cases r1 with
    | @tup a xs vs fp hs rs =>
      replace hm : PostM false X.K ca (WE W σ) ok0 fps σ H Q ((match xs[k]? with | some v => Res.ok v | none => .bad).bind fun v => .ok (v, q2)) := hm
      cases e2 : xs[k]? with
      | none => rw [e2] at hm; exact hm.elim
      | some x =>
        rw [e2] at hm
        obtain ⟨u, f, e3, r, sub, nf⟩ := rs.part n1 e2
        exact .inl ⟨a, vs, k, u, rfl, rfl, .inr hs, L2.atI_nat e3, hm H1 u f fps1 (fun z => nomatch z) st1 (S1.weak fun a z => ⟨z.1, fun q => z.2 (sub a q)⟩) (r.imp fun a z => ⟨z.1, fun q => z.2 (sub a q)⟩) nf fun a z => o1 a (sub a z)⟩
    | _ => exact hm.elim
theorem m_pop {y : Nat} {e : Ex} {b : Str} {v : Expr} {p2 apos2 cpos2 : Pos} (C : Cok X W tc cl n ca fa) (hn2 : nameB tc y b = true) (hl2 : (apos2.endLine == cpos2.line) = true) (ha : ckEs tc (.cons e .nil) [v] = true) :
    PE X (.Call (.Attribute (.Name b p2) "pop" apos2) [v] [] cpos2) (tM X.K ca cl W (.pop y e)) := by
  have h := sEs (.cons e .nil) C [v] ha
  have hp := h.2 v List.mem_cons_self
  refine PE.imp (pe_bm PySem.F.plainAttrs_list PySem.F.slot_list_pop PySem.F.type_list_pop mt_popAt (name_of C hn2) h.1 rfl (few_of hp) hl2 (star_of hp) rfl) fun σ H Q hq => ?_
  obtain ⟨ok0, env, fps, S, hm⟩ := hq
  replace hm : PostM false X.K ca (WE W σ) ok0 fps σ H Q ((noX (evE cl env e)).bind fun k => popV y (frz k) env env[y]?) := hm
  cases q : evE cl env e with
  | exc c => rw [q] at hm; exact hm.elim
  | bad => rw [q] at hm; exact hm.elim
  | ok k0 =>
    rw [q] at hm
    replace hm : PostM false X.K ca (WE W σ) ok0 fps σ H Q (popV y (frz k0) env env[y]?) := hm
    cases ey : env[y]? with
    | none => rw [ey] at hm; exact hm.elim
    | some o =>
      rw [ey] at hm
      cases o with
      | none => exact hm.elim
      | some pv =>
        cases pv with
        | lst o ys =>
          cases o with
          | false => exact hm.elim
          | true =>
            replace hm : PostM false X.K ca (WE W σ) ok0 fps σ H Q (match atJ ys.length (frz k0) with
              | some j => (match ys[j]? with
                | some v => if (flat v && decide (ys.length ≤ most)) = true then .ok (v, env.set y (some (.lst true (ys.eraseIdx j)))) else .bad
                | none => .bad)
              | none => .bad) := hm
            cases ej : atJ ys.length (frz k0) with
            | none => rw [ej] at hm; exact hm.elim
            | some j =>
              simp only [ej] at hm
              cases ev : ys[j]? with
              | none => rw [ev] at hm; exact hm.elim
              | some v1 =>
                simp only [ev] at hm
                by_cases hc : (flat v1 && decide (ys.length ≤ most)) = true
                · rw [if_pos hc] at hm
                  rw [Bool.and_eq_true, decide_eq_true_eq] at hc
                  obtain ⟨c1, c4⟩ := hc
                  obtain ⟨w1, e1, r1⟩ := S.at_ y _ ey
                  have ty : tyV X.K "list" w1 H := by
                    generalize fps y = fy at r1
                    cases r1 with
                    | lstO hr _ => exact .inl ⟨rfl, _, .inl (.inl hr)⟩
                  refine ⟨w1, e1, ty, ?_⟩
                  refine ⟨env, okE ok0 fps (vEs (.cons e .nil)), S.ein, S.frE, ?_⟩
                  show PostA X.K ca (WE W σ) (okE ok0 fps (vEs (.cons e .nil))) H (fun vs H1 => rPopAt w1 vs H1 Q) ((evE cl env e).bind fun x => (Res.ok []).bind fun xs => .ok (x :: xs))
                  rw [q]
                  intro H1 vs fp s1 r2 f1 n2
                  obtain ⟨uk, vs', f, fs, rfl, ef, rk, rs⟩ := r2.inv
                  cases rs
                  have rk' := rk.frz (ok' := fun _ => True) (fun _ _ => True.intro) fun _ _ => True.intro
                  obtain ⟨i, rfl, hj, hi⟩ := atj_rp rk' ej
                  have S1 := S.same s1
                  obtain ⟨v1', e1', r1'⟩ := S1.at_ y _ ey
                  rw [e1] at e1'
                  cases e1'
                  generalize gy : fps y = fy at r1'
                  cases r1' with
                  | @lstO c ys ws fr hC ry =>
                    have ny := S.nd y
                    rw [gy] at ny
                    have ly : y < env.length := (List.getElem?_eq_some_iff.mp ey).1
                    obtain ⟨u, h1, h2, h3⟩ := rps_out ry ev c1
                    have kp : ∀ b o, H1 b = some o → ¬ b = c → upd H1 c (.lst (ws.eraseIdx j)) b = some o := fun b o e n => by rw [upd_ne n]; exact e
                    have km : ∀ b, b = c → ∃ u, H1 b = some u ∧ isMu u = true := fun b e => ⟨.lst ws, by rw [e]; exact hC, rfl⟩
                    obtain ⟨S2, st2⟩ := S1.chg (x := y) (a := c) (o := .lst (ws.eraseIdx j)) (fq' := c :: fr) (pv' := .lst true (ys.eraseIdx j)) ly gy List.mem_cons_self ⟨_, hC, rfl⟩ rfl
                      (.lstO upd_same (h3.keep (M := fun b => b = c) kp km (fun b z => ⟨z, fun hb => z.2 y (by rw [gy]; exact hb)⟩) (fun b z e => z.2 y (by rw [gy, e]; exact List.mem_cons_self)) fun b z e => (List.nodup_cons.mp ny).1 (by rw [← e]; exact z))) ny (fun _ z => z) e1
                    have lw : ys.length = ws.length := ry.len
                    refine ⟨c, ws, i, j, u, rfl, rfl, hC, ?_, ?_, atJ_seq (by omega) (by rw [← lw]; exact hi), h1, hm _ u [] _ (fun z => nomatch z) ((Stp.same s1).trans st2) S2.nilF (flat_any h2 c1) .nil fun _ z => nomatch z⟩
                    · unfold most at c4
                      omega
                    · unfold most at c4
                      omega
                · rw [if_neg hc] at hm
                  exact hm.elim
        | _ => exact hm.elim
theorem cmpop_bl {op : Cop} {x y z : PV} (h : cmpop op x y = .ok z) : ∃ b, z = .bl b := by
  unfold cmpop at h
  cases op <;> simp only at h
  · split at h <;> first | (cases h; exact ⟨_, rfl⟩) | (split at h <;> first | (cases h; exact ⟨_, rfl⟩) | (split at h <;> cases h; exact ⟨_, rfl⟩))
  · split at h <;> first | (cases h; exact ⟨_, rfl⟩) | (split at h <;> first | (cases h; exact ⟨_, rfl⟩) | (split at h <;> cases h; exact ⟨_, rfl⟩))
  · split at h <;> cases h; exact ⟨_, rfl⟩
  · split at h <;> cases h; exact ⟨_, rfl⟩
  · split at h <;> cases h; exact ⟨_, rfl⟩
  · split at h <;> cases h; exact ⟨_, rfl⟩
  · split at h <;> cases h; exact ⟨_, rfl⟩
  · split at h
    · cases h; exact ⟨_, rfl⟩
    · split at h <;> cases h; exact ⟨_, rfl⟩
    · cases h
  · unfold inop at h
    split at h <;> first | (cases h; done) | (split at h <;> first | (cases h; exact ⟨_, rfl⟩) | (cases h; done) | (split at h <;> first | (cases h; exact ⟨_, rfl⟩) | (cases h; done)))
  · unfold inop at h
    split at h <;> first | (cases h; done) | (split at h <;> first | (cases h; exact ⟨_, rfl⟩) | (cases h; done) | (split at h <;> first | (cases h; exact ⟨_, rfl⟩) | (cases h; done)))
/-! ### tests -/
def PostT (b : Bool) (K : PySem.W.Frag) (ca : Nat → Addr) (E : XK) (ok0 : Addr → Prop) (fps : Fps) (σ : L2.St) (H : Hp) (Q : Bool → Hp → Prop) : Res (Bool × PEnv) → Prop
  | .ok p => ∀ H' fps', (b = true → Same H H') → Stp fps H fps' H' → SR K ok0 p.2 fps' σ H' → Q p.1 H'
  | .exc c => ∀ (d : Unit) H', Same H H' → E (.ref (ca c)) none H'
  | .bad => False
def evT (cl : Cl) (env : PEnv) (m : Me) : Res (Bool × PEnv) := (evM cl env m).bind fun p => (asB p.1).bind fun k => .ok (k, p.2)
def tMT (K : PySem.W.Frag) (ca : Nat → Addr) (cl : Cl) (W : WX) (m : Me) : TT := fun σ H Q => ∃ ok0 env fps, SR K ok0 env fps σ H ∧ PostT (purM m) K ca (WE W σ) ok0 fps σ H Q (evT cl env m)
/-- a test of what is handed on -/
structure SndT (X : Cx) (ca : Nat → Addr) (cl : Cl) (W : WX) (m : Me) (py : Expr) : Prop where
  pt : PT X py (tMT X.K ca cl W m)
  pw : ∀ op vs pos, py = .BoolOp op vs pos → PW X py (tMT X.K ca cl W m)
theorem t_ex {e : Ex} {py : Expr} (h : SndE X ca cl W e py) : SndT X ca cl W (.ex e) py := by
  have k : ∀ σ H Q, tMT X.K ca cl W (.ex e) σ H Q → tT X.K ca cl W e σ H Q := fun σ H Q hq => by
    obtain ⟨ok0, env, fps, S, hm⟩ := hq
    refine ⟨env, okE ok0 fps (vE e), S.ein, S.frE, ?_⟩
    replace hm : PostT true X.K ca (WE W σ) ok0 fps σ H Q (((evE cl env e).bind fun v => .ok (v, aft v (vE e) env)).bind fun p => (asB p.1).bind fun k => .ok (k, p.2)) := hm
    cases e1 : evE cl env e with
    | exc c => rw [e1] at hm; exact hm
    | bad => rw [e1] at hm; exact hm.elim
    | ok x =>
      rw [e1] at hm
      cases x with
      | bl k => exact fun H' s => hm H' fps (fun _ => s) (Stp.same s) (S.same s)
      | _ => exact hm.elim
  exact ⟨PT.imp h.pt k, fun op vs pos z => PW.imp (h.pw op vs pos z) k⟩
/-- asked of the value -/
theorem t_val {m : Me} {py : Expr} (h : PE X py (tM X.K ca cl W m)) (ht : truthX py = true) : SndT X ca cl W m py := by
  refine ⟨PT.imp (pt_val h (truth_of ht)) fun σ H Q hq => ?_, fun op vs pos z => by subst z; cases ht⟩
  obtain ⟨ok0, env, fps, S, hm⟩ := hq
  refine ⟨ok0, env, fps, S, ?_⟩
  replace hm : PostT (purM m) X.K ca (WE W σ) ok0 fps σ H Q ((evM cl env m).bind fun p => (asB p.1).bind fun k => .ok (k, p.2)) := hm
  cases e1 : evM cl env m with
  | exc c => rw [e1] at hm; exact hm
  | bad => rw [e1] at hm; exact hm.elim
  | ok q =>
    rw [e1] at hm
    obtain ⟨q1, q2⟩ := q
    intro H1 v fp fps1 s1 st1 S1 r1 n1 o1
    cases r1 with
    | bl k => exact ⟨k, rfl, hm H1 fps1 s1 st1 (S1.weak fun a z => z.1)⟩
    | _ => exact hm.elim
theorem m_cmp {op : Cop} {a b : Me} {l r : Expr} {p : Pos} (hu : X.A.units + 80 < cLine) (ha : PE X l (tM X.K ca cl W a)) (hb : PE X r (tM X.K ca cl W b)) (hr : plainX r = true) : SndT X ca cl W (.cmp op a b) (.Compare l [pyC op] [r] p) := by
  refine ⟨PT.imp (pt_cmpR (op_cmp hu op) ha hb (mark_of hr)) fun σ H Q hq => ?_, fun op vs pos z => by cases z⟩
  obtain ⟨ok0, env, fps, S, hm⟩ := hq
  refine ⟨ok0, env, fps, S, ?_⟩
  replace hm : PostT false X.K ca (WE W σ) ok0 fps σ H Q (((noX (evM cl env a)).bind fun p => (noX (evM cl p.2 b)).bind fun q => (cmpop op (frz p.1) (frz q.1)).bind fun r => .ok (r, q.2)).bind fun p => (asB p.1).bind fun k => .ok (k, p.2)) := hm
  cases e1 : evM cl env a with
  | exc c => rw [e1] at hm; exact hm.elim
  | bad => rw [e1] at hm; exact hm.elim
  | ok q1 =>
    rw [e1] at hm
    intro H1 v f1 fps1 s1 st1 S1 r1 n1 o1
    refine ⟨okn ok0 f1, q1.2, fps1, S1, ?_⟩
    replace hm : PostT false X.K ca (WE W σ) ok0 fps σ H Q (((noX (evM cl q1.2 b)).bind fun q => (cmpop op (frz q1.1) (frz q.1)).bind fun r => .ok (r, q.2)).bind fun p => (asB p.1).bind fun k => .ok (k, p.2)) := hm
    cases e2 : evM cl q1.2 b with
    | exc c => rw [e2] at hm; exact hm.elim
    | bad => rw [e2] at hm; exact hm.elim
    | ok q2 =>
      rw [e2] at hm
      intro H2 u f2 fps2 s2 st2 S2 r2 n2 o2
      replace hm : PostT false X.K ca (WE W σ) ok0 fps σ H Q (((cmpop op (frz q1.1) (frz q2.1)).bind fun r => .ok (r, q2.2)).bind fun p => (asB p.1).bind fun k => .ok (k, p.2)) := hm
      have r1' := Rp.stp S1 st2 o2 (fun _ z => z) r1
      cases e3 : cmpop op (frz q1.1) (frz q2.1) with
      | exc c => exact absurd e3 cmpop_ne
      | bad => rw [e3] at hm; exact hm.elim
      | ok z =>
        rw [e3] at hm
        obtain ⟨k, rfl⟩ := cmpop_bl e3
        have ok1 : ∀ a ∈ f1, ok0 a := fun a z => by
          rcases o1 a z with ⟨j, h⟩ | h
          · exact (S.own j a h).1
          · exact S.fr a h
        have ok2 : ∀ a ∈ f2, ok0 a := fun a z => by
          rcases o2 a z with ⟨j, h⟩ | h
          · exact (S1.own j a h).1.1
          · exact (S1.fr a h).1
        refine ⟨ok0, frz q1.1, frz q2.1, .bl k, fun a z => (S2.fr a z).1.1, r1'.frz (fun a z => z.1.1) (fun a z => ok1 a z), r2.frz (fun a z => z.1.1.1) (fun a z => ok2 a z), e3, fun H3 v3 f3 s3 r3 _ _ => ?_⟩
        cases r3
        exact ⟨k, rfl, hm H3 fps2 (fun z => nomatch z) ((st1.trans st2).trans (Stp.same s3)) ((S2.weak fun a z => z.1.1).same s3)⟩
theorem t_not {m : Me} {l : Expr} {p : Pos} (h : PT X l (tMT X.K ca cl W m)) : SndT X ca cl W (.not m) (.UnaryOp .Not l p) := by
  refine ⟨PT.imp (pt_not h) fun σ H Q hq => ?_, fun op vs pos z => by cases z⟩
  obtain ⟨ok0, env, fps, S, hm⟩ := hq
  refine ⟨ok0, env, fps, S, ?_⟩
  replace hm : PostT false X.K ca (WE W σ) ok0 fps σ H Q (((noX (evM cl env m)).bind fun p => (asB p.1).bind fun k => .ok (.bl (!k), p.2)).bind fun p => (asB p.1).bind fun k => .ok (k, p.2)) := hm
  show PostT (purM m) X.K ca (WE W σ) ok0 fps σ H (fun c H1 => Q (!c) H1) ((evM cl env m).bind fun p => (asB p.1).bind fun k => .ok (k, p.2))
  cases e1 : evM cl env m with
  | exc c => rw [e1] at hm; exact hm.elim
  | bad => rw [e1] at hm; exact hm.elim
  | ok q =>
    rw [e1] at hm
    obtain ⟨q1, q2⟩ := q
    cases q1 with
    | bl k => exact fun H' fps' s st S' => hm H' fps' (fun z => nomatch z) st S'
    | _ => exact hm.elim
theorem t_and {a b : Me} {l : Expr} {r : List Expr} {p : Pos} (ha : PT X l (tMT X.K ca cl W a)) (hw : PW X (.BoolOp .And r p) (tMT X.K ca cl W b)) (hr : r ≠ []) : SndT X ca cl W (.and a b) (.BoolOp .And (l :: r) p) := by
  obtain ⟨y, r', rfl⟩ : ∃ y r', r = y :: r' := by
    cases r with
    | nil => exact absurd rfl hr
    | cons y r' => exact ⟨y, r', rfl⟩
  have w : PW X (.BoolOp .And (l :: y :: r') p) (tMT X.K ca cl W (.and a b)) := by
    refine PW.imp (pw_and ha hw) fun σ H Q hq => ?_
    obtain ⟨ok0, env, fps, S, hm⟩ := hq
    refine ⟨ok0, env, fps, S, ?_⟩
    replace hm : PostT false X.K ca (WE W σ) ok0 fps σ H Q (((noX (evM cl env a)).bind fun p => (asB p.1).bind fun k => if k = true then noX (evM cl p.2 b) else .ok (.bl false, p.2)).bind fun p => (asB p.1).bind fun k => .ok (k, p.2)) := hm
    show PostT (purM a) X.K ca (WE W σ) ok0 fps σ H (fun c H1 => if c = true then tMT X.K ca cl W b σ H1 Q else Q false H1) ((evM cl env a).bind fun p => (asB p.1).bind fun k => .ok (k, p.2))
    cases e1 : evM cl env a with
    | exc c => rw [e1] at hm; exact hm.elim
    | bad => rw [e1] at hm; exact hm.elim
    | ok q =>
      rw [e1] at hm
      obtain ⟨q1, q2⟩ := q
      cases q1 with
      | bl k =>
        intro H' fps' s st S'
        cases k with
        | false => exact hm H' fps' (fun z => nomatch z) st S'
        | true =>
          replace hm : PostT false X.K ca (WE W σ) ok0 fps σ H Q ((noX (evM cl q2 b)).bind fun p => (asB p.1).bind fun k => .ok (k, p.2)) := hm
          refine ⟨ok0, q2, fps', S', ?_⟩
          show PostT (purM b) X.K ca (WE W σ) ok0 fps' σ H' Q ((evM cl q2 b).bind fun p => (asB p.1).bind fun k => .ok (k, p.2))
          cases e2 : evM cl q2 b with
          | exc c => rw [e2] at hm; exact hm.elim
          | bad => rw [e2] at hm; exact hm.elim
          | ok q3 =>
            rw [e2] at hm
            obtain ⟨q3, q4⟩ := q3
            cases q3 with
            | bl k2 => exact fun H2 fps2 s2 st2 S2 => hm H2 fps2 (fun z => nomatch z) (st.trans st2) S2
            | _ => exact hm.elim
      | _ => exact hm.elim
  exact ⟨w.pt, fun _ _ _ _ => w⟩
/-! ### statements -/
theorem s_ifm {m : Me} {a b : Sms} {py : Expr} {pa pb : List Stmt} {pos : Pos} (h : PT X py (tMT X.K ca cl W m)) (ha : PSs X pa (tSs X.K ca cl w W a)) (hb : PSs X pb (tSs X.K ca cl w W b)) : PS X (.If py pa pb pos) (tS X.K ca cl w W (.ifm m a b)) := by
  refine PS.imp (ps_if h ha hb) fun D σ H hq => ?_
  obtain ⟨ok0, env, fps, S, hm⟩ := hq
  refine ⟨ok0, env, fps, S, ?_⟩
  replace hm : PostS X.K ca W ok0 fps H D (RS.of (evM cl env m) env fun p => RS.of (asB p.1) p.2 fun k => if k = true then evSs cl w p.2 a else evSs cl w p.2 b) := hm
  show PostT (purM m) X.K ca (WE W σ) ok0 fps σ H _ ((evM cl env m).bind fun p => (asB p.1).bind fun k => .ok (k, p.2))
  cases e1 : evM cl env m with
  | exc c => rw [e1] at hm; exact fun d H' s => hm d σ H' fps (S.same s) (Stp.same s)
  | bad => rw [e1] at hm; exact hm.elim
  | ok q =>
    rw [e1] at hm
    obtain ⟨q1, q2⟩ := q
    cases q1 with
    | bl k =>
      intro H' fps' s st S'
      cases k with
      | true => exact ⟨ok0, q2, fps', S', PostS.mono st hm⟩
      | false => exact ⟨ok0, q2, fps', S', PostS.mono st hm⟩
    | _ => exact hm.elim
theorem asgm_imp {t : List Nat} {m : Me} {D : Ends} {σ : L2.St} {H : Hp} (h : tS X.K ca cl w W (.asgm t m) D σ H) : tM X.K ca cl W m σ H fun x H1 => tG X.K t x σ H1 D.nx := by
  obtain ⟨ok0, env, fps, S, hm⟩ := h
  refine ⟨ok0, env, fps, S, ?_⟩
  replace hm : PostS X.K ca W ok0 fps H D (RS.of (evM cl env m) env fun p => RS.of (bindT t p.1 p.2) p.2 fun env1 => .fl (.next env1)) := hm
  cases e1 : evM cl env m with
  | exc c => rw [e1] at hm; exact fun d H' s => hm d σ H' fps (S.same s) (Stp.same s)
  | bad => rw [e1] at hm; exact hm.elim
  | ok q =>
    rw [e1] at hm
    replace hm : PostS X.K ca W ok0 fps H D (RS.of (bindT t q.1 q.2) q.2 fun env1 => .fl (.next env1)) := hm
    intro H1 v fp fps1 s1 st1 S1 r1 n1 o1
    cases eb : bindT t q.1 q.2 with
    | exc c => exact absurd eb bindT_ne
    | bad => rw [eb] at hm; exact hm.elim
    | ok env1 =>
      rw [eb] at hm
      refine S1.bind r1 n1 (fun a z => ⟨by
        rcases o1 a z with ⟨j, h⟩ | h
        · exact (S.own j a h).1
        · exact S.fr a h, fun j hj => (S1.own j a hj).1.2 z⟩) eb fun σ' fps' S' own => hm σ' H1 fps' S' ⟨st1.keep, fun i a z => ?_, st1.dom⟩
      rcases own i a z with ⟨j, z⟩ | z
      · exact st1.own j a z
      · exact o1 a z
end
end BW

namespace BW
open PySem PySem.Spec PyProof.Rows
open L2 hiding St

mutual
def ckM (tc : Tc) : Me → Expr → Bool
  | .mv i, py => (match py with
    | .Name x _ => nameB tc i x
    | _ => false)
  | .tup es, py => (match py with
    | .Tuple xs _ _ => decide (lenM es ≤ 1000) && ckMs tc es xs
    | _ => false)
  | .ex e, py => ckE tc e py
  | .call f es, py => (match py with
    | .Call (.Name x _) (a :: as) [] _ => glB tc.sc x && (!odd x && (decide (tc.fn.lookup x = some f) && ckMs tc es (a :: as)))
    | _ => false)
  | .idx m k, py => (match py with
    | .Subscript l (.Constant (.int i) _ _) _ => decide (i = (k : Int)) && ckM tc m l
    | _ => false)
  | .pop y e, py => (match py with
    | .Call (.Attribute (.Name b _) nm apos) [v] [] cpos => nameB tc y b && (decide (nm = "pop") && ((apos.endLine == cpos.line) && ckEs tc (.cons e .nil) [v]))
    | _ => false)
  | .cmp _ _ _, _ => false
  | .not _, _ => false
  | .and _ _, _ => false
def ckMs (tc : Tc) : Mes → List Expr → Bool
  | .nil, py => (match py with
    | [] => true
    | _ => false)
  | .cons e es, py => (match py with
    | x :: xs => plainX x && (ckM tc e x && ckMs tc es xs)
    | _ => false)
end
theorem ckMs_plain {tc : Tc} : ∀ {es : Mes} {pys : List Expr}, ckMs tc es pys = true → ∀ y ∈ pys, plainX y = true
  | .nil, [], _, y, hy => nomatch hy
  | .nil, _ :: _, h, _, _ => by cases h
  | .cons e es, [], h, _, _ => by cases h
  | .cons e es, x :: xs, h, y, hy => by
    have h : (plainX x && (ckM tc e x && ckMs tc es xs)) = true := h
    rw [Bool.and_eq_true, Bool.and_eq_true] at h
    rcases List.mem_cons.mp hy with rfl | hy
    · exact h.1
    · exact ckMs_plain h.2.2 y hy
/-- a test -/
def ckT2 (tc : Tc) : Me → Expr → Bool
  | .ex e, py => ckE tc e py
  | .call f es, py => truthX py && ckM tc (.call f es) py
  | .not m, py => (match py with
    | .UnaryOp .Not l _ => ckT2 tc m l
    | _ => false)
  | .cmp op a b, py => (match py with
    | .Compare l [o] [r] _ => decide (o = pyC op) && (plainX r && (ckM tc a l && ckM tc b r))
    | _ => false)
  | .and a b, py => (match py with
    | .BoolOp .And [x, y] _ => ckT2 tc a x && ckT2 tc b y
    | .BoolOp .And (x :: y :: z :: r) p => ckT2 tc a x && ckT2 tc b (.BoolOp .And (y :: z :: r) p)
    | _ => false)
  | _, _ => false
/-- name = [..] on one line -/
def lcB (tc : Tc) (y : Str) (py : Pos) (e : Expr) : Bool := match e with
  | .ListComp _ _ scope pos => decide (tc.sc.names.lookup y = some .local) && ((py.line == pos.line) && !(scope.names.any fun (n, k) => n == y && (k == .local || k == .cell)))
  | _ => false
/-- name = [..], the name a cell -/
def celB (tc : Tc) (y : Str) (e : Expr) : Bool := match e with
  | .ListComp _ _ _ _ => decide (tc.sc.names.lookup y = some .cell)
  | _ => false
def nilB : Exs → List Expr → Bool
  | .nil, [] => true
  | _, _ => false
def muArg (tc : Tc) (m : Mu) (es : Exs) (xs : List Expr) : Bool := match m with
  | .append => decide (lenX es = 1) && ckEs tc es xs
  | .extend => decide (lenX es = 1) && ckEs tc es xs
  | .remove => decide (lenX es = 1) && ckEs tc es xs
  | _ => nilB es xs
/-- the clause's name -/
def hndB (tc : Tc) (nm : Option Nat) (hn : Option Str) (t : Nat) : Bool := match nm, hn with
  | none, none => true
  | some i, some x => decide (tc.N[i]? = some x) && (decide (tc.sc.names.lookup x = some .local) && decide (i ≠ t))
  | _, _ => false
mutual
def ckS (tc : Tc) (ec : Ecs) : Sm → Stmt → Bool
  | .asg t e, py => (match py with
    | .Assign [.Name y p] v _ => (match t with
      | [i] => decide (tc.N[i]? = some y) && (locB tc.sc y && (ckE tc e v && (noLc v || (lcB tc y p v || celB tc y v))))
      | _ => false)
    | .Assign [.Tuple ts k p] v _ => swpS tc t e ts v || (ckT tc t (.Tuple ts k p) && (ckE tc e v && (noLc v && noTup v)))
    | _ => false)
  | .put x k e, py => (match py with
    | .Assign [.Subscript (.Name y _) pk _] v _ => nameB tc x y && (ckE tc k pk && ckE tc e v)
    | _ => false)
  | .mut x m es, py => (match py with
    | .Expr (.Call (.Attribute (.Name y _) nm apos) xs [] cpos) _ => nameB tc x y && (decide (nm = muName m) && ((apos.endLine == cpos.line) && muArg tc m es xs))
    | _ => false)
  | .ifs c a b, py => (match py with
    | .If v pa pb _ => ckE tc c v && (ckSs tc ec a pa && ckSs tc ec b pb)
    | _ => false)
  | .whl c b, py => (match py with
    | .While v pb [] _ => ckE tc c v && ckSs tc ec b pb
    | _ => false)
  | .for_ t it b, py => (match py with
    | .For tg iter pb [] _ => tupOk it t && plainX iter && (ckI tc it iter && (ckT tc t tg && ckSs tc ec b pb))
    | _ => false)
  | .ret e, py => (match py with
    | .Return (some v) _ => ckM tc e v
    | .Return none _ => (match e with
      | .ex .non => true
      | _ => false)
    | _ => false)
  | .ex e, py => (match py with
    | .Expr v _ => noLc v && ckE tc e v
    | _ => false)
  | .brk, py => (match py with
    | .Break _ => true
    | _ => false)
  | .cont, py => (match py with
    | .Continue _ => true
    | _ => false)
  | .pass, py => (match py with
    | .Pass _ => true
    | _ => false)
  | .try_ b n x nm t k, py => (match py with
    | .Try pb [.ExceptHandler (some (.Name xn _)) hn [.Assign [.Name y _] v _] _] [] [] _ => decide (n = ec.length) && (glB tc.sc xn && (!odd xn && (decide (ec.lookup xn = some x) && (decide (tc.N[t]? = some y) && (locB tc.sc y && (ckK tc ec nm k v && (noLc v && (ckSs tc ec b pb && hndB tc nm hn t))))))))
    | _ => false)
  | .pmut p m es, py => (match py with
    | .Expr (.Call (.Attribute (.Subscript a b p0) nm apos) xs [] cpos) _ => ckP tc p (.Subscript a b p0) && (decide (nm = muName m) && ((apos.endLine == cpos.line) && muArg tc m es xs))
    | _ => false)
  | .pput p k e, py => (match py with
    | .Assign [.Subscript o i _] v _ => ckP tc p o && (ckE tc k i && ckE tc e v)
    | _ => false)
  | .lput p k e, py => (match py with
    | .Assign [.Subscript o i _] v _ => ckP tc p o && (ckE tc k i && ckE tc e v)
    | _ => false)
  | .pclr p, py => (match py with
    | .Expr (.Call (.Attribute (.Subscript a b p0) nm apos) [] [] cpos) _ => ckP tc p (.Subscript a b p0) && (decide (nm = "clear") && (apos.endLine == cpos.line))
    | .Expr (.Call (.Attribute (.Name a p0) nm apos) [] [] cpos) _ => ckP tc p (.Name a p0) && (decide (nm = "clear") && (apos.endLine == cpos.line))
    | _ => false)
  | .asgm t m, py => (match py with
    | .Assign [.Name y p] v _ => (match t with
      | [i] => decide (tc.N[i]? = some y) && (locB tc.sc y && (ckM tc m v && noLc v))
      | _ => false)
    | _ => false)
  | .ifm m a b, py => (match py with
    | .If c x y _ => ckT2 tc m c && (ckSs tc ec a x && ckSs tc ec b y)
    | _ => false)
  | .upd x e, py => (match py with
    | .Expr (.Call (.Attribute (.Name y _) nm apos) [v] [] cpos) _ => nameB tc x y && (decide (nm = "update") && ((apos.endLine == cpos.line) && ckEs tc (.cons e .nil) [v]))
    | _ => false)
  | .papp x y e, py => (match py with
    | .Expr (.Call (.Attribute (.Name a _) nm apos) [.Call (.Attribute (.Name b _) nm2 apos2) [v] [] cpos2] [] cpos) _ => nameB tc x a && (nameB tc y b && (decide (nm = "append") && (decide (nm2 = "pop") && ((apos.endLine == cpos.line) && ((apos2.endLine == cpos2.line) && ckEs tc (.cons e .nil) [v])))))
    | _ => false)
  | .sdi p k m, py => (match py with
    | .Expr (.Call (.Attribute (.Call (.Attribute o nm apos) [a, .List [] _] [] cpos) nm2 apos2) [.Constant (.int i) _ _, .Name y _] [] cpos2) _ => plainO o && (decide (nm = "setdefault") && (decide (nm2 = "insert") && ((apos.endLine == cpos.line) && ((apos2.endLine == cpos2.line) && (plainX a && (ckP tc p o && (ckE tc k a && (decide (i = 0) && nameB tc m y))))))))
    | _ => false)
  | .raise c, py => (match py with
    | .Raise (some (.Call (.Name x _) [.Constant (.str _) _ _] [] _)) none _ => glB tc.sc x && (!odd x && decide (ec.lookup x = some c))
    | _ => false)
def ckSs (tc : Tc) (ec : Ecs) : Sms → List Stmt → Bool
  | .nil, py => (match py with
    | [] => true
    | _ => false)
  | .cons s ss, py => (match py with
    | x :: xs => ckS tc ec s x && ckSs tc ec ss xs
    | _ => false)
end
structure Sok (X : Cx) (W : WX) (tc : Tc) (cl : Cl) (n : Nat) (ca fa : Nat → Addr) (ec : Ecs) : Prop extends Cok X W tc cl n ca fa where
  own : PassesOwn (model X.prog X.w) X.A X.env X.xe
  takes : L2.Takes X W
  fnx : ∀ x, X.fn x = true
  kind : X.env.scope.kind = .function
  stk : X.stack = X.env :: X.outer
  frm : X.env.frame = some X.env.locals
  exs : ∀ x c, ec.lookup x = some c → c < ec.length ∧ X.mg x = some (.ref (ca c)) ∧ PySem.W.excIn X.K (ca c) [.type "ValueError", .type "Exception", .type "BaseException", .type "object"] "ValueError.__new__" = true ∧ PySem.W.keepIn X.K (.ref (ca c)) = true ∧
    PySem.W.subIn X.K (.ref (ca c)) (.type "BaseException") = some true ∧ PySem.W.typeIn X.K (.ref (ca c)) = some (.type "type")
  exf : ExF X.K ec.length ca
section
variable {X : Cx} {ca fa : Nat → Addr} {cl : Cl} {W : WX} {tc : Tc} {n w : Nat} {ec : Ecs}
theorem loc_of (C : Sok X W tc cl n ca fa ec) {y : Str} (h : locB tc.sc y = true) : Loc X.env.scope y := by
  rw [C.sc] at h
  unfold locB at h
  split at h <;> first | exact .inl (by assumption) | exact .inr (by assumption) | cases h
mutual
theorem sM : ∀ (e : Me) (C : Cok X W tc cl n ca fa) (py : Expr), ckM tc e py = true → PE X py (tM X.K ca cl W e)
  | .mv i, C, py, h => by
    cases py <;> first | exact m_mv C h | cases h
  | .ex e, C, py, h => m_ex (sE e C py h)
  | .call f es, C, py, h => by
    unfold ckM at h
    split at h
    · rw [Bool.and_eq_true, Bool.and_eq_true, Bool.and_eq_true, decide_eq_true_eq, Bool.not_eq_true'] at h
      exact m_call C (sMs es C _ h.2.2.2) (ckMs_plain h.2.2.2) h.1 h.2.1 h.2.2.1
    · cases h
  | .idx m k, C, py, h => by
    unfold ckM at h
    split at h
    · rw [Bool.and_eq_true, decide_eq_true_eq] at h
      obtain ⟨rfl, h2⟩ := h
      exact m_idx (by have := C.room.units; omega) (sM m C _ h2)
    · cases h
  | .pop y e, C, py, h => by
    unfold ckM at h
    split at h
    · rw [Bool.and_eq_true, Bool.and_eq_true, Bool.and_eq_true, decide_eq_true_eq] at h
      obtain ⟨h1, rfl, h3, h4⟩ := h
      exact m_pop C h1 h3 h4
    · cases h
  | .cmp _ _ _, C, py, h => by cases h
  | .not _, C, py, h => by cases h
  | .and _ _, C, py, h => by cases h
  | .tup es, C, py, h => by
    cases py with
    | Tuple xs k p =>
      have h : (decide (lenM es ≤ 1000) && ckMs tc es xs) = true := h
      rw [Bool.and_eq_true, decide_eq_true_eq] at h
      exact m_tup (sMs es C xs h.2) h.1
    | _ => cases h
theorem sMs : ∀ (es : Mes) (C : Cok X W tc cl n ca fa) (pys : List Expr), ckMs tc es pys = true → PA X pys (tMs X.K ca cl W es)
  | .nil, C, pys, h => by
    cases pys with
    | nil => exact m_nil
    | cons _ _ => cases h
  | .cons e es, C, pys, h => by
    cases pys with
    | nil => cases h
    | cons y ys =>
      have h : (plainX y && (ckM tc e y && ckMs tc es ys)) = true := h
      rw [Bool.and_eq_true, Bool.and_eq_true] at h
      exact m_cons (sM e C y h.2.1) (sMs es C ys h.2.2) h.1
end
theorem sT2 : ∀ (m : Me) (C : Cok X W tc cl n ca fa) (py : Expr), ckT2 tc m py = true → SndT X ca cl W m py
  | .ex e, C, py, h => t_ex (sE e C py h)
  | .call f es, C, py, h => by
    have h : (truthX py && ckM tc (.call f es) py) = true := h
    rw [Bool.and_eq_true] at h
    exact t_val (sM _ C py h.2) h.1
  | .not m, C, py, h => by
    unfold ckT2 at h
    split at h
    · exact t_not (sT2 m C _ h).pt
    · cases h
  | .cmp op a b, C, py, h => by
    unfold ckT2 at h
    split at h
    · rw [Bool.and_eq_true, Bool.and_eq_true, Bool.and_eq_true, decide_eq_true_eq] at h
      obtain ⟨rfl, h2, h3, h4⟩ := h
      exact m_cmp (by have := C.room.un; omega) (sM a C _ h3) (sM b C _ h4) h2
    · cases h
  | .and a b, C, py, h => by
    unfold ckT2 at h
    split at h
    · rw [Bool.and_eq_true] at h
      exact t_and (sT2 a C _ h.1).pt (pw_and1 (sT2 b C _ h.2).pt) (by simp)
    · rw [Bool.and_eq_true] at h
      exact t_and (sT2 a C _ h.1).pt ((sT2 b C _ h.2).pw _ _ _ rfl) (by simp)
    · cases h
  | .mv _, _, _, h => by cases h
  | .tup _, _, _, h => by cases h
  | .idx _ _, _, _, h => by cases h
  | .pop _ _, _, _, h => by cases h
theorem a_set {i : Nat} {e : Ex} {y : Str} {v : Expr} {p pos : Pos} (C : Sok X W tc cl n ca fa ec) (h1 : tc.N[i]? = some y) (h2 : locB tc.sc y = true) (h3 : ckE tc e v = true) (h4 : (noLc v || (lcB tc y p v || celB tc y v)) = true) : PS X (.Assign [.Name y p] v pos) (tS X.K ca cl w W (.asg [i] e)) := by
  by_cases hn : noLc v = true
  · exact PS.imp (ps_set C.nd (by rw [← C.N]; exact h1) (loc_of C h2) (sE e C.toCok v h3).pe (sw_no hn) (.inl (C.fnx _))) fun D σ H hq => asg_imp hq
  · have h4 : (lcB tc y p v || celB tc y v) = true := by
      rcases Bool.or_eq_true _ _ ▸ h4 with z | z
      · exact absurd z hn
      · exact z
    by_cases hc : celB tc y v = true
    · have sw : swapsWith v (some (.Name y p)) pos.line X.env = pure false := by
        cases v with
        | ListComp elt gs scope lp =>
          have hc : decide (tc.sc.names.lookup y = some .cell) = true := hc
          have hk : X.env.kindOf y = some .cell := by
            rw [C.sc] at hc
            exact of_decide_eq_true hc
          have hn : (NameKind.cell == NameKind.local) = false := rfl
          unfold swapsWith
          simp [hk, hn]
        | _ => cases hc
      exact PS.imp (ps_set C.nd (by rw [← C.N]; exact h1) (loc_of C h2) (sE e C.toCok v h3).pe sw (.inl (C.fnx _))) fun D σ H hq => asg_imp hq
    have h4 : lcB tc y p v = true := by
      rcases Bool.or_eq_true _ _ ▸ h4 with z | z
      · exact z
      · exact absurd z hc
    cases v with
    | ListComp elt gs scope lp =>
      have h4 : (decide (tc.sc.names.lookup y = some .local) && ((p.line == lp.line) && !(scope.names.any fun (n, k) => n == y && (k == .local || k == .cell)))) = true := h4
      rw [Bool.and_eq_true, Bool.and_eq_true, decide_eq_true_eq, Bool.not_eq_true'] at h4
      obtain ⟨k1, k2, k3⟩ := h4
      rw [C.sc] at k1
      cases e with
      | lc t own it c e =>
        match gs, h3 with
        | [⟨tg, iter, ifs, z⟩], h =>
          have h : (tupOk it t && decide (z = 0) && decide (t = own) && (blkC tc.N tc.sc scope (ownN tc.N own) && decide ((ownN tc.N own).map (·.2) = own) && (ckI tc it iter &&
            (ckT ⟨tc.N, scope, tc.fn, tc.gl⟩ t tg && decide (plainX iter = true) && (ckC ⟨tc.N, relS scope tc.sc, tc.fn, tc.gl⟩ c ifs && ckE ⟨tc.N, relS scope tc.sc, tc.fn, tc.gl⟩ e elt))))) = true := h
          rw [Bool.and_eq_true, Bool.and_eq_true, Bool.and_eq_true, Bool.and_eq_true, Bool.and_eq_true, Bool.and_eq_true, Bool.and_eq_true, Bool.and_eq_true, Bool.and_eq_true, decide_eq_true_eq, decide_eq_true_eq, decide_eq_true_eq, decide_eq_true_eq] at h
          obtain ⟨⟨⟨h0, rfl⟩, rfl⟩, ⟨h1', h2'⟩, h3, ⟨h4, h5⟩, h6, h7⟩ := h
          have D := C.toCok
          exact PS.imp (ps_setLc C.calm C.nd (by rw [← C.N]; exact h1) k1 (sw_true C.kind k1 k2 k3) (sI it D iter (tup_tg h0 h4) h3) (blkOk_by (by rw [← C.N, ← C.sc]; exact h1')) (pg_blk D (by rw [← C.N]; exact h4)) (fun s H Ca l fp => sC c (D.blk s H scope Ca l fp) ifs h6) (fun s H Ca l fp => (sE e (D.blk s H scope Ca l fp) elt h7).pe) (fold_of h5))
            fun D σ H hq => lc_imp h2' (asg_imp hq)
        | [], h => cases h
        | ⟨_, _, _, _⟩ :: _ :: _, h => cases h
      | _ => cases h3
    | _ => cases h4
theorem pg_def (C : Sok X W tc cl n ca fa ec) {t : List Nat} {tg : Expr} (h : ckT tc t tg = true) : PG X tg (tG X.K t) := by
  refine pg_of C.calm C.nd (sc := tc.sc) (fn := tc.fn) (gl := tc.gl) (fun x hx => ⟨loc_of C hx, .inl (C.fnx x)⟩) ?_
  rw [← C.N]
  exact h
theorem s_raise {c : Nat} {x m : Str} {j : Nat} {p p2 p3 pos : Pos} (C : Sok X W tc cl n ca fa ec) (h1 : glB tc.sc x = true) (h2 : odd x = false) (h3 : ec.lookup x = some c) : PS X (.Raise (some (.Call (.Name x p) [.Constant (.str m) j p2] [] p3)) none pos) (tS X.K ca cl w W (.raise c)) := by
  obtain ⟨_, m1, m2, m3, m4, m5⟩ := C.exs x c h3
  have hd : (x == ("__debug__" : Str)) = false := by
    unfold odd at h2
    rw [Bool.or_eq_false_iff] at h2
    exact h2.1
  refine PS.imp (ps_raise C.calm C.takes (pmk_own PySem.F.excBase_ValueError m2 m1 m3 (raises_own m4 m5) (gl_of C.toCok h1) hd)) fun D σ H hq => ?_
  obtain ⟨ok0, env, fps, S, hm⟩ := hq
  exact hm () σ H fps S (Stp.same (Same.refl _))
theorem s_mutA {m : Mu} {x : Nat} {es : Exs} {y : Str} {xs : List Expr} {p apos cpos pos : Pos} (C : Cok X W tc cl n ca fa) (hn : nameB tc x y = true) (hl : (apos.endLine == cpos.line) = true) (ha : muArg tc m es xs = true) :
    PS X (.Expr (.Call (.Attribute (.Name y p) (muName m) apos) xs [] cpos) pos) (tS X.K ca cl w W (.mut x m es)) := by
  have one : ∀ (h : (decide (lenX es = 1) && ckEs tc es xs) = true), ∃ e py, es = .cons e .nil ∧ xs = [py] ∧ plainX py = true ∧ PA X [py] (tAs X.K ca cl W (.cons e .nil)) := fun h => by
    rw [Bool.and_eq_true, decide_eq_true_eq] at h
    have q := sEs es C xs h.2
    match es, xs, h, q with
    | .cons e .nil, [py], h, q => exact ⟨e, py, rfl, rfl, q.2 py List.mem_cons_self, q.1⟩
    | .nil, _, h, _ => cases h.1
    | .cons _ (.cons _ _), _, h, _ => exact absurd h.1 (by simp [lenX])
    | .cons _ .nil, [], h, _ => cases h.2
    | .cons _ .nil, _ :: _ :: _, h, _ => have := h.2; simp [ckEs] at this
  have zero : nilB es xs = true → es = .nil ∧ xs = [] := fun h => by
    cases es <;> cases xs <;> first | exact ⟨rfl, rfl⟩ | cases h
  cases m with
  | append =>
    obtain ⟨e, py, rfl, rfl, hp, h⟩ := one ha
    exact s_mut1 C PySem.F.slot_list_append PySem.F.type_list_append mt_append hn h hp hl
  | extend =>
    obtain ⟨e, py, rfl, rfl, hp, h⟩ := one ha
    exact s_mut1 C PySem.F.slot_list_extend PySem.F.type_list_extend mt_extendR hn h hp hl
  | remove =>
    obtain ⟨e, py, rfl, rfl, hp, h⟩ := one ha
    exact s_mut1 C PySem.F.slot_list_remove PySem.F.type_list_remove mt_removeS hn h hp hl
  | pop =>
    obtain ⟨rfl, rfl⟩ := zero ha
    exact s_mut0 C PySem.F.slot_list_pop PySem.F.type_list_pop mt_pop hn hl
  | clear =>
    obtain ⟨rfl, rfl⟩ := zero ha
    exact s_mut0 C PySem.F.slot_list_clear PySem.F.type_list_clear mt_clear hn hl
  | reverse =>
    obtain ⟨rfl, rfl⟩ := zero ha
    exact s_mut0 C PySem.F.slot_list_reverse PySem.F.type_list_reverse mt_reverse hn hl
theorem tP_mono {p : Px} {σ : L2.St} {H : Hp} {Q Q' : VK} (h : tP X.K ca cl W p σ H Q) (k : ∀ v H1, Q v H1 → Q' v H1) : tP X.K ca cl W p σ H Q' := by
  obtain ⟨ok0, env, fps, S, hm⟩ := h
  refine ⟨ok0, env, fps, S, ?_⟩
  cases e : evP cl env p with
  | ok q => rw [e] at hm; exact fun H1 pv v0 v f s1 ev e0 F => k v H1 (hm H1 pv v0 v f s1 ev e0 F)
  | exc c => rw [e] at hm; exact hm
  | bad => rw [e] at hm; exact hm
theorem pth_of (C : Cok X W tc cl n ca fa) {p : Px} {py : Expr} (h : ckP tc p py = true) : PE X py (tP X.K ca cl W p) := p_pe (fun e py h => sE e C py h) C p py h
theorem s_pmut1 {m : Mu} {id : String} {q : Px} {e : Ex} {a b py : Expr} {p0 apos cpos pos : Pos} (C : Cok X W tc cl n ca fa) (slot : Slot "list" (muName m) id) (hty : typeOf (.builtin id) = pure (.type "method_descriptor")) (hm : MtR X id (rMu m))
    (hn : ckP tc q (.Subscript a b p0) = true) (h : PA X [py] (tAs X.K ca cl W (.cons e .nil))) (hp : plainX py = true) (hl : (apos.endLine == cpos.line) = true) : PS X (.Expr (.Call (.Attribute (.Subscript a b p0) (muName m) apos) [py] [] cpos) pos) (tS X.K ca cl w W (.pmut q m (.cons e .nil))) :=
  PS.imp (ps_expr (pe_bm PySem.F.plainAttrs_list slot hty hm (pth_of C hn) h rfl (few_of hp) hl (star_of hp) rfl) (sw_no rfl)) fun D σ H hq => pmut_imp hq
theorem s_pmut0 {m : Mu} {id : String} {q : Px} {a b : Expr} {p0 apos cpos pos : Pos} (C : Cok X W tc cl n ca fa) (slot : Slot "list" (muName m) id) (hty : typeOf (.builtin id) = pure (.type "method_descriptor")) (hm : MtR X id (rMu m))
    (hn : ckP tc q (.Subscript a b p0) = true) (hl : (apos.endLine == cpos.line) = true) : PS X (.Expr (.Call (.Attribute (.Subscript a b p0) (muName m) apos) [] [] cpos) pos) (tS X.K ca cl w W (.pmut q m .nil)) := by
  refine PS.imp (ps_expr (pe_bm0 PySem.F.plainAttrs_list slot hty hm (pth_of C hn) rfl hl) (sw_no rfl)) fun D σ H hq => ?_
  refine tP_mono (pmut_imp hq) fun v H1 z => ?_
  obtain ⟨z1, env, ok, hi, fr, hp⟩ := z
  exact ⟨z1, hp H1 [] [] (Same.refl _) .nil (fun _ z => nomatch z) .nil⟩
theorem s_pmutA {m : Mu} {q : Px} {es : Exs} {a b : Expr} {xs : List Expr} {p0 apos cpos pos : Pos} (C : Cok X W tc cl n ca fa) (hn : ckP tc q (.Subscript a b p0) = true) (hl : (apos.endLine == cpos.line) = true) (ha : muArg tc m es xs = true) :
    PS X (.Expr (.Call (.Attribute (.Subscript a b p0) (muName m) apos) xs [] cpos) pos) (tS X.K ca cl w W (.pmut q m es)) := by
  have one : ∀ (h : (decide (lenX es = 1) && ckEs tc es xs) = true), ∃ e py, es = .cons e .nil ∧ xs = [py] ∧ plainX py = true ∧ PA X [py] (tAs X.K ca cl W (.cons e .nil)) := fun h => by
    rw [Bool.and_eq_true, decide_eq_true_eq] at h
    have q := sEs es C xs h.2
    match es, xs, h, q with
    | .cons e .nil, [py], h, q => exact ⟨e, py, rfl, rfl, q.2 py List.mem_cons_self, q.1⟩
    | .nil, _, h, _ => cases h.1
    | .cons _ (.cons _ _), _, h, _ => exact absurd h.1 (by simp [lenX])
    | .cons _ .nil, [], h, _ => cases h.2
    | .cons _ .nil, _ :: _ :: _, h, _ => have := h.2; simp [ckEs] at this
  have zero : nilB es xs = true → es = .nil ∧ xs = [] := fun h => by
    cases es <;> cases xs <;> first | exact ⟨rfl, rfl⟩ | cases h
  cases m with
  | append =>
    obtain ⟨e, py, rfl, rfl, hp, h⟩ := one ha
    exact s_pmut1 C PySem.F.slot_list_append PySem.F.type_list_append mt_append hn h hp hl
  | extend =>
    obtain ⟨e, py, rfl, rfl, hp, h⟩ := one ha
    exact s_pmut1 C PySem.F.slot_list_extend PySem.F.type_list_extend mt_extendR hn h hp hl
  | remove =>
    obtain ⟨e, py, rfl, rfl, hp, h⟩ := one ha
    exact s_pmut1 C PySem.F.slot_list_remove PySem.F.type_list_remove mt_removeS hn h hp hl
  | pop =>
    obtain ⟨rfl, rfl⟩ := zero ha
    exact s_pmut0 C PySem.F.slot_list_pop PySem.F.type_list_pop mt_pop hn hl
  | clear =>
    obtain ⟨rfl, rfl⟩ := zero ha
    exact s_pmut0 C PySem.F.slot_list_clear PySem.F.type_list_clear mt_clear hn hl
  | reverse =>
    obtain ⟨rfl, rfl⟩ := zero ha
    exact s_pmut0 C PySem.F.slot_list_reverse PySem.F.type_list_reverse mt_reverse hn hl
theorem s_pput {q : Px} {k e : Ex} {o i v : Expr} {p2 pos : Pos} (C : Cok X W tc cl n ca fa) (hq : ckP tc q o = true) (hk : ckE tc k i = true) (he : ckE tc e v = true) : PS X (.Assign [.Subscript o i p2] v pos) (tS X.K ca cl w W (.pput q k e)) :=
  PS.imp (ps_dput (by have := C.room.units; omega) (pth_of C hq) (sE k C i hk).pe (sE e C v he).pe sw_sub) fun D σ H hq => pput_imp hq
theorem s_lput {q : Px} {k e : Ex} {o i v : Expr} {p2 pos : Pos} (C : Cok X W tc cl n ca fa) (hq : ckP tc q o = true) (hk : ckE tc k i = true) (he : ckE tc e v = true) : PS X (.Assign [.Subscript o i p2] v pos) (tS X.K ca cl w W (.lput q k e)) :=
  PS.imp (ps_lput (by have := C.room.units; omega) (pth_of C hq) (sE k C i hk).pe (sE e C v he).pe sw_sub) fun D σ H hq => lput_imp hq
theorem s_upd {x : Nat} {e : Ex} {y : Str} {v : Expr} {p apos cpos pos : Pos} (C : Cok X W tc cl n ca fa) (hn : nameB tc x y = true) (hl : (apos.endLine == cpos.line) = true) (ha : ckEs tc (.cons e .nil) [v] = true) : PS X (.Expr (.Call (.Attribute (.Name y p) "update" apos) [v] [] cpos) pos) (tS X.K ca cl w W (.upd x e)) := by
  have h := sEs (.cons e .nil) C [v] ha
  have hp := h.2 v List.mem_cons_self
  refine PS.imp (ps_expr (pe_bm PySem.F.plainAttrs_dict PySem.F.slot_dict_update PySem.F.type_dict_update mtd_update (name_of C hn) h.1 rfl (few_of hp) hl (star_of hp) rfl) (sw_no rfl)) fun D σ H hq => ?_
  obtain ⟨v0, e1, e2, e3⟩ := upd_imp hq
  exact ⟨v0, e1, e2, e3⟩
theorem s_papp {x z : Nat} {e : Ex} {a b : Str} {v : Expr} {p1 p2 apos cpos apos2 cpos2 pos : Pos} (C : Cok X W tc cl n ca fa) (hn : nameB tc x a = true) (hn2 : nameB tc z b = true) (hl : (apos.endLine == cpos.line) = true) (hl2 : (apos2.endLine == cpos2.line) = true) (ha : ckEs tc (.cons e .nil) [v] = true) :
    PS X (.Expr (.Call (.Attribute (.Name a p1) "append" apos) [.Call (.Attribute (.Name b p2) "pop" apos2) [v] [] cpos2] [] cpos) pos) (tS X.K ca cl w W (.papp x z e)) := by
  have h := sEs (.cons e .nil) C [v] ha
  have hp := h.2 v List.mem_cons_self
  refine PS.imp (ps_expr (pe_bm PySem.F.plainAttrs_list PySem.F.slot_list_append PySem.F.type_list_append mt_append (name_of C hn) (pa_cons (pe_bm PySem.F.plainAttrs_list PySem.F.slot_list_pop PySem.F.type_list_pop mt_popAt (name_of C hn2) h.1 rfl (few_of hp) hl2 (star_of hp) rfl) pa_nil rfl) rfl rfl hl rfl rfl) (sw_no rfl)) fun D σ H hq => ?_
  obtain ⟨v0, e1, e2, v1, e3, e4, e5⟩ := papp_imp hq
  exact ⟨v0, e1, e2, v1, e3, e4, e5⟩
theorem s_sdi {q : Px} {k : Ex} {m : Nat} {o a : Expr} {y : Str} {i : Int} {j : Nat} {p1 p2 p3 apos cpos apos2 cpos2 pos : Pos} (C : Cok X W tc cl n ca fa) (hb : plainO o = true) (hl : (apos.endLine == cpos.line) = true) (hl2 : (apos2.endLine == cpos2.line) = true) (hp : plainX a = true) (hq : ckP tc q o = true) (hk : ckE tc k a = true) (h0 : i = 0) (hm : nameB tc m y = true) :
    PS X (.Expr (.Call (.Attribute (.Call (.Attribute o "setdefault" apos) [a, .List [] p1] [] cpos) "insert" apos2) [.Constant (.int i) j p2, .Name y p3] [] cpos2) pos) (tS X.K ca cl w W (.sdi q k m)) := by
  subst h0
  refine PS.imp (ps_expr (pe_bm PySem.F.plainAttrs_list PySem.F.slot_list_insert PySem.F.type_list_insert mt_insert (pe_dsetd (pth_of C hq) (sE k C a hk).pe (pe_lst pa_nil) (m2_of hb hp rfl hl)) (pa_cons pe_int (pa_cons (name_of C hm) pa_nil rfl) rfl) rfl rfl hl2 rfl rfl) (sw_no rfl)) fun D σ H hq => ?_
  exact sdi_imp hq
/-- the body of a try -/
theorem Sok.tr (C : Sok X W tc cl n ca fa ec) {W' : WX} {pn : List (Addr × Obj)} {xe : Value → Shared → Prop} (tk : L2.Takes (X.tr pn xe) W') (own : PassesOwn (model X.prog X.w) X.A X.env xe) : Sok (X.tr pn xe) W' tc cl n ca fa ec where
  calm := C.calm
  nd := C.nd
  N := C.N
  sc := C.sc
  room := C.room
  pass := fun σ => passAt tk σ
  blt := C.blt
  gls := C.gls
  fns := C.fns
  own := own
  takes := tk
  fnx := C.fnx
  kind := C.kind
  stk := C.stk
  frm := C.frm
  exs := C.exs
  exf := C.exf
theorem Sok.sut (C : Sok X W tc cl n ca fa ec) (cls : Value) (d : Option Addr) (oe : Obj) (hz : Zc cls d oe) (hf : ∃ vs, oe.data = .fields vs) : Sut X tc ec ec.length ca cls d oe where
  nd := C.nd
  N := C.N
  sc := C.sc
  blt := C.blt
  fnx := C.fnx
  exs := fun x c h => ⟨(C.exs x c h).2.1, (C.exs x c h).1⟩
  F := C.exf
  hz := hz
  hf := hf
end
section
variable {ca fa : Nat → Addr} {cl : Cl} {tc : Tc} {n w : Nat} {ec : Ecs}
mutual
theorem sS : ∀ (s : Sm) {X : Cx} {W : WX} (C : Sok X W tc cl n ca fa ec) (py : Stmt), ckS tc ec s py = true → PS X py (tS X.K ca cl w W s)
  | .asg t e, X, W, C, py, h => by
    cases py with
    | Assign ts v pos =>
      match ts, h with
      | [.Name y p], h =>
        match t, h with
        | [i], h =>
          have h : (decide (tc.N[i]? = some y) && (locB tc.sc y && (ckE tc e v && (noLc v || (lcB tc y p v || celB tc y v))))) = true := h
          rw [Bool.and_eq_true, Bool.and_eq_true, Bool.and_eq_true, decide_eq_true_eq] at h
          exact a_set C h.1 h.2.1 h.2.2.1 h.2.2.2
        | [], h => cases h
        | _ :: _ :: _, h => cases h
      | [.Tuple ts k p], h =>
        have h : (swpS tc t e ts v || (ckT tc t (.Tuple ts k p) && (ckE tc e v && (noLc v && noTup v)))) = true := h
        rw [Bool.or_eq_true] at h
        rcases h with h | h
        · exact swp_ok C.toCok C.kind h
        rw [Bool.and_eq_true, Bool.and_eq_true, Bool.and_eq_true] at h
        exact PS.imp (ps_asg (sE e C.toCok v h.2.1).pe (pg_def C h.1) (show swapsWithSole [Expr.Tuple ts k p] v pos.line X.env = pure false from sw_no (t := some (Expr.Tuple ts k p)) (l := pos.line) (env := X.env) h.2.2.1) (ss_no h.2.2.2) rfl) fun D σ H hq => asg_imp hq
      | [], h => cases h
      | .Name _ _ :: _ :: _, h => cases h
      | .Tuple _ _ _ :: _ :: _, h => cases h
    | _ => cases h
  | .put x k e, X, W, C, py, h => by
    unfold ckS at h
    split at h
    · rw [Bool.and_eq_true, Bool.and_eq_true] at h
      exact s_put C.toCok h.1 (sE k C.toCok _ h.2.1) (sE e C.toCok _ h.2.2)
    · cases h
  | .mut x m es, X, W, C, py, h => by
    cases py with
    | Expr e pos =>
      cases e with
      | Call f xs ks cpos =>
        cases f with
        | Attribute o nm apos =>
          cases o with
          | Name y p =>
            cases ks with
            | nil =>
              have h : (nameB tc x y && (decide (nm = muName m) && ((apos.endLine == cpos.line) && muArg tc m es xs))) = true := h
              rw [Bool.and_eq_true, Bool.and_eq_true, Bool.and_eq_true, decide_eq_true_eq] at h
              obtain ⟨h1, rfl, h2, h3⟩ := h
              exact s_mutA C.toCok h1 h2 h3
            | cons _ _ => cases h
          | _ => cases h
        | _ => cases h
      | _ => cases h
    | _ => cases h
  | .ifs c a b, X, W, C, py, h => by
    cases py with
    | If v pa pb pos =>
      have h : (ckE tc c v && (ckSs tc ec a pa && ckSs tc ec b pb)) = true := h
      rw [Bool.and_eq_true, Bool.and_eq_true] at h
      exact s_if (sE c C.toCok v h.1) (sSs a C pa h.2.1) (sSs b C pb h.2.2)
    | _ => cases h
  | .whl c b, X, W, C, py, h => by
    cases py with
    | While v pb el pos =>
      cases el with
      | nil =>
        have h : (ckE tc c v && ckSs tc ec b pb) = true := h
        rw [Bool.and_eq_true] at h
        exact s_whl C.own (sE c C.toCok v h.1) (sSs b C pb h.2)
      | cons _ _ => cases h
    | _ => cases h
  | .for_ t it b, X, W, C, py, h => by
    cases py with
    | For tg iter pb el pos =>
      cases el with
      | nil =>
        have h : (tupOk it t && plainX iter && (ckI tc it iter && (ckT tc t tg && ckSs tc ec b pb))) = true := h
        rw [Bool.and_eq_true, Bool.and_eq_true, Bool.and_eq_true, Bool.and_eq_true] at h
        exact s_for C.own C.calm (sI it C.toCok iter (tup_tg h.1.1 h.2.2.1) h.2.1) (fun i e => var_of C.toCok (by rw [← e]; exact h.2.1)) (pg_def C h.2.2.1) (sSs b C pb h.2.2.2) h.1.2
      | cons _ _ => cases h
    | _ => cases h
  | .ret e, X, W, C, py, h => by
    cases py with
    | Return v pos =>
      cases v with
      | some v => exact s_ret (sM e C.toCok v h)
      | none =>
        cases e with
        | ex e =>
          cases e with
          | non => exact s_retN
          | _ => cases h
        | _ => cases h
    | _ => cases h
  | .ex e, X, W, C, py, h => by
    cases py with
    | Expr v pos =>
      have h : (noLc v && ckE tc e v) = true := h
      rw [Bool.and_eq_true] at h
      exact s_exps (sE e C.toCok v h.2) h.1
    | _ => cases h
  | .brk, X, W, C, py, h => by
    cases py <;> first | exact s_brk | cases h
  | .cont, X, W, C, py, h => by
    cases py <;> first | exact s_cont | cases h
  | .pass, X, W, C, py, h => by
    cases py <;> first | exact s_pass | cases h
  | .try_ b k x nm t kx, X, W, C, py, h => by
    unfold ckS at h
    split at h
    · rename_i pb xn np hn y p v p2 p3 p4
      rw [Bool.and_eq_true, Bool.and_eq_true, Bool.and_eq_true, Bool.and_eq_true, Bool.and_eq_true, Bool.and_eq_true, Bool.and_eq_true, Bool.and_eq_true, Bool.and_eq_true, decide_eq_true_eq, decide_eq_true_eq, decide_eq_true_eq, Bool.not_eq_true'] at h
      obtain ⟨rfl, h1, h2, h3, h4, h5, h6, h7, h8, h9⟩ := h
      have m := C.exs xn x h3
      have nm_ : Names X xn (.ref (ca x)) := ⟨gl_of C.toCok h1, nd_of h2, .inl m.2.1⟩
      have hb : ∀ (W' : WX) (pn : List (Addr × Obj)) (xe : Value → Shared → Prop), L2.Takes (X.tr pn xe) W' → PassesOwn (model X.prog X.w) X.A X.env xe → PSs (X.tr pn xe) pb (tSs X.K ca cl w W' b) := fun W' pn xe tk own => sSs b (C.tr tk own) pb h8
      unfold hndB at h9
      split at h9
      · exact s_tryN C.stk C.frm C.takes nm_ m.1 C.sut C.exf C.nd (by rw [← C.N]; exact h4) (loc_of C h5) h6 h7 hb
      · rename_i i nn
        rw [Bool.and_eq_true, Bool.and_eq_true, decide_eq_true_eq, decide_eq_true_eq, decide_eq_true_eq] at h9
        refine s_tryA C.stk C.frm C.takes nm_ m.1 C.sut C.exf C.nd (by rw [← C.N]; exact h4) (loc_of C h5) h6 h7 (by rw [← C.N]; exact h9.1) ?_ h9.2.2 hb
        have z := h9.2.1
        rw [C.sc] at z
        exact z
      · cases h9
    · cases h
  | .pmut p m es, X, W, C, py, h => by
    unfold ckS at h
    split at h
    · rw [Bool.and_eq_true, Bool.and_eq_true, Bool.and_eq_true, decide_eq_true_eq] at h
      obtain ⟨h1, rfl, h2, h3⟩ := h
      exact s_pmutA C.toCok h1 h2 h3
    · cases h
  | .pput p k e, X, W, C, py, h => by
    unfold ckS at h
    split at h
    · rw [Bool.and_eq_true, Bool.and_eq_true] at h
      exact s_pput C.toCok h.1 h.2.1 h.2.2
    · cases h
  | .lput p k e, X, W, C, py, h => by
    unfold ckS at h
    split at h
    · rw [Bool.and_eq_true, Bool.and_eq_true] at h
      exact s_lput C.toCok h.1 h.2.1 h.2.2
    · cases h
  | .pclr p, X, W, C, py, h => by
    unfold ckS at h
    split at h
    · rw [Bool.and_eq_true, Bool.and_eq_true, decide_eq_true_eq] at h
      obtain ⟨h1, rfl, h2⟩ := h
      exact PS.imp (ps_expr (pe_clr (pth_of C.toCok h1) rfl h2) (sw_no rfl)) fun D σ H hq => pclr_imp hq
    · rw [Bool.and_eq_true, Bool.and_eq_true, decide_eq_true_eq] at h
      obtain ⟨h1, rfl, h2⟩ := h
      exact PS.imp (ps_expr (pe_clr (pth_of C.toCok h1) rfl h2) (sw_no rfl)) fun D σ H hq => pclr_imp hq
    · cases h
  | .asgm t m, X, W, C, py, h => by
    unfold ckS at h
    split at h
    · split at h
      · rw [Bool.and_eq_true, Bool.and_eq_true, Bool.and_eq_true, decide_eq_true_eq] at h
        obtain ⟨h1, h2, h3, h4⟩ := h
        exact PS.imp (ps_set C.nd (by rw [← C.N]; exact h1) (loc_of C h2) (sM m C.toCok _ h3) (sw_no h4) (.inl (C.fnx _))) fun D σ H hq => asgm_imp hq
      · cases h
    · cases h
  | .ifm m a b, X, W, C, py, h => by
    cases py with
    | If v pa pb pos =>
      have h : (ckT2 tc m v && (ckSs tc ec a pa && ckSs tc ec b pb)) = true := h
      rw [Bool.and_eq_true, Bool.and_eq_true] at h
      exact s_ifm (sT2 m C.toCok v h.1).pt (sSs a C pa h.2.1) (sSs b C pb h.2.2)
    | _ => cases h
  | .upd x e, X, W, C, py, h => by
    unfold ckS at h
    split at h
    · rw [Bool.and_eq_true, Bool.and_eq_true, Bool.and_eq_true, decide_eq_true_eq] at h
      obtain ⟨h1, rfl, h2, h3⟩ := h
      exact s_upd C.toCok h1 h2 h3
    · cases h
  | .papp x z e, X, W, C, py, h => by
    unfold ckS at h
    split at h
    · rw [Bool.and_eq_true, Bool.and_eq_true, Bool.and_eq_true, Bool.and_eq_true, Bool.and_eq_true, Bool.and_eq_true, decide_eq_true_eq, decide_eq_true_eq] at h
      obtain ⟨h1, h2, rfl, rfl, h3, h4, h5⟩ := h
      exact s_papp C.toCok h1 h2 h3 h4 h5
    · cases h
  | .sdi p k m, X, W, C, py, h => by
    unfold ckS at h
    split at h
    · rw [Bool.and_eq_true, Bool.and_eq_true, Bool.and_eq_true, Bool.and_eq_true, Bool.and_eq_true, Bool.and_eq_true, Bool.and_eq_true, Bool.and_eq_true, Bool.and_eq_true, decide_eq_true_eq, decide_eq_true_eq, decide_eq_true_eq] at h
      obtain ⟨h1, rfl, rfl, h2, h3, h4, h5, h6, h7, h8⟩ := h
      exact s_sdi C.toCok h1 h2 h3 h4 h5 h6 h7 h8
    · cases h
  | .raise c, X, W, C, py, h => by
    unfold ckS at h
    split at h
    · rw [Bool.and_eq_true, Bool.and_eq_true, decide_eq_true_eq, Bool.not_eq_true'] at h
      exact s_raise C h.1 h.2.1 h.2.2
    · cases h
theorem sSs : ∀ (s : Sms) {X : Cx} {W : WX} (C : Sok X W tc cl n ca fa ec) (pys : List Stmt), ckSs tc ec s pys = true → PSs X pys (tSs X.K ca cl w W s)
  | .nil, X, W, C, pys, h => by
    cases pys with
    | nil => exact s_nil
    | cons _ _ => cases h
  | .cons s ss, X, W, C, pys, h => by
    cases pys with
    | nil => cases h
    | cons y ys =>
      have h : (ckS tc ec s y && ckSs tc ec ss ys) = true := h
      rw [Bool.and_eq_true] at h
      exact s_cons (sS s C y h.1) (sSs ss C ys h.2)
end
end
end BW

/-! The defs of a table. -/
namespace BW
open PySem PySem.Spec PyProof.Rows
open L2 hiding St

structure Df where
  x : Str
  params : Arguments
  body : List Stmt
  scope : Scope
  N : List Str
  ps : List Str
  d : Fd
abbrev Df.Bn (D : Df) : Prop := ∀ (kV doc pm : Value) (an : Option Addr) (cdv ct : Value) (us : List Value), us.length = D.ps.length → bindArgs (PySem.W.fnOf D.x D.x D.params D.body D.scope .none kV doc pm an cdv ct) ⟨us, []⟩ = pure (D.ps.zip us)
structure Df.Ok (D : Df) (fn : List (Str × Nat)) (gl : List (Str × Gk)) (ec : Ecs) : Prop where
  S : FnScope D.N D.ps D.scope
  ck : ckSs ⟨D.N, D.scope, fn, gl⟩ ec D.d.body D.body = true
  np : D.d.np = D.ps.length
  ns : D.d.ns = D.N.length
  bn : D.Bn
def parB (sc : Scope) (x : Str) : Bool := match sc.names.lookup x with
  | some .local => true
  | some .cell => true
  | _ => false
def nofB (k : NameKind) : Bool := match k with
  | .free => false
  | _ => true
def kfB (k : ScopeKind) : Bool := match k with
  | .function => true
  | _ => false
/-- all of it but the binding, by running -/
def Df.okB (D : Df) (fn : List (Str × Nat)) (gl : List (Str × Gk)) (ec : Ecs) : Bool := kfB D.scope.kind && (!D.scope.isCoroutine && (!D.scope.isGenerator && (decide D.N.Nodup && (decide (D.N.take D.ps.length = D.ps) && (D.ps.all (parB D.scope) && (D.scope.names.all (fun y => nofB y.2) &&
  (ckSs ⟨D.N, D.scope, fn, gl⟩ ec D.d.body D.body && (decide (D.d.np = D.ps.length) && decide (D.d.ns = D.N.length)))))))))
theorem Df.ok_of {D : Df} {fn : List (Str × Nat)} {gl : List (Str × Gk)} {ec : Ecs} (h : D.okB fn gl ec = true) (b : D.Bn) : D.Ok fn gl ec := by
  unfold Df.okB at h
  simp only [Bool.and_eq_true, decide_eq_true_eq, Bool.not_eq_true', List.all_eq_true] at h
  obtain ⟨h1, h2, h3, h4, h5, h6, h7, h8, h9, h10⟩ := h
  refine ⟨⟨?_, h2, h3, h4, h5, fun x hx => ?_, fun y hy e => ?_⟩, h8, h9, h10, b⟩
  · unfold kfB at h1
    split at h1 <;> first | assumption | cases h1
  · have q := h6 x hx
    unfold parB at q
    split at q <;> first | exact .inl (by assumption) | exact .inr (by assumption) | cases q
  · have q := h7 y hy
    rw [e] at q
    cases q
def tabT (tab : List Df) : Nat → Option Fd := fun i => (tab[i]?).map (·.d)
/-- what a head tells of a table -/
structure Env1 (K : PySem.W.Frag) (mg : Str → Option Value) (tab : List Df) (fn : List (Str × Nat)) (gl : List (Str × Gk)) (ec : Ecs) (ca fa : Nat → Addr) : Prop where
  df : ∀ i D, tab[i]? = some D → D.Ok fn gl ec ∧ mg D.x = some (.ref (fa i)) ∧ ∃ fd, FunD K D.x D.x D.params D.body D.scope [] [] (fa i) fd
  fn : ∀ x f, fn.lookup x = some f → ∃ D, tab[f]? = some D ∧ D.x = x
  blt : ∀ x ∈ bnames, mg x = none
  gls : ∀ x g, gl.lookup x = some g → GlOk K (mg x) g
  exs : ∀ x c, ec.lookup x = some c → c < ec.length ∧ mg x = some (.ref (ca c)) ∧ PySem.W.excIn K (ca c) [.type "ValueError", .type "Exception", .type "BaseException", .type "object"] "ValueError.__new__" = true ∧ PySem.W.keepIn K (.ref (ca c)) = true ∧
    PySem.W.subIn K (.ref (ca c)) (.type "BaseException") = some true ∧ PySem.W.typeIn K (.ref (ca c)) = some (.type "type")
  exf : ExF K ec.length ca
theorem setP_zip : ∀ {xs : List PV} {pre : List (Option PV)} {m : Nat}, xs.length ≤ m → setP (pre ++ List.replicate m none) ((List.range' pre.length xs.length).zip xs) = pre ++ (xs.map some ++ List.replicate (m - xs.length) none)
  | [], pre, m, _ => by simp [setP]
  | x :: xs, pre, m, h => by
    obtain ⟨m, rfl⟩ : ∃ k, m = k + 1 := ⟨m - 1, by simp at h; omega⟩
    have q := setP_zip (xs := xs) (pre := pre ++ [some x]) (m := m) (by simpa using h)
    have e : (pre ++ List.replicate (m + 1) none).set pre.length (some x) = (pre ++ [some x]) ++ List.replicate m none := by
      rw [List.replicate_succ, List.set_append_right _ _ (Nat.le_refl _), Nat.sub_self, List.append_assoc]
      rfl
    rw [List.length_cons, List.range'_succ, List.zip_cons_cons]
    show setP ((pre ++ List.replicate (m + 1) none).set pre.length (some x)) ((List.range' (pre.length + 1) xs.length).zip xs) = _
    rw [e]
    rw [List.length_append] at q
    refine q.trans ?_
    simp
theorem setV_zip : ∀ {xs : List V} {pre : L2.St} {m : Nat}, xs.length ≤ m → setV (pre ++ List.replicate m none) ((List.range' pre.length xs.length).zip xs) = pre ++ (xs.map some ++ List.replicate (m - xs.length) none)
  | [], pre, m, _ => by simp [setV]
  | x :: xs, pre, m, h => by
    obtain ⟨m, rfl⟩ : ∃ k, m = k + 1 := ⟨m - 1, by simp at h; omega⟩
    have q := setV_zip (xs := xs) (pre := pre ++ [some x]) (m := m) (by simpa using h)
    have e : (pre ++ List.replicate (m + 1) none).set pre.length (some x) = (pre ++ [some x]) ++ List.replicate m none := by
      rw [List.replicate_succ, List.set_append_right _ _ (Nat.le_refl _), Nat.sub_self, List.append_assoc]
      rfl
    rw [List.length_cons, List.range'_succ, List.zip_cons_cons]
    show setV ((pre ++ List.replicate (m + 1) none).set pre.length (some x)) ((List.range' (pre.length + 1) xs.length).zip xs) = _
    rw [e]
    rw [List.length_append] at q
    refine q.trans ?_
    simp
/-- at a def's begin: what was handed on is its own -/
theorem start_sr {K : PySem.W.Frag} {ok : Addr → Prop} {xs : List PV} {vs : List V} {fp : List Addr} {H : Hp} {N : List Str} {k : Nat} (f : Fre ok H) (o : ∀ a ∈ fp, ok a) (r : Rps K H (okn ok fp) xs vs fp) (nd : fp.Nodup) (hk : N.length - vs.length = k) (hl : vs.length ≤ N.length) :
    ∃ fps, SR K ok (xs.map some ++ List.replicate k none) fps (L2.start N vs) H ∧ ∀ i a, a ∈ fps i → a ∈ fp := by
  subst hk
  have S0 : SR K (okn ok fp) (List.replicate N.length none) (fun _ => []) (List.replicate N.length none) H := by
    refine ⟨by simp, fun i pv e => ?_, fun _ => .nil, fun _ _ _ z => (nomatch z), fun _ _ z => (nomatch z), fun a z => ⟨f a z, fun q => ?_⟩⟩
    · rw [List.getElem?_replicate] at e
      split at e <;> cases e
    · obtain ⟨u, hu, _⟩ := r.dom a q
      rw [z] at hu
      cases hu
  obtain ⟨fps, S, own⟩ := SR.sets (t := List.range' 0 xs.length) (xs := xs) S0 (r.imp fun a z => ⟨⟨z.1, fun _ q => nomatch q⟩, z.2⟩) nd (fun a z => ⟨o a z, fun _ q => nomatch q⟩) (by simp)
  have e1 := setP_zip (xs := xs) (pre := []) (m := N.length) (by rw [r.len]; exact hl)
  have e2 := setV_zip (xs := vs) (pre := []) (m := N.length) hl
  simp only [List.nil_append, List.length_nil] at e1 e2
  rw [r.len] at e1
  rw [r.len] at S
  rw [e1, e2] at S
  exact ⟨fps, S, fun i a z => (own i a z).elim (fun ⟨_, q⟩ => nomatch q) id⟩
theorem callF_len {tab : List Df} {w n i : Nat} {xs : List PV} {D : Df} (e : tab[i]? = some D) (np : D.d.np = D.ps.length) (h : callF (tabT tab) w n i xs ≠ .bad) : xs.length = D.ps.length := by
  cases n with
  | zero => exact absurd rfl h
  | succ n =>
    have e2 : callF (tabT tab) w (n + 1) i xs = runB (callF (tabT tab) w n) w D.d xs := by
      show (match (tab[i]?).map (·.d) with | some d => runB (callF (tabT tab) w n) w d xs | none => .bad) = _
      rw [e]
      rfl
    rw [e2] at h
    unfold runB at h
    by_cases hl : xs.length = D.d.np
    · rw [hl, np]
    · rw [if_neg hl] at h
      exact absurd rfl h
theorem tab_ok {P : Program} {wd : World} {K : PySem.W.Frag} {mg : Str → Option Value} {base : Heap} {tab : List Df} {fn : List (Str × Nat)} {gl : List (Str × Gk)} {ec : Ecs} {ca fa : Nat → Addr} {w : Nat} (T : Env1 K mg tab fn gl ec ca fa) :
    ∀ n i D fd, tab[i]? = some D → FunD K D.x D.x D.params D.body D.scope [] [] (fa i) fd → FnOk P wd K mg base (L2.CX P wd) n (fa i) fd D.ps (spF K ca (callF (tabT tab) w n) D.ps.length i)
  | 0, i, D, fd, e, F => ⟨fun _ _ _ _ h => h.1, fun A outer s H args us vs Q E _ _ _ _ ⟨_, ok, xs, fp, _, _, _, _, h⟩ => False.elim h⟩
  | n + 1, i, D, fd, e, F => by
    obtain ⟨O, m1, _⟩ := T.df i D e
    refine F.ok O.S (fun _ _ _ _ h => h.1) fun cdv A outer s H vs Q E hr hsp => ?_
    obtain ⟨hl, ok, xs, fp0, fr, hok, r, nd0, hm⟩ := hsp
    have e2 : callF (tabT tab) w (n + 1) i xs = runB (callF (tabT tab) w n) w D.d xs := by
      show (match (tab[i]?).map (·.d) with | some d => runB (callF (tabT tab) w n) w d xs | none => .bad) = _
      rw [e]
      rfl
    rw [e2] at hm
    have hxl : xs.length = D.d.np := by rw [r.len, hl, O.np]
    unfold runB at hm
    rw [if_pos hxl] at hm
    let W : WX := fun cls d _ H => E cls d H
    have tk : L2.Takes (cxOf (L2.CX P wd) P wd K mg base D.N D.x D.scope (fa i) cdv A outer s H E) W := takes_of rfl rfl rfl rfl
    have C : Sok (cxOf (L2.CX P wd) P wd K mg base D.N D.x D.scope (fa i) cdv A outer s H E) W ⟨D.N, D.scope, fn, gl⟩ (callF (tabT tab) w n) n ca fa ec :=
      { calm := rfl
        nd := O.S.nd
        N := rfl
        sc := rfl
        room := hr
        pass := fun σ => passAt tk σ
        blt := T.blt
        gls := T.gls
        fns := fun x f hf => by
          obtain ⟨D', e', hx⟩ := T.fn x f hf
          obtain ⟨O', m', fd', F'⟩ := T.df f D' e'
          rw [hx] at m'
          refine ⟨m', F'.kp, fd', D'.ps, tab_ok T n f D' fd' e' F', F'.bindsN fun kV doc pm an cdv ct us hl => O'.bn kV doc pm an cdv ct us hl, fun xs h => callF_len e' O'.np h⟩
        own := passes_of rfl
        takes := tk
        fnx := fun _ => rfl
        kind := O.S.kind
        stk := rfl
        frm := rfl
        exs := T.exs
        exf := T.exf }
    obtain ⟨fps0, S0, own0⟩ := start_sr (N := D.N) (k := D.d.ns - D.d.np) fr hok r nd0 (by rw [O.ns, O.np, hl]) (by
      have := congrArg List.length O.S.pre
      rw [List.length_take] at this
      omega)
    refine ⟨tSs K ca (callF (tabT tab) w n) w W D.d.body, sSs D.d.body C D.body O.ck, ok, _, fps0, S0, ?_⟩
    have kp : ∀ {fps' : Fps} {H' : Hp}, Stp fps0 H fps' H' → ∀ a o, H a = some o → a ∉ fp0 → H' a = some o := fun st a o z n => st.keep a o z fun i q => n (own0 i a q)
    cases q : evSs (callF (tabT tab) w n) w (xs.map some ++ List.replicate (D.d.ns - D.d.np) none) D.d.body with
    | fl f =>
      rw [q] at hm
      cases f with
      | next env => exact fun σ' H' fps' S st => hm H' .non [] (kp st) st.dom .non (fun _ z => nomatch z) .nil
      | ret x => exact fun H' v fp fps' r n o st => hm H' v fp (kp st) st.dom r (fun a z => (o a z).elim (fun ⟨i, z⟩ => .inl (own0 i a z)) .inr) n
      | brk env => exact hm.elim
      | cont env => exact hm.elim
    | exc c env =>
      rw [q] at hm
      exact fun d σ' H' fps' S st => hm () H' (kp st)
    | bad => rw [q] at hm; exact hm.elim
end BW

/-! A law, from its table and what the little language says of it. -/
namespace BW
open PySem PySem.Spec PyProof.Rows
open L2 hiding St
theorem walk_bw {l : PySem.W.OpenLaw} {n k : Nat} {q : Program} {loose : List Str} {XP : (Str → Option Value) → Heap → Prop} {YP : World → Heap → Prop} {d : DefRec} {x : Str}
    (hn : l.most = some n) (hn2 : n ≤ sizeLine) (hdf : d.params.defaults = []) (hr : Room k callerA)
    (F : ∀ (w : World) (mg : Str → Option Value) (f : Addr) (h : Heap), YP w h → h.Ns mainGlobals mg → mg d.name = some (.ref f) →
      ∃ (K : PySem.W.Frag) (fd : FuncData) (sp : Sp), K.In h ∧ (∀ (s : Shared) (u : Value), BindsTo s fd ⟨[u], []⟩ [(x, u)]) ∧
        (∀ (H : Hp) (a : Addr) (ns : List Int), ns.length ≤ n → SqS K H a (ns.map V.int) → sp [.ref a] H (fun v _ => v = .bl true) fun _ _ _ => False) ∧
        ∀ base : Heap, K.In base → base.Ns mainGlobals mg → FnOk l.prog w K mg base (L2.CX l.prog w) k f fd [x] sp) :
    PySem.W.WalkO q loose XP YP l.row.toRowW d [] (fun f vs => PySem.call f vs) := by
  refine Att.attach_call hn hdf fun w s₀ s₁ mg mb f o pm cd doc a vs ns G Y ho hd hcd hmg hobj hints hlen hg => ?_
  obtain ⟨K, fd, sp, KX, hb, hsp, hF⟩ := F w mg f _ Y G.T.g hmg
  refine law_call KX G.T.g G.T.b G.T.builtins G.T.nolimit hg hobj hints (Nat.le_trans hlen hn2) hr hF hb (fun H hO hS => hsp H a ns hlen ?_) fun H e s' hx => ?_
  · rcases hS with (hS | hS) | hS
    · rcases hO a with z | ⟨o', xs, z⟩
      · rw [z] at hS
        cases hS
      · rw [z] at hS
        cases hS
    · exact .inl hS
    · exact .inr hS
  · obtain ⟨_, _, _, _, _, _, _, _, _, _, _, _, z⟩ := hx
    exact z
/-- the law's def at its place keeps its promise -/
theorem law_sp {K : PySem.W.Frag} {H : Hp} {ca : Nat → Addr} {tab : List Df} {w k i : Nat} {a : Addr} {ns : List Int} (hS : SqS K H a (ns.map V.int)) (P : callF (tabT tab) w k i [.scr (ns.map PV.int)] = .ok (.bl true)) :
    spF K ca (callF (tabT tab) w k) 1 i [.ref a] H (fun v _ => v = .bl true) fun _ _ _ => False := by
  refine ⟨rfl, fun _ => True, [.scr (ns.map PV.int)], [], fun _ _ => trivial, (fun _ z => nomatch z), .cons0 (.scr hS) .nil, .nil, ?_⟩
  rw [P]
  exact fun H' v fp _ _ r _ _ => by cases r; rfl
/-! ### a table's facts in a head -/
def Df.toD (D : Df) : He.DefD := ⟨(D.x, none), D.x, D.x, D.params, D.body, D.scope, [], []⟩
def faOf (tab : List Df) (ecs : List Str) : List He.Fa := tab.map (fun D => .glo D.x) ++ (bnames.map .free ++ exF ecs)
def numb : Nat → List Str → List (Str × Nat)
  | _, [] => []
  | n, x :: xs => (x, n) :: numb (n + 1) xs
theorem numb_at : ∀ {xs : List Str} {n : Nat} {x : Str} {f : Nat}, (numb n xs).lookup x = some f → n ≤ f ∧ xs[f - n]? = some x
  | [], _, _, _, h => by cases h
  | y :: xs, n, x, f, h => by
    unfold numb at h
    rw [List.lookup_cons] at h
    split at h
    · rename_i e
      cases h
      rw [Nat.sub_self]
      exact ⟨Nat.le_refl _, by rw [eq_of_beq e]; rfl⟩
    · obtain ⟨h1, h2⟩ := numb_at h
      refine ⟨by omega, ?_⟩
      have e : f - n = (f - (n + 1)) + 1 := by omega
      rw [e]
      exact h2
theorem exF_at : ∀ {xs : List Str} {i : Nat} {x : Str}, xs[i]? = some x → (exF xs)[2 * i]? = some (.glo x) ∧ (exF xs)[2 * i + 1]? = some (.exc x)
  | [], _, _, h => by simp at h
  | y :: xs, 0, x, h => by
    simp at h
    subst h
    exact ⟨rfl, rfl⟩
  | y :: xs, i + 1, x, h => by
    have q := exF_at (xs := xs) (i := i) (by simpa using h)
    have e : 2 * (i + 1) = 2 * i + 2 := by omega
    rw [e]
    exact q
theorem numb_len : ∀ {xs : List Str} {n : Nat}, (numb n xs).length = xs.length
  | [], _ => rfl
  | x :: xs, n => congrArg Nat.succ (numb_len (xs := xs) (n := n + 1))
def names (tab : List Df) : List Str := tab.map (·.x)
theorem lookup_in {α β : Type} [BEq α] [LawfulBEq α] {x : α} {g : β} : ∀ {l : List (α × β)}, l.lookup x = some g → (x, g) ∈ l
  | [], h => by cases h
  | (y, z) :: l, h => by
    rw [List.lookup_cons] at h
    split at h
    · rename_i e
      cases h
      rw [eq_of_beq e]
      exact List.mem_cons_self
    · exact List.mem_cons_of_mem _ (lookup_in h)
theorem strsB_ok : ∀ {xs : List Str} {vs : List Value}, strsB xs vs = true → (∀ x ∈ xs, PyData.strOk x = true) ∧ Vals (xs.map V.str) vs
  | [], [], _ => ⟨fun _ z => (nomatch z), .nil⟩
  | x :: xs, v :: vs, h => by
    cases v with
    | str y t =>
      have h : (decide (x = y) && (PyData.strOk x && strsB xs vs)) = true := h
      rw [Bool.and_eq_true, Bool.and_eq_true, decide_eq_true_eq] at h
      obtain ⟨rfl, h2, h3⟩ := h
      have q := strsB_ok h3
      exact ⟨fun y hy => (List.mem_cons.mp hy).elim (fun e => by rw [e]; exact h2) (q.1 y), .cons ⟨t, rfl⟩ q.2⟩
    | _ => cases h
  | [], _ :: _, h => by cases h
  | _ :: _, [], h => by cases h
theorem glKB_ok {K : PySem.W.Frag} {h : Heap} {mg : Str → Option Value} {x : Str} {g : Gk} (X : K.In h) (G : h.Ns mainGlobals mg) (c : glKB K x g = true) : GlOk K (mg x) g := by
  cases g with
  | int i => exact He.int_ok X G c
  | str z =>
    have c : (PyData.strOk z && (He.Fa.str x z).ok K) = true := c
    rw [Bool.and_eq_true] at c
    exact ⟨c.1, He.str_ok X G c.2⟩
  | txs xs =>
    unfold glKB at c
    rw [Bool.and_eq_true] at c
    obtain ⟨c1, c2⟩ := c
    split at c2
    · rename_i c its n sl e
      rw [Bool.and_eq_true, Bool.and_eq_true, decide_eq_true_eq, decide_eq_true_eq] at c2
      obtain ⟨rfl, c3, c4⟩ := c2
      obtain ⟨k1, k2⟩ := strsB_ok c4
      exact ⟨k1, He.ga K x, _, its, n, He.glo_ok X G c1, e, rfl, rfl, rfl, c3, k2⟩
    · cases c2
theorem exB_ok {K : PySem.W.Frag} {xs : List Str} (h : exB K xs = true) : ExF K xs.length (adF K xs) := by
  unfold exB at h
  rw [Bool.and_eq_true] at h
  obtain ⟨h, g⟩ := h
  have at_ := fun c (hc : c < xs.length) => List.all_eq_true.mp h c (List.mem_range.mpr hc)
  have g2 : ∀ c, c < xs.length → He.eqO (PySem.W.specialIn K (.builtin "object.__class__") "__get__") (some (some (.builtin "getset_descriptor.__get__"))) = true ∧ PySem.W.takesIn K (.builtin "object.__class__") = some true := fun c hc => by
    rw [Bool.or_eq_true, Bool.and_eq_true, decide_eq_true_eq] at g
    rcases g with g | g
    · rw [List.isEmpty_iff] at g
      rw [g] at hc
      exact absurd hc (Nat.not_lt_zero _)
    · exact g
  refine ⟨fun c x hc hx => ?_, fun c x hc hx => ?_, fun c hc => ?_, fun c hc => ?_⟩
  · have q := at_ c hc
    rw [Bool.and_eq_true] at q
    have q := List.all_eq_true.mp q.1 x (List.mem_range.mpr hx)
    rw [Bool.and_eq_true, decide_eq_true_eq, decide_eq_true_eq] at q
    exact q.1
  · have q := at_ c hc
    rw [Bool.and_eq_true] at q
    have q := List.all_eq_true.mp q.1 x (List.mem_range.mpr hx)
    rw [Bool.and_eq_true, decide_eq_true_eq, decide_eq_true_eq] at q
    exact q.2
  · have q := at_ c hc
    rw [Bool.and_eq_true, Bool.and_eq_true, decide_eq_true_eq] at q
    exact q.2.1
  · have q := at_ c hc
    rw [Bool.and_eq_true, Bool.and_eq_true, Bool.and_eq_true, Bool.and_eq_true, Bool.and_eq_true, Bool.and_eq_true, Bool.and_eq_true, decide_eq_true_eq, decide_eq_true_eq, decide_eq_true_eq] at q
    obtain ⟨_, _, q1, q2, q3, q4, q5, q6⟩ := q
    obtain ⟨q7, q8⟩ := g2 c hc
    exact ⟨He.eqO_ok q1, He.eqO_ok q2, q3, q4, He.eqO_ok q5, He.eqO_ok q7, q8, q6⟩
theorem env_of {K : PySem.W.Frag} {h : Heap} {mg : Str → Option Value} {tab : List Df} {ecs : List Str} {gl : List (Str × Gk)} (X : K.In h) (G : h.Ns mainGlobals mg) (c : He.SaysD (faOf tab ecs) (tab.map Df.toD) K) (cg : (gl.all (fun q => glKB K q.1 q.2) && exB K ecs) = true) (ok : ∀ D ∈ tab, D.Ok (numb 0 (names tab)) gl (numb 0 ecs)) :
    Env1 K mg tab (numb 0 (names tab)) gl (numb 0 ecs) (adF K ecs) (adF K (names tab)) where
  df := fun i D e => by
    have hm := List.mem_of_getElem? e
    have e2 : adF K (names tab) i = He.ga K D.x := by
      unfold adF names
      rw [List.getElem?_map, e]
      rfl
    refine ⟨ok D hm, ?_, ?_⟩
    · rw [e2]
      refine He.glo_ok X G (c.fact i (f := .glo D.x) ?_)
      unfold faOf
      rw [List.getElem?_append_left (by rw [List.length_map]; exact (List.getElem?_eq_some_iff.mp e).1), List.getElem?_map, e]
      rfl
    · rw [e2]
      exact c.def_ i (d := D.toD) (by rw [List.getElem?_map, e]; rfl)
  fn := fun x f hf => by
    obtain ⟨_, h2⟩ := numb_at hf
    unfold names at h2
    rw [Nat.sub_zero, List.getElem?_map] at h2
    cases q : tab[f]? with
    | none => rw [q] at h2; cases h2
    | some D => rw [q] at h2; cases h2; exact ⟨D, rfl, rfl⟩
  blt := fun x hx => by
    obtain ⟨i, hi, e⟩ := List.getElem_of_mem hx
    refine He.free_ok X G (c.fact (tab.length + i) (f := .free x) ?_)
    unfold faOf
    rw [List.getElem?_append_right (by rw [List.length_map]; omega), List.length_map, Nat.add_sub_cancel_left, List.getElem?_append_left (by rw [List.length_map]; exact hi), List.getElem?_map, List.getElem?_eq_getElem hi, e]
    rfl
  gls := fun x g hl => glKB_ok X G (List.all_eq_true.mp (Bool.and_eq_true_iff.mp cg).1 (x, g) (lookup_in hl))
  exf := by
    rw [numb_len]
    exact exB_ok (Bool.and_eq_true_iff.mp cg).2
  exs := fun x k hk => by
    obtain ⟨_, h2⟩ := numb_at hk
    refine ⟨?_, ?_⟩
    · rw [numb_len]
      have := (List.getElem?_eq_some_iff.mp h2).1
      omega
    rw [Nat.sub_zero] at h2
    have e2 : adF K ecs k = He.ga K x := by
      unfold adF
      rw [h2]
    obtain ⟨p1, p2⟩ := exF_at h2
    have at_ : ∀ j, (faOf tab ecs)[tab.length + (bnames.length + j)]? = (exF ecs)[j]? := fun j => by
      unfold faOf
      rw [List.getElem?_append_right (by rw [List.length_map]; omega), List.length_map, Nat.add_sub_cancel_left, List.getElem?_append_right (by rw [List.length_map]; omega), List.length_map, Nat.add_sub_cancel_left]
    rw [e2]
    exact ⟨He.glo_ok X G (c.fact _ (f := .glo x) ((at_ _).trans p1)), He.exc_ok (c.fact _ (f := .exc x) ((at_ _).trans p2))⟩
/-- the end: behind the head -/
theorem end_of {l : PySem.W.OpenLaw} {n k w i : Nat} {q : Program} {loose : List Str} {XP : (Str → Option Value) → Heap → Prop} {d : DefRec} {tab : List Df} {ecs : List Str} {gl : List (Str × Gk)} {D : Df} {m : Nat}
    (hn : l.most = some n) (hn2 : n ≤ sizeLine) (hdf : d.params.defaults = []) (hr : Room k callerA) (hi : tab[i]? = some D) (hx : D.x = d.name) (hp : D.ps = [("script" : Str)]) (ok : ∀ D ∈ tab, D.Ok (numb 0 (names tab)) gl (numb 0 ecs))
    (P : ∀ ns : List Int, ns.length ≤ n → callF (tabT tab) w k i [.scr (ns.map PV.int)] = .ok (.bl true)) :
    PySem.W.WalkO q loose XP (fun _ h => ∃ K : PySem.W.Frag, K.In h ∧ obsB (faOf tab ecs) (tab.map Df.toD) gl ecs K = (He.valD (tab.map Df.toD), true)) l.row.toRowW d [] (fun f vs => PySem.call f vs) := by
  refine walk_bw (n := n) (k := k) (x := "script") hn hn2 hdf hr fun wd mg f h Y G hmg => ?_
  obtain ⟨K, KX, c⟩ := Y
  have T := env_of KX G (congrArg (fun z : He.AlD × Bool => z.1) c) (congrArg (fun z : He.AlD × Bool => z.2) c) ok
  obtain ⟨O, m1, fd, F⟩ := T.df i D hi
  have e : f = adF K (names tab) i := by
    rw [← hx, m1] at hmg
    cases hmg
    rfl
  rw [e]
  refine ⟨K, fd, spF K (adF K ecs) (callF (tabT tab) w k) 1 i, KX, fun s v => ?_, fun H a ns hl hS => law_sp hS (P ns hl), fun base kb nb => ?_⟩
  · have b := FunD.bindsA (ps := D.ps) F (fun kV doc pm an cdv ct us hl => O.bn kV doc pm an cdv ct us hl) s [v] (by rw [hp]; rfl)
    rw [hp] at b
    exact b
  · have r := tab_ok (P := l.prog) (wd := wd) (base := base) (w := w) T k i D fd hi F
    rw [hp] at r
    exact r
end BW

/-! Lemmas for plain laws. -/
namespace BW
open PySem
/-- a loop that goes on to its end -/
theorem forL_all {t : List Nat} {b : PEnv → RS} (P : PEnv → Prop) : ∀ {xs : List PV} {env : PEnv}, P env → (∀ x ∈ xs, ∀ env, P env → ∃ env1, bindT t x env = .ok env1 ∧ ∃ env2, (b env1 = .fl (.next env2) ∨ b env1 = .fl (.cont env2)) ∧ P env2) →
    ∃ env', forL t b xs env = .fl (.next env') ∧ P env'
  | [], env, h, _ => ⟨env, rfl, h⟩
  | x :: xs, env, h, k => by
    obtain ⟨e1, h1, e2, h2, h3⟩ := k x List.mem_cons_self env h
    obtain ⟨e3, h4, h5⟩ := forL_all P (xs := xs) h3 fun y hy => k y (List.mem_cons_of_mem _ hy)
    refine ⟨e3, ?_, h5⟩
    show RS.of (bindT t x env) env _ = _
    rw [h1]
    rcases h2 with h2 | h2 <;> simp only [RS.of_ok, h2] <;> exact h4
/-- the same by place -/
theorem forL_ix {t : List Nat} {b : PEnv → RS} (P : Nat → PEnv → Prop) : ∀ {xs : List PV} {i : Nat} {env : PEnv}, P i env → (∀ j x env, xs[j]? = some x → P (i + j) env → ∃ env1, bindT t x env = .ok env1 ∧ ∃ env2, (b env1 = .fl (.next env2) ∨ b env1 = .fl (.cont env2)) ∧ P (i + j + 1) env2) →
    ∃ env', forL t b xs env = .fl (.next env') ∧ P (i + xs.length) env'
  | [], i, env, h, _ => ⟨env, rfl, h⟩
  | x :: xs, i, env, h, k => by
    obtain ⟨e1, h1, e2, h2, h3⟩ := k 0 x env rfl h
    obtain ⟨e3, h4, h5⟩ := forL_ix P (xs := xs) (i := i + 1) (env := e2) h3 fun j y env hy hp => by
      have e : i + 1 + j = i + (j + 1) := by omega
      rw [e] at hp ⊢
      exact k (j + 1) y env (by simpa using hy) hp
    refine ⟨e3, ?_, by rw [List.length_cons, ← Nat.add_assoc, Nat.add_right_comm]; exact h5⟩
    show RS.of (bindT t x env) env _ = _
    rw [h1]
    rcases h2 with h2 | h2 <;> simp only [RS.of_ok, h2] <;> exact h4
theorem frzs_ints : ∀ is : List Int, frzs (is.map PV.int) = is.map PV.int
  | [] => rfl
  | i :: is => by
    show PV.int i :: frzs (is.map PV.int) = _
    rw [frzs_ints is]
    rfl
theorem clss_ints : ∀ is : List Int, clss (is.map PV.int) = true
  | [] => rfl
  | i :: is => clss_ints is
/-! ### for simp -/
def mvS (env : PEnv) (i : Nat) : Option (Option PV) → Res (PV × PEnv)
  | some (some v) => .ok (v, env.set i none)
  | _ => .bad
@[simp] theorem mvS_some {env : PEnv} {i : Nat} {v : PV} : mvS env i (some (some v)) = .ok (v, env.set i none) := nr rfl
def goS (cl : Cl) (w : Nat) (ss : Sms) : PEnv → RS := fun env => evSs cl w env ss
def brS (cl : Cl) (w : Nat) (env : PEnv) (sa sb : Sms) : Bool → RS := fun k => if k = true then evSs cl w env sa else evSs cl w env sb
def anB (cl : Cl) (env : PEnv) (b : Ex) : PV → Res PV := fun x => (asB x).bind fun k => if k = true then evE cl env b else .ok (.bl false)
def orB (cl : Cl) (env : PEnv) (b : Ex) : PV → Res PV := fun x => (asB x).bind fun k => if k = true then .ok (.bl true) else evE cl env b
def chB (cl : Cl) (env : PEnv) (c : Ex) (co : Cop) (y : PV) : PV → Res PV := fun z => (asB z).bind fun k => if k = true then (evE cl env c).bind fun u => cmpop co (frz y) (frz u) else .ok (.bl false)
section
variable {cl : Cl} {w : Nat} {env : PEnv} {sa sb ss : Sms} {b : Ex} {k : Bool} {co : Cop} {y : PV}
@[simp] theorem goS_ap : goS cl w ss env = evSs cl w env ss := nr rfl
@[simp] theorem br_t : brS cl w env sa sb true = evSs cl w env sa := nr rfl
@[simp] theorem br_f : brS cl w env sa sb false = evSs cl w env sb := nr rfl
@[simp] theorem anB_bl : anB cl env b (.bl k) = if k = true then evE cl env b else .ok (.bl false) := nr rfl
@[simp] theorem orB_bl : orB cl env b (.bl k) = if k = true then .ok (.bl true) else evE cl env b := nr rfl
@[simp] theorem chB_bl : chB cl env b co y (.bl k) = if k = true then (evE cl env b).bind fun u => cmpop co (frz y) (frz u) else .ok (.bl false) := nr rfl
end
@[simp] theorem ite_and {p : Prop} [Decidable p] {m : Bool} : (if p then Res.ok (PV.bl m) else Res.ok (PV.bl false)) = Res.ok (.bl (decide p && m)) := by
  by_cases h : p <;> simp [h]
@[simp] theorem ite_or {p : Prop} [Decidable p] {m : Bool} : (if p then Res.ok (PV.bl true) else Res.ok (PV.bl m)) = Res.ok (.bl (decide p || m)) := by
  by_cases h : p <;> simp [h]
@[simp] theorem asB_bl {b : Bool} : asB (.bl b) = .ok b := nr rfl
@[simp] theorem peq_int {i j : Int} : peq (.int i) (.int j) = decide (i = j) := nr rfl
@[simp] theorem eqok_int {i j : Int} : eqok (.int i) (.int j) = true := nr rfl
@[simp] theorem peq_bl {i j : Bool} : peq (.bl i) (.bl j) = decide (i = j) := by cases i <;> cases j <;> rfl
@[simp] theorem eqok_bl {i j : Bool} : eqok (.bl i) (.bl j) = true := nr rfl
@[simp] theorem getE_0 {v : PV} {env : PEnv} : getE (some v :: env) 0 = .ok (frz v) := nr rfl
@[simp] theorem getE_S {o : Option PV} {env : PEnv} {n : Nat} : getE (o :: env) (n + 1) = getE env n := nr rfl
@[simp] theorem frz_int {i : Int} : frz (.int i) = .int i := nr rfl
@[simp] theorem frz_bl {i : Bool} : frz (.bl i) = .bl i := nr rfl
@[simp] theorem frz_str {i : Str} : frz (.str i) = .str i := nr rfl
@[simp] theorem frz_non : frz .non = .non := nr rfl
@[simp] theorem frz_ftp {xs : List PV} : frz (.ftp xs) = .ftp (frzs xs) := nr rfl
@[simp] theorem frz_scr {xs : List PV} : frz (.scr xs) = .scr xs := nr rfl
@[simp] theorem frz_lst {o : Bool} {xs : List PV} : frz (.lst o xs) = .lst false (frzs xs) := nr rfl
@[simp] theorem frz_tup {xs : List PV} : frz (.tup xs) = .tup (frzs xs) := nr rfl
@[simp] theorem frzs_nil : frzs [] = [] := nr rfl
@[simp] theorem frzs_cons {x : PV} {xs : List PV} : frzs (x :: xs) = frz x :: frzs xs := nr rfl
@[simp] theorem frzs_ints' (is : List Int) : frzs (is.map PV.int) = is.map PV.int := frzs_ints is
@[simp] theorem frzs_frzs' (xs : List PV) : frzs (frzs xs) = frzs xs := frzs_frzs xs
@[simp] theorem frz_frz' (x : PV) : frz (frz x) = frz x := frz_frz x
@[simp] theorem clss_ints' (is : List Int) : clss (is.map PV.int) = true := clss_ints is
@[simp] theorem bindT1 {i : Nat} {v : PV} {env : PEnv} : bindT [i] v env = .ok (env.set i (some v)) := nr rfl
theorem toDs_ints : ∀ is : List Int, toDs (is.map PV.int) = is.map PyData.int
  | [] => rfl
  | i :: is => by
    show PyData.int i :: toDs (is.map PV.int) = _
    rw [toDs_ints is]
    rfl
theorem okDs_ints {n : Nat} : ∀ is : List Int, okDs n (is.map PV.int) = true
  | [] => rfl
  | i :: is => by
    cases n <;> exact okDs_ints is
/-- is it the empty list -/
@[simp] theorem peq_nil {is : List Int} {o o' : Bool} : peq (.lst o (is.map PV.int)) (.lst o' []) = decide (is = []) := by
  cases is <;> rfl
@[simp] theorem eqok_nil {is : List Int} {o o' : Bool} : eqok (.lst o (is.map PV.int)) (.lst o' []) = true := by
  show (okDs 63 (is.map PV.int) && true) = true
  rw [okDs_ints]
  rfl
theorem cutP_map {α β : Type} {f : α → β} {xs : List α} {lo hi : Option Int} : cutP (xs.map f) lo hi = (cutP xs lo hi).map f := by
  unfold cutP
  rw [List.length_map, List.map_take, List.map_drop]
/-! ### the evaluator's rows, for simp -/
/-- the turns over a dict's keys -/
def forK (cl : Cl) (w : Nat) (sa : Sms) (t : List Nat) (env : PEnv) (i : Nat) (ks : List PV) : RS := forL t (fun env => evSs cl w env sa) ks (frzV [i] env)
@[simp] theorem forD_none {a : RS} {f : Nat → List PV → RS} : forD none a f = a := nr rfl
@[simp] theorem forD_some {a : RS} {f : Nat → List PV → RS} {i : Nat} {ks : List PV} : forD (some (i, ks)) a f = noXS (f i ks) := nr rfl
@[simp] theorem noXS_fl {f : Fl} : noXS (.fl f) = .fl f := nr rfl
@[simp] theorem dkeys_var {env : PEnv} {i : Nat} : dkeys env (.ex (.var i)) = dkV i env[i]? := nr rfl
@[simp] theorem dkeys_rng {env : PEnv} {es : Exs} : dkeys env (.rng es) = none := nr rfl
@[simp] theorem dkeys_rev {env : PEnv} {e : Ex} : dkeys env (.rev e) = none := nr rfl
@[simp] theorem dkeys_revr {env : PEnv} {es : Exs} : dkeys env (.revr es) = none := nr rfl
@[simp] theorem dkeys_zip {env : PEnv} {es : Exs} : dkeys env (.zip es) = none := nr rfl
@[simp] theorem dkeys_call {env : PEnv} {f : Nat} {es : Exs} : dkeys env (.ex (.call f es)) = none := nr rfl
@[simp] theorem dkeys_bi {env : PEnv} {b : Bi} {es : Exs} : dkeys env (.ex (.bi b es)) = none := nr rfl
@[simp] theorem dkeys_slc {env : PEnv} {a : Ex} {l h : Exo} : dkeys env (.ex (.slc a l h)) = none := nr rfl
@[simp] theorem dkeys_bin {env : PEnv} {o : Bop} {a b : Ex} : dkeys env (.ex (.bin o a b)) = none := nr rfl
@[simp] theorem dkeys_lst {env : PEnv} {es : Exs} : dkeys env (.ex (.lst es)) = none := nr rfl
@[simp] theorem dkeys_idx {env : PEnv} {a b : Ex} : dkeys env (.ex (.idx a b)) = none := nr rfl
@[simp] theorem dkeys_lc {env : PEnv} {t o : List Nat} {it : Iw} {c : Exo} {e : Ex} : dkeys env (.ex (.lc t o it c e)) = none := nr rfl
@[simp] theorem dkeys_sset {env : PEnv} {e : Ex} : dkeys env (.ex (.sset e)) = none := nr rfl
@[simp] theorem dkV_lst {i : Nat} {o : Bool} {xs : List PV} : dkV i (some (some (.lst o xs))) = none := nr rfl
@[simp] theorem dkV_tup {i : Nat} {xs : List PV} : dkV i (some (some (.tup xs))) = none := nr rfl
@[simp] theorem dkV_ftp {i : Nat} {xs : List PV} : dkV i (some (some (.ftp xs))) = none := nr rfl
@[simp] theorem dkV_scr {i : Nat} {xs : List PV} : dkV i (some (some (.scr xs))) = none := nr rfl
@[simp] theorem dkV_str {i : Nat} {x : Str} : dkV i (some (some (.str x))) = none := nr rfl
@[simp] theorem dkV_dct {i : Nat} {o : Bool} {ks : List DKey} {xs : List PV} : dkV i (some (some (.dct o ks xs))) = some (i, ks.map keyP) := nr rfl

section
variable {cl : Cl} {w : Nat} {env : PEnv} {i : Nat} {a b c : Ex} {es : Exs} {op op' : Bop} {co co' : Cop} {m : Me} {ms : Mes} {s : Sm} {ss sa sb : Sms} {t : List Nat} {it : Iw} {lo hi cc : Exo}
@[simp] theorem vI_ex : vI (.ex a) = vE a := nr rfl
@[simp] theorem vI_rng : vI (.rng es) = vEs es := nr rfl
@[simp] theorem vI_rev : vI (.rev a) = vE a := nr rfl
@[simp] theorem vE_var : vE (.var i) = [i] := nr rfl
@[simp] theorem vEs_nil : vEs .nil = [] := nr rfl
@[simp] theorem vEs_cons : vEs (.cons a es) = vE a ++ vEs es := nr rfl
@[simp] theorem evE_var : evE cl env (.var i) = getE env i := nr rfl
@[simp] theorem evE_non : evE cl env .non = .ok .non := nr rfl
@[simp] theorem evE_bl {k : Bool} : evE cl env (.bl k) = .ok (.bl k) := nr rfl
@[simp] theorem evE_int {k : Int} : evE cl env (.int k) = .ok (.int k) := nr rfl
@[simp] theorem evE_str {k : Str} : evE cl env (.str k) = .ok (.str k) := nr rfl
@[simp] theorem evE_bin : evE cl env (.bin op a b) = (evE cl env a).bind fun x => (evE cl env b).bind fun y => binop op (frz x) (frz y) := nr rfl
@[simp] theorem evE_neg : evE cl env (.neg a) = (evE cl env a).bind fun x => match x with
  | .int i => .ok (.int (-i))
  | _ => .bad := nr rfl
@[simp] theorem evE_not : evE cl env (.not a) = (evE cl env a).bind fun x => (asB x).bind fun b => .ok (.bl (!b)) := nr rfl
@[simp] theorem evE_and : evE cl env (.and a b) = (evE cl env a).bind (anB cl env b) := nr rfl
@[simp] theorem evE_or : evE cl env (.or a b) = (evE cl env a).bind (orB cl env b) := nr rfl
@[simp] theorem evE_cmp : evE cl env (.cmp co a b) = (evE cl env a).bind fun x => (evE cl env b).bind fun y => cmpop co (frz x) (frz y) := nr rfl
@[simp] theorem evE_chn : evE cl env (.chn co co' a b c) = (evE cl env a).bind fun x => (evE cl env b).bind fun y => (cmpop co (frz x) (frz y)).bind (chB cl env c co' y) := nr rfl
@[simp] theorem evE_tup : evE cl env (.tup es) = (evEs cl env es).bind fun vs => .ok (.tup vs) := nr rfl
@[simp] theorem evE_lst : evE cl env (.lst es) = (evEs cl env es).bind fun vs => .ok (.lst true vs) := nr rfl
@[simp] theorem evE_idx : evE cl env (.idx a b) = (evE cl env a).bind fun x => (evE cl env b).bind fun y => idxop (frz x) (frz y) := nr rfl
@[simp] theorem evE_slc : evE cl env (.slc a lo hi) = (evE cl env a).bind fun x => (evO cl env lo).bind fun l => (evO cl env hi).bind fun h => slcop (frz x) l h := nr rfl
@[simp] theorem evE_call : evE cl env (.call i es) = (evEs cl env es).bind fun vs => cl i (frzs vs) := nr rfl
@[simp] theorem evE_bi {k : Bi} : evE cl env (.bi k es) = (evEs cl env es).bind fun vs => biV k (frzs vs) := nr rfl
@[simp] theorem evE_lc {own : List Nat} : evE cl env (.lc t own it cc a) = (evI cl env it).bind fun hx => (noX (lcL t (fun env => evC cl env cc) (fun env => evE cl env a) (wipeE own env) hx.2 [])).bind fun ys => .ok (.lst true ys) := nr rfl
@[simp] theorem evE_con {g : Gk} : evE cl env (.con g) = .ok g.pv := nr rfl
@[simp] theorem pv_int {k : Int} : (Gk.int k).pv = .int k := nr rfl
@[simp] theorem pv_str {k : Str} : (Gk.str k).pv = .str k := nr rfl
@[simp] theorem pv_txs {k : List Str} : (Gk.txs k).pv = .tup (k.map PV.str) := nr rfl
@[simp] theorem evEs_nil : evEs cl env .nil = .ok [] := nr rfl
@[simp] theorem evEs_cons : evEs cl env (.cons a es) = (evE cl env a).bind fun x => (evEs cl env es).bind fun xs => .ok (x :: xs) := nr rfl
@[simp] theorem evO_none : evO cl env .none = .ok none := nr rfl
@[simp] theorem evO_some : evO cl env (.some a) = (evE cl env a).bind fun x => intO x := nr rfl
@[simp] theorem evC_none : evC cl env .none = .ok true := nr rfl
@[simp] theorem evC_some : evC cl env (.some a) = (evE cl env a).bind fun x => asB x := nr rfl
@[simp] theorem evI_ex : evI cl env (.ex a) = (evE cl env a).bind fun x => (itemsX (frz x)).bind fun xs => .ok (x, xs) := nr rfl
@[simp] theorem evI_rng : evI cl env (.rng es) = (evEs cl env es).bind fun vs => (rngV (frzs vs)).bind fun xs => .ok (.non, xs) := nr rfl
@[simp] theorem evI_rev : evI cl env (.rev a) = (evE cl env a).bind fun x => (itemsV (frz x)).bind fun xs => .ok (x, xs.reverse) := nr rfl
@[simp] theorem evM_mv : evM cl env (.mv i) = mvS env i env[i]? := by
  unfold evM mvS
  cases env[i]? with
  | none => rfl
  | some o => cases o <;> rfl
@[simp] theorem evM_tup : evM cl env (.tup ms) = (evMs cl env ms).bind fun p => .ok (.tup p.1, p.2) := nr rfl
@[simp] theorem evM_ex : evM cl env (.ex a) = (evE cl env a).bind fun v => .ok (v, aft v (vE a) env) := nr rfl
@[simp] theorem evMs_nil : evMs cl env .nil = .ok ([], env) := nr rfl
@[simp] theorem evMs_cons : evMs cl env (.cons m ms) = (evM cl env m).bind fun p => (noXif (purM m) (evMs cl p.2 ms)).bind fun q => .ok (p.1 :: q.1, q.2) := nr rfl
@[simp] theorem evM_call {f : Nat} : evM cl env (.call f ms) = (noX (evMs cl env ms)).bind fun p => (noX (cl f p.1)).bind fun v => .ok (v, p.2) := nr rfl
@[simp] theorem evM_idx {k : Nat} : evM cl env (.idx m k) = (noX (evM cl env m)).bind fun p => (mvI k p.1).bind fun v => .ok (v, p.2) := nr rfl
@[simp] theorem evM_pop {x : Nat} : evM cl env (.pop x a) = (noX (evE cl env a)).bind fun k => popV x (frz k) env env[x]? := nr rfl
@[simp] theorem evM_cmp {m2 : Me} : evM cl env (.cmp co m m2) = (noX (evM cl env m)).bind fun p => (noX (evM cl p.2 m2)).bind fun q => (cmpop co (frz p.1) (frz q.1)).bind fun r => .ok (r, q.2) := nr rfl
@[simp] theorem evM_not : evM cl env (.not m) = (noX (evM cl env m)).bind fun p => (asB p.1).bind fun k => .ok (.bl (!k), p.2) := nr rfl
def anM (cl : Cl) (m : Me) (env : PEnv) (k : Bool) : Res (PV × PEnv) := if k = true then noX (evM cl env m) else .ok (.bl false, env)
@[simp] theorem anM_t : anM cl m env true = noX (evM cl env m) := nr rfl
@[simp] theorem anM_f : anM cl m env false = .ok (.bl false, env) := nr rfl
@[simp] theorem evM_and {m2 : Me} : evM cl env (.and m m2) = (noX (evM cl env m)).bind fun p => (asB p.1).bind (anM cl m2 p.2) := nr rfl
@[simp] theorem purM_mv : purM (.mv i) = true := nr rfl
@[simp] theorem purM_ex : purM (.ex a) = true := nr rfl
@[simp] theorem purM_tup : purM (.tup ms) = purMs ms := nr rfl
@[simp] theorem purM_call {f : Nat} : purM (.call f ms) = false := nr rfl
@[simp] theorem purM_pop {x : Nat} : purM (.pop x a) = false := nr rfl
@[simp] theorem purM_idx {k : Nat} : purM (.idx m k) = false := nr rfl
@[simp] theorem purM_cmp {m2 : Me} : purM (.cmp co m m2) = false := nr rfl
@[simp] theorem purM_not : purM (.not m) = false := nr rfl
@[simp] theorem purM_and {m2 : Me} : purM (.and m m2) = false := nr rfl
@[simp] theorem purMs_nil : purMs .nil = true := nr rfl
@[simp] theorem purMs_cons : purMs (.cons m ms) = (purM m && purMs ms) := nr rfl
@[simp] theorem noXif_t {α : Type} {r : Res α} : noXif true r = r := nr rfl
@[simp] theorem noXif_f {α : Type} {r : Res α} : noXif false r = noX r := nr rfl
@[simp] theorem evS_asgm : evS cl w env (.asgm t m) = RS.of (evM cl env m) env fun p => RS.of (bindT t p.1 p.2) p.2 fun env1 => .fl (.next env1) := nr rfl
def ifM (cl : Cl) (w : Nat) (sa sb : Sms) (p : PV × PEnv) : RS := RS.of (asB p.1) p.2 (brS cl w p.2 sa sb)
@[simp] theorem ifM_bl {k : Bool} : ifM cl w sa sb (.bl k, env) = brS cl w env sa sb k := nr rfl
@[simp] theorem evS_ifm : evS cl w env (.ifm m sa sb) = RS.of (evM cl env m) env (ifM cl w sa sb) := nr rfl
@[simp] theorem evS_asg : evS cl w env (.asg t a) = RS.of (evE cl env a) env fun v => RS.of (bindT t v (aft v (vE a) env)) env fun env1 => .fl (.next env1) := nr rfl
@[simp] theorem evS_mut {x : Nat} {k : Mu} : evS cl w env (.mut x k es) = if hasL env x = true then RS.of (evEs cl env es) env fun vs => muS x k vs (aft (.tup (kept k vs)) (vEs es) env) else .bad := nr rfl
@[simp] theorem evS_ifs : evS cl w env (.ifs a sa sb) = RS.of ((evE cl env a).bind asB) env (brS cl w env sa sb) := nr rfl
@[simp] theorem evS_whl : evS cl w env (.whl a sa) = whlL (fun env => (evE cl env a).bind asB) (fun env => evSs cl w env sa) w env := nr rfl
@[simp] theorem evS_for : evS cl w env (.for_ t it sa) = forD (dkeys env it) (RS.of (evI cl env it) env fun hx => forL t (fun env => evSs cl w env sa) hx.2 (aft hx.1 (vI it) env)) (forK cl w sa t env) := nr rfl
@[simp] theorem evS_ret : evS cl w env (.ret m) = RS.of (evM cl env m) env fun v => .fl (.ret v.1) := nr rfl
@[simp] theorem evS_ex : evS cl w env (.ex a) = RS.of (evE cl env a) env fun _ => .fl (.next env) := nr rfl
@[simp] theorem evS_brk : evS cl w env .brk = .fl (.brk env) := nr rfl
@[simp] theorem evS_cont : evS cl w env .cont = .fl (.cont env) := nr rfl
@[simp] theorem evS_pass : evS cl w env .pass = .fl (.next env) := nr rfl
@[simp] theorem evS_raise : evS cl w env (.raise i) = .exc i env := nr rfl
@[simp] theorem evSs_nil : evSs cl w env .nil = .fl (.next env) := nr rfl
@[simp] theorem evSs_cons : evSs cl w env (.cons s ss) = (evS cl w env s).seq (goS cl w ss) := nr rfl
end
section
variable {i j : Int} {a b : Bool} {xs ys : List PV} {x y : PV}
@[simp] theorem b_add : binop .add (.int i) (.int j) = .ok (.int (i + j)) := nr rfl
@[simp] theorem b_sub : binop .sub (.int i) (.int j) = .ok (.int (i - j)) := nr rfl
@[simp] theorem b_band : binop .band (.int i) (.int j) = .ok (.int (Builtin.bitAnd i j)) := nr rfl
@[simp] theorem b_bor : binop .bor (.int i) (.int j) = .ok (.int (Builtin.bitOr i j)) := nr rfl
@[simp] theorem b_bxor : binop .bxor (.int i) (.int j) = .ok (.int (Builtin.bitXor i j)) := nr rfl
theorem b_mul (h : (-(2 ^ 64) < i ∧ i < 2 ^ 64) ∨ (-(2 ^ 64) < j ∧ j < 2 ^ 64)) : binop .mul (.int i) (.int j) = .ok (.int (i * j)) := by
  show (if (decide _ || decide _) = true then _ else _) = _
  rw [if_pos (by rw [Bool.or_eq_true, decide_eq_true_eq, decide_eq_true_eq]; exact h)]
@[simp] theorem b_mulL (h : (-(2 ^ 64) < i ∧ i < 2 ^ 64)) : binop .mul (.int i) (.int j) = .ok (.int (i * j)) := b_mul (.inl h)
@[simp] theorem b_fdiv (h : 0 < j ∧ j < 2 ^ 128) : binop .fdiv (.int i) (.int j) = .ok (.int (i / j)) := by
  show (if (decide _ && decide _) = true then _ else _) = _
  rw [if_pos (by rw [Bool.and_eq_true, decide_eq_true_eq, decide_eq_true_eq]; exact h)]
@[simp] theorem b_mod (h : 0 < j) : binop .mod (.int i) (.int j) = .ok (.int (i % j)) := by
  show (if decide _ = true then _ else _) = _
  rw [if_pos (decide_eq_true h)]
@[simp] theorem b_pow (h : (0 ≤ j ∧ j ≤ 1000000) ∧ i.natAbs < 2 ^ 64) : binop .pow (.int i) (.int j) = .ok (.int (i ^ j.toNat)) := by
  show (if (decide _ && decide _) = true then _ else _) = _
  rw [if_pos (by rw [Bool.and_eq_true, decide_eq_true_eq, decide_eq_true_eq]; exact h)]
@[simp] theorem b_shl (h : (0 ≤ j ∧ j ≤ 1000000) ∧ i.natAbs < 2 ^ 64) : binop .shl (.int i) (.int j) = .ok (.int (i * 2 ^ j.toNat)) := by
  show (if (decide _ && decide _) = true then _ else _) = _
  rw [if_pos (by rw [Bool.and_eq_true, decide_eq_true_eq, decide_eq_true_eq]; exact h)]
@[simp] theorem b_shr (h : 0 ≤ j) : binop .shr (.int i) (.int j) = .ok (.int (i / 2 ^ j.toNat)) := by
  show (if decide _ = true then _ else _) = _
  rw [if_pos (decide_eq_true h)]
@[simp] theorem c_lt : cmpop .lt (.int i) (.int j) = .ok (.bl (decide (i < j))) := nr rfl
@[simp] theorem c_le : cmpop .le (.int i) (.int j) = .ok (.bl (decide (i ≤ j))) := nr rfl
@[simp] theorem c_gt : cmpop .gt (.int i) (.int j) = .ok (.bl (decide (j < i))) := nr rfl
@[simp] theorem c_ge : cmpop .ge (.int i) (.int j) = .ok (.bl (decide (j ≤ i))) := nr rfl
theorem c_eq (h : eqok x y = true) : cmpop .eq x y = .ok (.bl (peq x y)) := by
  show (if _ = true then _ else _) = _
  rw [if_pos h]
theorem c_ne (h : eqok x y = true) : cmpop .ne x y = .ok (.bl (!peq x y)) := by
  show (if _ = true then _ else _) = _
  rw [if_pos h]
@[simp] theorem c_eqI : cmpop .eq (.int i) (.int j) = .ok (.bl (decide (i = j))) := nr rfl
@[simp] theorem c_neI : cmpop .ne (.int i) (.int j) = .ok (.bl (!decide (i = j))) := nr rfl
@[simp] theorem c_eqB : cmpop .eq (.bl a) (.bl b) = .ok (.bl (decide (a = b))) := by cases a <;> cases b <;> rfl
@[simp] theorem c_neB : cmpop .ne (.bl a) (.bl b) = .ok (.bl (!decide (a = b))) := by cases a <;> cases b <;> rfl
@[simp] theorem c_eq0 {is : List Int} {o o' : Bool} : cmpop .eq (.lst o (is.map PV.int)) (.lst o' []) = .ok (.bl (decide (is = []))) := by rw [c_eq eqok_nil, peq_nil]
@[simp] theorem c_eq00 {o o' : Bool} : cmpop .eq (.lst o []) (.lst o' []) = .ok (.bl true) := nr rfl
@[simp] theorem c_isnt : cmpop .isnt (.bl a) (.bl b) = .ok (.bl (a != b)) := nr rfl
@[simp] theorem len_lst {o : Bool} : biV .len [.lst o xs] = .ok (.int xs.length) := nr rfl
@[simp] theorem len_tup : biV .len [.tup xs] = .ok (.int xs.length) := nr rfl
@[simp] theorem len_ftp {xs : List PV} : biV .len [.ftp xs] = .ok (.int xs.length) := nr rfl
@[simp] theorem len_scr : biV .len [.scr xs] = .ok (.int xs.length) := nr rfl
@[simp] theorem isI_int : biV .isInt [.int i] = .ok (.bl true) := nr rfl
@[simp] theorem isI_bl : biV .isInt [.bl a] = .ok (.bl true) := nr rfl
@[simp] theorem isB_int : biV .isBool [.int i] = .ok (.bl false) := nr rfl
@[simp] theorem isB_bl : biV .isBool [.bl a] = .ok (.bl true) := nr rfl
@[simp] theorem isL_lst {o : Bool} : biV .isList [.lst o xs] = .ok (.bl true) := nr rfl
@[simp] theorem isT_tup : biV .isTuple [.tup xs] = .ok (.bl true) := nr rfl
@[simp] theorem itemsX_lst {o : Bool} : itemsX (.lst o xs) = .ok (frzs xs) := nr rfl
@[simp] theorem itemsX_tup : itemsX (.tup xs) = .ok (frzs xs) := nr rfl
@[simp] theorem itemsX_str {z : Str} : itemsX (.str z) = .ok (signs z) := nr rfl
@[simp] theorem items_lst {o : Bool} : itemsV (.lst o xs) = .ok (frzs xs) := nr rfl
@[simp] theorem itemsX_ftp : itemsX (.ftp xs) = .ok (frzs xs) := nr rfl
@[simp] theorem items_ftp : itemsV (.ftp xs) = .ok (frzs xs) := nr rfl
@[simp] theorem items_tup : itemsV (.tup xs) = .ok (frzs xs) := nr rfl
@[simp] theorem slc_lst {o : Bool} {lo hi : Option Int} : slcop (.lst o xs) lo hi = .ok (.lst true (frzs (cutP xs lo hi))) := nr rfl
@[simp] theorem slc_ftp {xs : List PV} {lo hi : Option Int} : slcop (.ftp xs) lo hi = .ok (.tup (frzs (cutP xs lo hi))) := nr rfl
@[simp] theorem slc_scr {lo hi : Option Int} : slcop (.scr xs) lo hi = .ok (.lst true (frzs (cutP xs lo hi))) := nr rfl
@[simp] theorem intO_int : intO (.int i) = .ok (some i) := nr rfl
@[simp] theorem aft_int {is : List Nat} {env : PEnv} : aft (.int i) is env = env := nr rfl
@[simp] theorem aft_bl {is : List Nat} {env : PEnv} : aft (.bl a) is env = env := nr rfl
@[simp] theorem aft_non {is : List Nat} {env : PEnv} : aft .non is env = env := nr rfl
@[simp] theorem aft_str {k : Str} {is : List Nat} {env : PEnv} : aft (.str k) is env = env := nr rfl
@[simp] theorem cls_int : cls (.int i) = true := nr rfl
@[simp] theorem cls_bl : cls (.bl a) = true := nr rfl
@[simp] theorem cls_str {k : Str} : cls (.str k) = true := nr rfl
@[simp] theorem cls_non : cls .non = true := nr rfl
@[simp] theorem cls_ftp : cls (.ftp xs) = clss xs := nr rfl
@[simp] theorem cls_tup : cls (.tup xs) = clss xs := nr rfl
@[simp] theorem cls_lst {o : Bool} : cls (.lst o xs) = (o && clss xs) := nr rfl
@[simp] theorem clss_nil : clss [] = true := nr rfl
@[simp] theorem clss_cons : clss (x :: xs) = (cls x && clss xs) := nr rfl
@[simp] theorem aft_cls {is : List Nat} {env : PEnv} (h : cls x = true) : aft x is env = env := if_pos h
@[simp] theorem aft_lstF {is : List Nat} {env : PEnv} : aft (.lst false xs) is env = frzV is env := if_neg (by show ¬ (false && clss xs) = true; rw [Bool.false_and]; decide)
@[simp] theorem frzV_nil {env : PEnv} : frzV [] env = env := nr rfl
def fr1 (o : Option PV) : Option PV := o.map frz
@[simp] theorem fr1_some : fr1 (some x) = some (frz x) := nr rfl
@[simp] theorem fr1_none : fr1 none = none := nr rfl
def frAt : Nat → PEnv → PEnv
  | _, [] => []
  | 0, o :: env => fr1 o :: env
  | n + 1, o :: env => o :: frAt n env
@[simp] theorem frAt_0 {o : Option PV} {env : PEnv} : frAt 0 (o :: env) = fr1 o :: env := nr rfl
@[simp] theorem frAt_S {o : Option PV} {n : Nat} {env : PEnv} : frAt (n + 1) (o :: env) = o :: frAt n env := nr rfl
theorem frAt_eq : ∀ {i : Nat} {env : PEnv}, (match env[i]? with
    | some (some v) => env.set i (some (frz v))
    | _ => env) = frAt i env
  | _, [] => by cases ‹Nat› <;> rfl
  | 0, none :: env => rfl
  | 0, some x :: env => rfl
  | n + 1, o :: env => by
    have q := frAt_eq (i := n) (env := env)
    show _ = o :: frAt n env
    rw [← q, List.getElem?_cons_succ]
    cases env[n]? with
    | none => rfl
    | some u => cases u <;> rfl
@[simp] theorem frzV_cons {i : Nat} {is : List Nat} {env : PEnv} : frzV (i :: is) env = frzV is (frAt i env) := by
  show frzV is (match env[i]? with
    | some (some v) => env.set i (some (frz v))
    | _ => env) = _
  rw [frAt_eq]
@[simp] theorem aft_ints {ks : List Int} {is : List Nat} {env : PEnv} : aft (.lst true (ks.map PV.int)) is env = env := by
  unfold aft
  exact if_pos (show (true && clss (ks.map PV.int)) = true by rw [clss_ints]; rfl)
@[simp] theorem cutP_map' {α β : Type} {f : α → β} {xs : List α} {lo hi : Option Int} : cutP (xs.map f) lo hi = (cutP xs lo hi).map f := cutP_map
end
theorem small_nat {n : Nat} (h : n ≤ 1000000) : smallI (n : Int) = true := by
  have e : (2 : Int) ^ 62 = 4611686018427387904 := by decide
  have h1 : -((2 : Int) ^ 62) ≤ (n : Int) := by rw [e]; omega
  have h2 : (n : Int) < (2 : Int) ^ 62 := by rw [e]; omega
  exact decide_eq_true ⟨h1, h2⟩
theorem rng1 {n : Nat} (h : n ≤ 1000000) : rngV [.int (n : Int)] = .ok (rngI 0 (n : Int)) := by
  simp only [rngV]
  rw [if_pos (small_nat h)]
/-- over a range -/
theorem forL_rng {t : List Nat} {b : PEnv → RS} (P : Nat → PEnv → Prop) {n : Nat} {env : PEnv} (h0 : P 0 env) (k : ∀ i, i < n → ∀ env, P i env → ∃ env1, bindT t (.int (i : Int)) env = .ok env1 ∧ ∃ env2, (b env1 = .fl (.next env2) ∨ b env1 = .fl (.cont env2)) ∧ P (i + 1) env2) :
    ∃ env', forL t b (rngI 0 (n : Int)) env = .fl (.next env') ∧ P n env' := by
  obtain ⟨env', h1, h2⟩ := forL_ix (t := t) (b := b) P (xs := rngI 0 (n : Int)) (i := 0) h0 fun j x env hx hp => by
    have hl : (rngI 0 (n : Int)).length = n := by
      rw [rngI_len]
      omega
    have hj : j < n := by
      have := (List.getElem?_eq_some_iff.mp hx).1
      omega
    rw [rngI_at 0 (n : Int) (by omega)] at hx
    cases hx
    rw [Nat.zero_add] at hp ⊢
    have e : (0 : Int) + (j : Int) = (j : Int) := by omega
    rw [e]
    exact k j hj env hp
  refine ⟨env', h1, ?_⟩
  rw [rngI_len] at h2
  have e : 0 + ((n : Int) - 0).toNat = n := by omega
  rw [e] at h2
  exact h2
def appS (x : Nat) (v : PV) (env : PEnv) : Option (Option PV) → RS
  | some (some (.lst true xs)) => if xs.length < most then .fl (.next (env.set x (some (.lst true (xs ++ [v]))))) else .bad
  | _ => .bad
@[simp] theorem appS_lst {x : Nat} {v : PV} {env : PEnv} {xs : List PV} : appS x v env (some (some (.lst true xs))) = if xs.length < most then .fl (.next (env.set x (some (.lst true (xs ++ [v]))))) else .bad := nr rfl
@[simp] theorem muS_app {x : Nat} {v : PV} {env : PEnv} : muS x .append [v] env = appS x v env env[x]? := by
  unfold muS appS
  split
  · rename_i xs e
    show (match (if xs.length < most then some (xs ++ [v]) else none) with
      | some ys => RS.fl (.next (env.set x (some (.lst true ys))))
      | none => .bad) = _
    by_cases h : xs.length < most
    · rw [if_pos h]
      simp [h, e]
    · rw [if_neg h]
      simp [h, e]
  · rename_i h
    first
    | rfl
    | (split
       · rename_i xs e
         exact absurd e (h xs)
       · rfl)
theorem eqvAll_ints : ∀ as bs : List Int, PyData.eqvAll (as.map PyData.int) (bs.map PyData.int) = decide (as = bs)
  | [], [] => rfl
  | [], _ :: _ => rfl
  | _ :: _, [] => rfl
  | a :: as, b :: bs => by
    show ((a == b) && PyData.eqvAll (as.map PyData.int) (bs.map PyData.int)) = _
    rw [eqvAll_ints as bs, Bool.eq_iff_iff]
    simp
theorem peq_ints {o o' : Bool} {as bs : List Int} : peq (.lst o (as.map PV.int)) (.lst o' (bs.map PV.int)) = decide (as = bs) := by
  show PyData.eqvAll (toDs (as.map PV.int)) (toDs (bs.map PV.int)) = _
  rw [toDs_ints, toDs_ints, eqvAll_ints]
theorem eqok_ints {o o' : Bool} {as bs : List Int} : eqok (.lst o (as.map PV.int)) (.lst o' (bs.map PV.int)) = true := by
  show (okDs 63 (as.map PV.int) && okDs 63 (bs.map PV.int)) = true
  rw [okDs_ints, okDs_ints]
  rfl
@[simp] theorem c_eqL {o o' : Bool} {as bs : List Int} : cmpop .eq (.lst o (as.map PV.int)) (.lst o' (bs.map PV.int)) = .ok (.bl (decide (as = bs))) := by rw [c_eq eqok_ints, peq_ints]
@[simp] theorem c_neL {o o' : Bool} {as bs : List Int} : cmpop .ne (.lst o (as.map PV.int)) (.lst o' (bs.map PV.int)) = .ok (.bl (!decide (as = bs))) := by rw [c_ne eqok_ints, peq_ints]
@[simp] theorem list_lst {o : Bool} {xs : List PV} : biV .list [.lst o xs] = .ok (.lst true (frzs xs)) := nr rfl
/-- a comprehension without a test -/
theorem lcL_map {t : List Nat} {e : PEnv → Res PV} {env : PEnv} {g : PV → PV} : ∀ {xs acc : List PV}, (∀ x ∈ xs, ∃ env1, bindT t x env = .ok env1 ∧ e env1 = .ok (g x)) → acc.length + xs.length ≤ most → lcL t (fun _ => .ok true) e env xs acc = .ok (acc ++ xs.map g)
  | [], acc, _, _ => by
    rw [List.map_nil, List.append_nil]
    rfl
  | x :: xs, acc, h, hl => by
    obtain ⟨env1, h1, h2⟩ := h x List.mem_cons_self
    rw [List.length_cons] at hl
    unfold lcL
    rw [h1, Res.bind_ok, Res.bind_ok, if_pos rfl, h2, Res.bind_ok, if_pos (by omega), lcL_map (fun y hy => h y (List.mem_cons_of_mem _ hy)) (by rw [List.length_append, List.length_singleton]; omega), List.append_assoc]
    rfl
@[simp] theorem noX_okS {α : Type} {a : α} : noX (Res.ok a) = .ok a := nr rfl
@[simp] theorem wipeE_nil {env : PEnv} : wipeE [] env = env := nr rfl
@[simp] theorem wipeE_cons {i : Nat} {is : List Nat} {env : PEnv} : wipeE (i :: is) env = wipeE is (env.set i none) := nr rfl
theorem cut_len {α : Type} {xs : List α} {lo hi : Option Int} : (cutP xs lo hi).length ≤ xs.length := by
  unfold cutP
  rw [List.length_take, List.length_drop]
  omega
/-- a comprehension over whole numbers -/
theorem lcL_ints {i : Nat} {e : PEnv → Res PV} {env : PEnv} {g : Int → Int} {xs : List Int} (h : ∀ x ∈ xs, e (env.set i (some (.int x))) = .ok (.int (g x))) (hl : xs.length ≤ most) : lcL [i] (fun _ => .ok true) e env (xs.map PV.int) [] = .ok ((xs.map g).map PV.int) := by
  rw [lcL_map (g := fun v => match v with | .int x => .int (g x) | v => v) (fun v hv => by
    obtain ⟨x, hx, rfl⟩ := List.mem_map.mp hv
    exact ⟨_, bindT1, h x hx⟩) (by rw [List.length_map]; simpa using hl)]
  rw [List.nil_append, List.map_map, List.map_map]
  rfl
@[simp] theorem flat_str {x : Str} : flat (.str x) = true := nr rfl
@[simp] theorem flat_int {x : Int} : flat (.int x) = true := nr rfl
@[simp] theorem fin_nil {x : PV} : fin x [] = false := nr rfl
@[simp] theorem fin_cons {x y : PV} {ys : List PV} : fin x (y :: ys) = (feq y x || fin x ys) := nr rfl
@[simp] theorem feq_str {x y : Str} : feq (.str x) (.str y) = decide (x = y) := nr (by
  show (x == y) = _
  rw [Bool.eq_iff_iff]
  simp)
@[simp] theorem feq_int {x y : Int} : feq (.int x) (.int y) = decide (x = y) := nr (by
  show (x == y) = _
  rw [Bool.eq_iff_iff]
  simp)
@[simp] theorem feq_si {x : Str} {y : Int} : feq (.str x) (.int y) = false := nr rfl
@[simp] theorem feq_is {x : Str} {y : Int} : feq (.int y) (.str x) = false := nr rfl
@[simp] theorem c_inT {x : PV} {ys : List PV} (h : (flat x && ys.all flat) = true) : cmpop .isin x (.tup ys) = .ok (.bl (fin x ys)) := nr (by
  show (if _ = true then _ else _) = _
  rw [if_pos h]
  rfl)
@[simp] theorem c_ninT {x : PV} {ys : List PV} (h : (flat x && ys.all flat) = true) : cmpop .notin x (.tup ys) = .ok (.bl (!fin x ys)) := nr (by
  show (if _ = true then _ else _) = _
  rw [if_pos h]
  rfl)
theorem peqS {x y : Str} : peq (.str x) (.str y) = decide (x = y) := by
  show (x == y) = _
  rw [Bool.eq_iff_iff]
  simp
@[simp] theorem c_eqS {x y : Str} : cmpop .eq (.str x) (.str y) = .ok (.bl (decide (x = y))) := by rw [c_eq rfl, peqS]
@[simp] theorem c_neS {x y : Str} : cmpop .ne (.str x) (.str y) = .ok (.bl (!decide (x = y))) := by rw [c_ne rfl, peqS]
@[simp] theorem ofS_inj {a b : String} : Str.ofString a = Str.ofString b ↔ a = b := by
  constructor
  · intro h
    rw [Str.ofString_eq_toList, Str.ofString_eq_toList] at h
    have e : (a.toList.map Char.toNat) = (b.toList.map Char.toNat) := by
      have e := congrArg (fun z : Str => z.cps.toList) h
      simpa using e
    have inj : ∀ xs ys : List Char, xs.map Char.toNat = ys.map Char.toNat → xs = ys := fun xs => by
      induction xs with
      | nil => intro ys h; cases ys <;> first | rfl | cases h
      | cons x xs ih =>
        intro ys h
        cases ys with
        | nil => cases h
        | cons y ys =>
          simp only [List.map_cons, List.cons.injEq] at h
          have e1 : x = y := Char.ext (UInt32.toNat.inj h.1)
          rw [e1, ih ys h.2]
    exact String.ext (inj _ _ e)
  · exact fun h => by rw [h]
theorem cut_from {α : Type} {xs : List α} {k : Nat} (h : k ≤ xs.length) : cutP xs (some (k : Int)) none = xs.drop k := by
  unfold cutP
  rw [HT.sIx_nat, HT.sIx_none, Nat.min_eq_left h]
  exact List.take_of_length_le (by rw [List.length_drop]; omega)
theorem cut_to {α : Type} {xs : List α} {k : Nat} (h : k ≤ xs.length) : cutP xs none (some (k : Int)) = xs.take k := by
  unfold cutP
  rw [HT.sIx_nat, HT.sIx_none, Nat.min_eq_left h, Nat.sub_zero, List.drop_zero]
theorem b_addL {o o' : Bool} {xs ys : List PV} (h : xs.length + ys.length ≤ most) : binop .add (.lst o xs) (.lst o' ys) = .ok (.lst true (frzs xs ++ frzs ys)) := by
  have e : (decide (Bop.add = Bop.add) && decide (xs.length + ys.length ≤ most)) = true := by
    rw [decide_eq_true h]
    rfl
  exact if_pos e
theorem b_addT {xs ys : List PV} (h : xs.length + ys.length ≤ most) : binop .add (.tup xs) (.tup ys) = .ok (.tup (frzs xs ++ frzs ys)) := by
  have e : (decide (Bop.add = Bop.add) && decide (xs.length + ys.length ≤ most)) = true := by
    rw [decide_eq_true h]
    rfl
  exact if_pos e
theorem at_map {α : Type} {f : α → PV} {xs : List α} {i : Int} (h0 : 0 ≤ i) (h : i < xs.length) : ∃ x ∈ xs, L2.atI (xs.map f) i = some (f x) := by
  obtain ⟨j, rfl⟩ := Int.eq_ofNat_of_zero_le h0
  have hj : j < xs.length := by omega
  exact ⟨xs[j], List.getElem_mem hj, L2.atI_nat (by rw [List.getElem?_map, List.getElem?_eq_getElem hj]; rfl)⟩
@[simp] theorem max_int {i j : Int} : biV .max [.int i, .int j] = .ok (.int (if j > i then j else i)) := nr rfl
@[simp] theorem min_int {i j : Int} : biV .min [.int i, .int j] = .ok (.int (if j < i then j else i)) := nr rfl
@[simp] theorem ftup_lst {o : Bool} {xs : List PV} : biV .ftup [.lst o xs] = .ok (.ftp (frzs xs)) := nr rfl
@[simp] theorem tup_lst {o : Bool} {xs : List PV} : biV .tuple [.lst o xs] = .ok (.tup (frzs xs)) := nr rfl
theorem ix_at {o : Bool} {xs : List PV} {i : Int} {v : PV} (h : L2.atI xs i = some v) : idxop (.lst o xs) (.int i) = .ok (frz v) := by
  show (match L2.atI xs i with | some v => Res.ok (frz v) | none => .bad) = _
  rw [h]
theorem ix_atT {xs : List PV} {i : Int} {v : PV} (h : L2.atI xs i = some v) : idxop (.tup xs) (.int i) = .ok (frz v) := by
  show (match L2.atI xs i with | some v => Res.ok (frz v) | none => .bad) = _
  rw [h]
@[simp] theorem ixT0 {x : PV} {xs : List PV} : idxop (.tup (x :: xs)) (.int 0) = .ok (frz x) := ix_atT (L2.atI_nat (xs := x :: xs) (j := 0) rfl)
@[simp] theorem ixT1 {x y : PV} {xs : List PV} : idxop (.tup (x :: y :: xs)) (.int 1) = .ok (frz y) := ix_atT (L2.atI_nat (xs := x :: y :: xs) (j := 1) rfl)
@[simp] theorem ixT2 {x y z : PV} {xs : List PV} : idxop (.tup (x :: y :: z :: xs)) (.int 2) = .ok (frz z) := ix_atT (L2.atI_nat (xs := x :: y :: z :: xs) (j := 2) rfl)
@[simp] theorem ixT3 {x y z u : PV} {xs : List PV} : idxop (.tup (x :: y :: z :: u :: xs)) (.int 3) = .ok (frz u) := ix_atT (L2.atI_nat (xs := x :: y :: z :: u :: xs) (j := 3) rfl)
@[simp] theorem ixL0 {o : Bool} {x : PV} {xs : List PV} : idxop (.lst o (x :: xs)) (.int 0) = .ok (frz x) := ix_at (L2.atI_nat (xs := x :: xs) (j := 0) rfl)
@[simp] theorem ixL1 {o : Bool} {x y : PV} {xs : List PV} : idxop (.lst o (x :: y :: xs)) (.int 1) = .ok (frz y) := ix_at (L2.atI_nat (xs := x :: y :: xs) (j := 1) rfl)
@[simp] theorem frzs_append {xs ys : List PV} : frzs (xs ++ ys) = frzs xs ++ frzs ys := by
  induction xs with
  | nil => rfl
  | cons x xs ih => rw [List.cons_append, frzs_cons, ih, frzs_cons, List.cons_append]
@[simp] theorem clss_append {xs ys : List PV} : clss (xs ++ ys) = (clss xs && clss ys) := by
  induction xs with
  | nil => rfl
  | cons x xs ih => rw [List.cons_append, clss_cons, ih, clss_cons, Bool.and_assoc]
mutual
theorem okD_mono : ∀ {n m : Nat} {x : PV}, okD n x = true → n ≤ m → okD m x = true
  | n + 1, m + 1, .tup xs, h, l => okDs_mono (n := n) (xs := xs) h (by omega)
  | n + 1, m + 1, .lst _ xs, h, l => okDs_mono (n := n) (xs := xs) h (by omega)
  | n + 1, m + 1, .ftp xs, h, l => okDs_mono (n := n) (xs := xs) h (by omega)
  | 0, _, .ftp xs, h, l => by cases h
  | _ + 1, 0, .ftp xs, h, l => absurd l (by omega)
  | 0, _, .tup xs, h, l => by cases h
  | 0, _, .lst _ xs, h, l => by cases h
  | _ + 1, 0, .tup xs, h, l => absurd l (by omega)
  | _ + 1, 0, .lst _ xs, h, l => absurd l (by omega)
  | n, _, .dct _ _ _, h, _ => by cases n <;> cases h
  | n, _, .exn _, h, _ => by cases n <;> cases h
  | n, _, .scr _, h, _ => by cases n <;> cases h
  | _, m, .non, _, _ => by cases m <;> rfl
  | _, m, .bl _, _, _ => by cases m <;> rfl
  | _, m, .int _, _, _ => by cases m <;> rfl
  | _, m, .str _, _, _ => by cases m <;> rfl
theorem okDs_mono : ∀ {n m : Nat} {xs : List PV}, okDs n xs = true → n ≤ m → okDs m xs = true
  | n, m, [], h, l => by cases m <;> rfl
  | n, m, x :: xs, h, l => by
    have h : (okD n x && okDs n xs) = true := h
    rw [Bool.and_eq_true] at h
    show (okD m x && okDs m xs) = true
    rw [okD_mono h.1 l, okDs_mono h.2 l]
    rfl
end
theorem okDs_all {n : Nat} : ∀ {xs : List PV}, (∀ x ∈ xs, okD n x = true) → okDs n xs = true
  | [], _ => by cases n <;> rfl
  | x :: xs, h => by
    show (okD n x && okDs n xs) = true
    rw [h x List.mem_cons_self, okDs_all fun y hy => h y (List.mem_cons_of_mem _ hy)]
    rfl
theorem okD_flat {n : Nat} {x : PV} (h : flat x = true) : okD n x = true := by
  cases x <;> first | (cases h; done) | (cases n <;> rfl)
/-- a comprehension with a test -/
theorem lcL_filter {t : List Nat} {c : PEnv → Res Bool} {e : PEnv → Res PV} {env : PEnv} {b : PV → Bool} {g : PV → PV} : ∀ {xs acc : List PV}, (∀ x ∈ xs, ∃ env1, bindT t x env = .ok env1 ∧ c env1 = .ok (b x) ∧ (b x = true → e env1 = .ok (g x))) → acc.length + xs.length ≤ most → lcL t c e env xs acc = .ok (acc ++ (xs.filter b).map g)
  | [], acc, _, _ => by
    rw [List.filter_nil, List.map_nil, List.append_nil]
    rfl
  | x :: xs, acc, h, hl => by
    obtain ⟨env1, h1, h2, h3⟩ := h x List.mem_cons_self
    rw [List.length_cons] at hl
    have ih := fun (acc : List PV) (z : acc.length + xs.length ≤ most) => lcL_filter (t := t) (c := c) (e := e) (env := env) (b := b) (g := g) (xs := xs) (acc := acc) (fun y hy => h y (List.mem_cons_of_mem _ hy)) z
    unfold lcL
    rw [h1, Res.bind_ok, h2, Res.bind_ok]
    cases q : b x with
    | true =>
      rw [if_pos rfl, h3 q, Res.bind_ok, if_pos (by omega), ih _ (by rw [List.length_append, List.length_singleton]; omega), List.append_assoc, List.filter_cons_of_pos q]
      rfl
    | false =>
      rw [if_neg (by decide), ih _ (by omega), List.filter_cons_of_neg (by rw [q]; decide)]
theorem c_nilL {o o' : Bool} {xs : List PV} (h : okDs 63 xs = true) : cmpop .eq (.lst o xs) (.lst o' []) = .ok (.bl (decide (xs = []))) := by
  rw [c_eq (show eqok (.lst o xs) (.lst o' []) = true from by
    show (okDs 63 xs && true) = true
    rw [h]
    rfl)]
  cases xs <;> rfl
/-! ### dicts -/
section
variable {cl : Cl} {w : Nat} {env : PEnv} {x : Nat} {a b : Ex} {o neg : Bool} {ks : List DKey} {xs : List PV} {z : Str} {v : PV} {i j k : Int}
@[simp] theorem evE_dnew : evE cl env .dnew = .ok (.dct true [] []) := nr rfl
@[simp] theorem evE_dsp {es : Exs} : evE cl env (.dsp es) = (evEs cl env es).bind fun vs => dspV vs := nr rfl
@[simp] theorem evE_lrg : evE cl env (.lrg a) = (evE cl env a).bind fun x => lrgV [frz x] := nr rfl
@[simp] theorem evE_get {c : Ex} : evE cl env (.get a b c) = (evE cl env a).bind fun x => if isDc (frz x) = true then (evE cl env b).bind fun y => (evE cl env c).bind fun z => getV (frz x) (frz y) (frz z) else .bad := nr rfl
@[simp] theorem evE_bitl : evE cl env (.bitl a) = (evE cl env a).bind fun x => bitV (frz x) := nr rfl
@[simp] theorem evS_papp {y : Nat} : evS cl w env (.papp x y a) = if (hasL env x && hasL env y) = true then RS.of (evE cl env a) env fun k => pappS x y (frz k) env env[x]? env[y]? else .bad := nr rfl
@[simp] theorem evS_sdi {p : Px} {y : Nat} : evS cl w env (.sdi p a y) = RS.of (evP cl env p) env fun q => if isDO q.2 = true then RS.of (evE cl env a) env fun j => RS.of (getE env y) env fun u => sdiS p.root q (frz j) u env else .bad := nr rfl
@[simp] theorem vE_dsp {es : Exs} : vE (.dsp es) = vEs es := nr rfl
@[simp] theorem isDc_dct : isDc (.dct o ks xs) = true := nr rfl
@[simp] theorem evS_put : evS cl w env (.put x a b) = if hasD env x = true then RS.of (evE cl env b) env fun v => RS.of (evE cl env a) env fun j => putS x (frz j) v (aft v (vE b) env) else .bad := nr rfl
@[simp] theorem frz_dct : frz (.dct o ks xs) = .dct false ks (frzs xs) := nr rfl
@[simp] theorem cls_dct : cls (.dct o ks xs) = (o && clss xs) := nr rfl
@[simp] theorem len_dct : biV .len [.dct o ks xs] = .ok (.int ks.length) := nr rfl
@[simp] theorem list_dct : biV .list [.dct o ks xs] = .ok (.lst true (ks.map keyP)) := nr rfl
@[simp] theorem dict_dct : biV .dict [.dct o ks xs] = .ok (.dct true ks (frzs xs)) := nr rfl
@[simp] theorem isD_dct : biV .isDict [.dct o ks xs] = .ok (.bl true) := nr rfl
@[simp] theorem c_inD : cmpop .isin (.str z) (.dct o ks xs) = .ok (.bl (dlook ks xs (.inr z)).isSome) := nr rfl
@[simp] theorem c_ninD : cmpop .notin (.str z) (.dct o ks xs) = .ok (.bl (!(dlook ks xs (.inr z)).isSome)) := nr rfl
theorem ix_dct {y : PV} (h : dlook ks xs (.inr z) = some y) : idxop (.dct o ks xs) (.str z) = .ok (frz y) := by
  show (match dlook ks xs (.inr z) with | some v => Res.ok (frz v) | none => .bad) = _
  rw [h]
def putB (x : Nat) (z : Str) (v : PV) (env : PEnv) : Option (Option PV) → RS
  | some (some (.dct true ks xs)) => if ks.length < most then .fl (.next (env.set x (some (.dct true (putD ks xs (.inr z) v).1 (putD ks xs (.inr z) v).2)))) else .bad
  | _ => .bad
@[simp] theorem putB_dct : putB x z v env (some (some (.dct true ks xs))) = if ks.length < most then .fl (.next (env.set x (some (.dct true (putD ks xs (.inr z) v).1 (putD ks xs (.inr z) v).2)))) else .bad := nr rfl
@[simp] theorem putS_str : putS x (.str z) v env = putB x z v env env[x]? := by
  unfold putS putB
  cases env[x]? with
  | none => rfl
  | some o => cases o with
    | none => rfl
    | some y => cases y with
      | dct o ks xs => cases o <;> rfl
      | _ => rfl
@[simp] theorem max3_int : biV .max [.int i, .int j, .int k] = .ok (.int (big (big i j) k)) := nr rfl
end
/-- unlike ones, all among others: no more than these -/
theorem nodup_le {α : Type} [DecidableEq α] : ∀ {l ys : List α}, l.Nodup → (∀ x ∈ l, x ∈ ys) → l.length ≤ ys.length
  | [], _, _, _ => Nat.zero_le _
  | x :: l, ys, nd, h => by
    obtain ⟨n1, n2⟩ := List.nodup_cons.mp nd
    have hx := h x List.mem_cons_self
    have q := nodup_le (l := l) (ys := ys.erase x) n2 fun y hy => (List.mem_erase_of_ne fun e => n1 (by rw [← e]; exact hy)).mpr (h y (List.mem_cons_of_mem _ hy))
    rw [List.length_erase_of_mem hx] at q
    have := List.length_pos_of_mem hx
    rw [List.length_cons]
    omega
/-- a while loop by the states that it goes through -/
theorem whlL_run {c : PEnv → Res Bool} {b : PEnv → RS} : ∀ (i : Nat) (f : Nat → PEnv) (n : Nat), i < n → (∀ j, j < i → c (f j) = .ok true ∧ b (f j) = .fl (.next (f (j + 1)))) → c (f i) = .ok false → whlL c b n (f 0) = .fl (.next (f i))
  | 0, f, n + 1, _, _, h => by
    show RS.of (c (f 0)) (f 0) _ = _
    rw [h]
    rfl
  | i + 1, f, n + 1, hn, h, h0 => by
    obtain ⟨h1, h2⟩ := h 0 (Nat.succ_pos i)
    have q := whlL_run i (fun j => f (j + 1)) n (by omega) (fun j hj => h (j + 1) (by omega)) h0
    show RS.of (c (f 0)) (f 0) _ = _
    rw [h1]
    simp only [RS.of_ok, if_pos, h2]
    exact q
  | _, _, 0, h, _, _ => absurd h (Nat.not_lt_zero _)
/-- the first place where it fails -/
theorem first_not {p : Nat → Bool} : ∀ {n : Nat}, p n = false → ∃ i, i ≤ n ∧ p i = false ∧ ∀ j, j < i → p j = true
  | 0, h => ⟨0, Nat.le_refl _, h, fun j hj => absurd hj (Nat.not_lt_zero _)⟩
  | n + 1, h => by
    by_cases q : ∀ j, j < n + 1 → p j = true
    · exact ⟨n + 1, Nat.le_refl _, h, q⟩
    · obtain ⟨j, hj⟩ := Classical.not_forall.mp q
      obtain ⟨hj1, hj2⟩ := Classical.not_imp.mp hj
      obtain ⟨i, h1, h2, h3⟩ := first_not (p := p) (n := j) (by simpa using hj2)
      exact ⟨i, by omega, h2, h3⟩
  termination_by n => n
theorem flats_strs : ∀ ys : List Str, (ys.map PV.str).all flat = true
  | [] => rfl
  | y :: ys => flats_strs ys
theorem fin_strs (z : Str) : ∀ ys : List Str, fin (.str z) (ys.map PV.str) = decide (z ∈ ys)
  | [] => (decide_eq_false (List.not_mem_nil)).symm
  | y :: ys => by
    rw [List.map_cons, fin_cons, feq_str, fin_strs z ys]
    by_cases q : y = z
    · rw [decide_eq_true q, decide_eq_true (show z ∈ y :: ys from by rw [q]; exact List.mem_cons_self), Bool.true_or]
    · rw [decide_eq_false q, Bool.false_or]
      by_cases r : z ∈ ys
      · rw [decide_eq_true r, decide_eq_true (List.mem_cons_of_mem y r)]
      · rw [decide_eq_false r, decide_eq_false fun h => (List.mem_cons.mp h).elim (fun e => q e.symm) r]
@[simp] theorem c_inLs {o : Bool} {z : Str} {ys : List Str} : cmpop .isin (.str z) (.lst o (ys.map PV.str)) = .ok (.bl (decide (z ∈ ys))) := by
  rw [← fin_strs]
  exact if_pos (by rw [flats_strs]; rfl)
theorem frzs_strs : ∀ is : List Str, frzs (is.map PV.str) = is.map PV.str
  | [] => rfl
  | i :: is => by
    show PV.str i :: frzs (is.map PV.str) = _
    rw [frzs_strs is]
    rfl
theorem clss_strs : ∀ is : List Str, clss (is.map PV.str) = true
  | [] => rfl
  | i :: is => clss_strs is
@[simp] theorem frzs_strs' (is : List Str) : frzs (is.map PV.str) = is.map PV.str := frzs_strs is
@[simp] theorem clss_strs' (is : List Str) : clss (is.map PV.str) = true := clss_strs is
end BW

/-! Terms, dicts of names, as plain Lean; what they are as values. -/
namespace BW
open PySem
/-! lists of what is closed -/
@[simp] theorem frzs_map {α : Type} {f : α → PV} (h : ∀ x, frz (f x) = f x) : ∀ xs : List α, frzs (xs.map f) = xs.map f
  | [] => nr rfl
  | x :: xs => nr (by rw [List.map_cons, frzs_cons, h, frzs_map h xs])
@[simp] theorem clss_map {α : Type} {f : α → PV} (h : ∀ x, cls (f x) = true) : ∀ xs : List α, clss (xs.map f) = true
  | [] => nr rfl
  | x :: xs => nr (by rw [List.map_cons, clss_cons, h, clss_map h xs]; rfl)
theorem ix_map {α : Type} {o : Bool} {f : α → PV} {xs : List α} {i : Nat} (h : i < xs.length) : idxop (.lst o (xs.map f)) (.int (i : Int)) = .ok (frz (f xs[i])) :=
  ix_at (L2.atI_nat (by rw [List.getElem?_map, List.getElem?_eq_getElem h]; rfl))
theorem ix_mapT {α : Type} {f : α → PV} {xs : List α} {i : Nat} (h : i < xs.length) : idxop (.tup (xs.map f)) (.int (i : Int)) = .ok (frz (f xs[i])) :=
  ix_atT (L2.atI_nat (by rw [List.getElem?_map, List.getElem?_eq_getElem h]; rfl))
/-- at some place -/
theorem ix_some {α : Type} {f : α → PV} {xs : List α} {i : Int} (h0 : 0 ≤ i) (h : i < xs.length) : ∃ x ∈ xs, ∀ o, idxop (.lst o (xs.map f)) (.int i) = .ok (frz (f x)) := by
  obtain ⟨x, hx, e⟩ := at_map (f := f) h0 h
  exact ⟨x, hx, fun o => ix_at e⟩
theorem atI_neg {α : Type} (r : List α) (x : α) (s : List α) : L2.atI (r ++ x :: s) (-((s.length + 1 : Nat) : Int)) = some x := by
  have hl : (r ++ x :: s).length = r.length + (s.length + 1) := by simp
  have e : L2.ixN (r ++ x :: s).length (-((s.length + 1 : Nat) : Int)) = some r.length := by
    unfold L2.ixN
    rw [hl, if_neg (by omega), if_pos (by omega)]
    congr 1
    omega
  unfold L2.atI
  rw [e]
  show (r ++ x :: s)[r.length]? = some x
  simp
theorem ix_m1 {α : Type} {o : Bool} {f : α → PV} {r : List α} {x : α} : idxop (.lst o ((r ++ [x]).map f)) (.int (-1)) = .ok (frz (f x)) :=
  ix_at (by rw [List.map_append]; exact atI_neg (r.map f) (f x) [])
theorem ix_m2 {α : Type} {o : Bool} {f : α → PV} {r : List α} {x y : α} : idxop (.lst o ((r ++ [x, y]).map f)) (.int (-2)) = .ok (frz (f x)) :=
  ix_at (by rw [List.map_append]; exact atI_neg (r.map f) (f x) [f y])
theorem ix_m3 {α : Type} {o : Bool} {f : α → PV} {r : List α} {x y z : α} : idxop (.lst o ((r ++ [x, y, z]).map f)) (.int (-3)) = .ok (frz (f x)) :=
  ix_at (by rw [List.map_append]; exact atI_neg (r.map f) (f x) [f y, f z])
theorem last1 {α : Type} {xs : List α} (h : 1 ≤ xs.length) : ∃ r a, xs = r ++ [a] := by
  have hn : xs ≠ [] := fun e => by rw [e] at h; exact absurd h (by simp)
  exact ⟨xs.dropLast, xs.getLast hn, (List.dropLast_concat_getLast hn).symm⟩
theorem last2 {α : Type} {xs : List α} (h : 2 ≤ xs.length) : ∃ r a b, xs = r ++ [a, b] := by
  obtain ⟨r, b, rfl⟩ := last1 (xs := xs) (by omega)
  obtain ⟨r, a, rfl⟩ := last1 (xs := r) (by simp at h; omega)
  exact ⟨r, a, b, by simp⟩
theorem last3 {α : Type} {xs : List α} (h : 3 ≤ xs.length) : ∃ r a b c, xs = r ++ [a, b, c] := by
  obtain ⟨r, b, c, rfl⟩ := last2 (xs := xs) (by omega)
  obtain ⟨r, a, rfl⟩ := last1 (xs := r) (by simp at h; omega)
  exact ⟨r, a, b, c, by simp⟩
theorem ix_dctI {o : Bool} {ks : List DKey} {xs : List PV} {z : Str} {y : PV} (h : dlook ks xs (.inr z) = some y) : idxop (.dct o ks xs) (.str z) = .ok (frz y) := ix_dct h
@[simp] theorem slc_tup {xs : List PV} {lo hi : Option Int} : slcop (.tup xs) lo hi = .ok (.tup (frzs (cutP xs lo hi))) := nr rfl
@[simp] theorem cut_one {α : Type} {x : α} {xs : List α} : cutP (x :: xs) (some 1) none = xs := by
  simp [cutP, HT.sIx]
@[simp] theorem list_tup {xs : List PV} : biV .list [.tup xs] = .ok (.lst true (frzs xs)) := nr rfl
/-! dicts of names to whole numbers -/
abbrev Dc := List (Str × Int)
def kD (D : Dc) : List DKey := D.map fun p => .inr p.1
def vD (D : Dc) : List PV := D.map fun p => .int p.2
def dC (o : Bool) (D : Dc) : PV := .dct o (kD D) (vD D)
def dG : Dc → Str → Option Int
  | [], _ => none
  | (k, v) :: D, z => if k = z then some v else dG D z
def dS : Dc → Str → Int → Dc
  | [], _, _ => []
  | (k, v) :: D, z, y => (k, if k = z then y else v) :: dS D z y
def dP (D : Dc) (z : Str) (v : Int) : Dc := if (dG D z).isSome = true then dS D z v else D ++ [(z, v)]
theorem look_kD : ∀ (D : Dc) (z : Str), dlook (kD D) (vD D) (.inr z) = (dG D z).map PV.int
  | [], _ => rfl
  | (k, v) :: D, z => by
    show (if (Sum.inr k : DKey) = .inr z then some (PV.int v) else dlook (kD D) (vD D) (.inr z)) = (if k = z then some v else dG D z).map PV.int
    by_cases q : k = z
    · rw [if_pos (by rw [q]), if_pos q]
      rfl
    · rw [if_neg fun e => q (Sum.inr.inj e), if_neg q, look_kD D z]
theorem set_kD : ∀ (D : Dc) (z : Str) (y : Int), dset (kD D) (vD D) (.inr z) (.int y) = vD (dS D z y) ∧ kD (dS D z y) = kD D
  | [], _, _ => ⟨rfl, rfl⟩
  | (k, v) :: D, z, y => by
    obtain ⟨h1, h2⟩ := set_kD D z y
    constructor
    · show (if (Sum.inr k : DKey) = .inr z then PV.int y else .int v) :: dset (kD D) (vD D) (.inr z) (.int y) = PV.int (if k = z then y else v) :: vD (dS D z y)
      rw [h1]
      by_cases q : k = z
      · rw [if_pos (by rw [q]), if_pos q]
      · rw [if_neg fun e => q (Sum.inr.inj e), if_neg q]
    · show Sum.inr k :: kD (dS D z y) = Sum.inr k :: kD D
      rw [h2]
theorem put_kD (D : Dc) (z : Str) (v : Int) : putD (kD D) (vD D) (.inr z) (.int v) = (kD (dP D z v), vD (dP D z v)) := by
  unfold putD dP
  rw [look_kD]
  cases h : dG D z with
  | none => simp [kD, vD]
  | some y =>
    obtain ⟨h1, h2⟩ := set_kD D z v
    simp [h1, h2]
@[simp] theorem frzs_vD : ∀ D : Dc, frzs (vD D) = vD D
  | [] => nr rfl
  | (k, v) :: D => nr (by
    show PV.int v :: frzs (vD D) = _
    rw [frzs_vD D]
    rfl)
@[simp] theorem clss_vD : ∀ D : Dc, clss (vD D) = true
  | [] => nr rfl
  | (k, v) :: D => nr (clss_vD D)
@[simp] theorem kD_len (D : Dc) : (kD D).length = D.length := nr (List.length_map _)
theorem dS_len : ∀ (D : Dc) (z : Str) (v : Int), (dS D z v).length = D.length
  | [], _, _ => rfl
  | (_, _) :: D, z, v => congrArg Nat.succ (dS_len D z v)
theorem dP_len (D : Dc) (z : Str) (v : Int) : (dP D z v).length ≤ D.length + 1 := by
  unfold dP
  split
  · rw [dS_len]
    omega
  · simp
theorem dS_vals {P : Int → Prop} : ∀ {D : Dc} {z : Str} {v : Int}, (∀ p ∈ D, P p.2) → P v → ∀ p ∈ dS D z v, P p.2
  | [], _, _, _, _, _, h => by cases h
  | (k, u) :: D, z, v, h, hv, p, hp => by
    rcases List.mem_cons.mp hp with e | hp
    · rw [e]
      show P (if k = z then v else u)
      split
      · exact hv
      · exact h (k, u) List.mem_cons_self
    · exact dS_vals (fun p hp => h p (List.mem_cons_of_mem _ hp)) hv p hp
theorem dP_vals {P : Int → Prop} {D : Dc} {z : Str} {v : Int} (h : ∀ p ∈ D, P p.2) (hv : P v) : ∀ p ∈ dP D z v, P p.2 := by
  unfold dP
  split
  · exact dS_vals h hv
  · intro p hp
    rcases List.mem_append.mp hp with hp | hp
    · exact h p hp
    · rw [List.mem_singleton.mp hp]
      exact hv
@[simp] theorem frz_dC {o : Bool} {D : Dc} : frz (dC o D) = dC false D := nr (by simp [dC])
@[simp] theorem cls_dC {o : Bool} {D : Dc} : cls (dC o D) = o := nr (by simp [dC])
@[simp] theorem dC_len {o : Bool} {D : Dc} : biV .len [dC o D] = .ok (.int D.length) := nr (by simp [dC])
@[simp] theorem dC_list {o : Bool} {D : Dc} : biV .list [dC o D] = .ok (.lst true (D.map fun p => .str p.1)) := nr (by simp [dC, kD, Function.comp_def, keyP])
@[simp] theorem dC_dict {o : Bool} {D : Dc} : biV .dict [dC o D] = .ok (dC true D) := nr (by simp [dC])
@[simp] theorem dC_in {o : Bool} {D : Dc} {z : Str} : cmpop .isin (.str z) (dC o D) = .ok (.bl (dG D z).isSome) := nr (by simp [dC, look_kD])
@[simp] theorem dC_nin {o : Bool} {D : Dc} {z : Str} : cmpop .notin (.str z) (dC o D) = .ok (.bl (!(dG D z).isSome)) := nr (by simp [dC, look_kD])
theorem dC_ix {o : Bool} {D : Dc} {z : Str} {v : Int} (h : dG D z = some v) : idxop (dC o D) (.str z) = .ok (.int v) := ix_dct (y := .int v) (by rw [look_kD, h]; rfl)
def isDv : Option (Option PV) → Bool
  | some (some (.dct _ _ _)) => true
  | _ => false
@[simp] theorem hasD_eq {env : PEnv} {x : Nat} : hasD env x = isDv env[x]? := nr (by
  unfold hasD isDv
  cases env[x]? with
  | none => rfl
  | some o => cases o with
    | none => rfl
    | some v => cases v <;> rfl)
@[simp] theorem isDv_dct {o : Bool} {ks : List DKey} {xs : List PV} : isDv (some (some (.dct o ks xs))) = true := nr rfl
@[simp] theorem isDv_dC {o : Bool} {D : Dc} : isDv (some (some (dC o D))) = true := nr rfl
@[simp] theorem putB_dC {x : Nat} {z : Str} {v : Int} {env : PEnv} {D : Dc} (h : D.length < most) : putB x z (.int v) env (some (some (dC true D))) = .fl (.next (env.set x (some (dC true (dP D z v))))) := nr (by
  show putB x z (.int v) env (some (some (.dct true (kD D) (vD D)))) = _
  rw [putB_dct, put_kD, kD_len, if_pos h]
  rfl)
theorem dC_new : PV.dct true [] [] = dC true [] := rfl
theorem dG_mem : ∀ {D : Dc} {p : Str × Int}, p ∈ D → ∃ v, dG D p.1 = some v ∧ (p.1, v) ∈ D
  | (k, u) :: D, p, h => by
    by_cases q : k = p.1
    · exact ⟨u, by show (if k = p.1 then some u else dG D p.1) = _; rw [if_pos q], by rw [q]; exact List.mem_cons_self⟩
    · rcases List.mem_cons.mp h with e | h
      · exact absurd (by rw [e]) q
      · obtain ⟨v, h1, h2⟩ := dG_mem h
        exact ⟨v, by show (if k = p.1 then some u else dG D p.1) = _; rw [if_neg q, h1], List.mem_cons_of_mem _ h2⟩
theorem dG_in : ∀ {D : Dc} {z : Str} {v : Int}, dG D z = some v → (z, v) ∈ D
  | (k, u) :: D, z, v, h => by
    by_cases q : k = z
    · rw [show dG ((k, u) :: D) z = some u from by show (if k = z then some u else dG D z) = _; rw [if_pos q]] at h
      cases h
      rw [q]
      exact List.mem_cons_self
    · rw [show dG ((k, u) :: D) z = dG D z from by show (if k = z then some u else dG D z) = _; rw [if_neg q]] at h
      exact List.mem_cons_of_mem _ (dG_in h)
theorem dG_none : ∀ {D : Dc} {z : Str}, z ∉ D.map (·.1) → dG D z = none
  | [], _, _ => rfl
  | (k, u) :: D, z, h => by
    rw [List.map_cons, List.mem_cons, not_or] at h
    show (if k = z then some u else dG D z) = _
    rw [if_neg fun e => h.1 e.symm, dG_none h.2]
theorem dP_new {D : Dc} {z : Str} {v : Int} (h : z ∉ D.map (·.1)) : dP D z v = D ++ [(z, v)] := by
  unfold dP
  rw [dG_none h]
  rfl
/-! ### terms -/
inductive F2 where
  | and | or | xor | plus | minus | less | same | join
  deriving DecidableEq
def F2.s : F2 → Str
  | .and => "and"
  | .or => "or"
  | .xor => "xor"
  | .plus => "plus"
  | .minus => "minus"
  | .less => "less"
  | .same => "same"
  | .join => "join"
def F2.w : F2 → Int → Int → Int
  | .less, _, _ => 1
  | .same, _, _ => 1
  | .join, a, b => a + b
  | .and, a, _ => a
  | .or, a, _ => a
  | .xor, a, _ => a
  | .plus, a, _ => a
  | .minus, a, _ => a
inductive Tm where
  | num (a x : Int)
  | box (z : Str)
  | late (z : Str)
  | door (z : Str)
  | not (t : Tm)
  | two (f : F2) (t u : Tm)
  | pick (c t u : Tm)
  | part (t : Tm) (lo many : Int)
section
variable {f : F2}
@[simp] theorem f2_num : (f.s = Str.ofString "num") = False := nr (eq_false (by cases f <;> simp [F2.s]))
@[simp] theorem f2_num' : (Str.ofString "num" = f.s) = False := nr (eq_false (by cases f <;> simp [F2.s]))
@[simp] theorem f2_box : (f.s = Str.ofString "box") = False := nr (eq_false (by cases f <;> simp [F2.s]))
@[simp] theorem f2_box' : (Str.ofString "box" = f.s) = False := nr (eq_false (by cases f <;> simp [F2.s]))
@[simp] theorem f2_late : (f.s = Str.ofString "late") = False := nr (eq_false (by cases f <;> simp [F2.s]))
@[simp] theorem f2_late' : (Str.ofString "late" = f.s) = False := nr (eq_false (by cases f <;> simp [F2.s]))
@[simp] theorem f2_door : (f.s = Str.ofString "door") = False := nr (eq_false (by cases f <;> simp [F2.s]))
@[simp] theorem f2_door' : (Str.ofString "door" = f.s) = False := nr (eq_false (by cases f <;> simp [F2.s]))
@[simp] theorem f2_not : (f.s = Str.ofString "not") = False := nr (eq_false (by cases f <;> simp [F2.s]))
@[simp] theorem f2_not' : (Str.ofString "not" = f.s) = False := nr (eq_false (by cases f <;> simp [F2.s]))
@[simp] theorem f2_part : (f.s = Str.ofString "part") = False := nr (eq_false (by cases f <;> simp [F2.s]))
@[simp] theorem f2_part' : (Str.ofString "part" = f.s) = False := nr (eq_false (by cases f <;> simp [F2.s]))
@[simp] theorem f2_pick : (f.s = Str.ofString "pick") = False := nr (eq_false (by cases f <;> simp [F2.s]))
@[simp] theorem f2_pick' : (Str.ofString "pick" = f.s) = False := nr (eq_false (by cases f <;> simp [F2.s]))
@[simp] theorem f2_nil : (f.s = Str.ofString "") = False := nr (eq_false (by cases f <;> simp [F2.s]))
@[simp] theorem f2_nil' : (Str.ofString "" = f.s) = False := nr (eq_false (by cases f <;> simp [F2.s]))
end
def Tm.pv : Tm → PV
  | .num a x => .tup [.str "num", .int a, .int x]
  | .box z => .tup [.str "box", .str z]
  | .late z => .tup [.str "late", .str z]
  | .door z => .tup [.str "door", .str z]
  | .not t => .tup [.str "not", t.pv]
  | .two f t u => .tup [.str f.s, t.pv, u.pv]
  | .pick c t u => .tup [.str "pick", c.pv, t.pv, u.pv]
  | .part t lo many => .tup [.str "part", t.pv, .int lo, .int many]
def Tm.parts : Tm → Int
  | .not t => t.parts + 1
  | .two _ t u => t.parts + u.parts + 1
  | .pick c t u => c.parts + t.parts + u.parts + 1
  | .part t _ _ => t.parts + 1
  | _ => 1
def Tm.deep : Tm → Int
  | .not t => t.deep + 1
  | .two _ t u => max t.deep u.deep + 1
  | .pick c t u => max (max c.deep t.deep) u.deep + 1
  | .part t _ _ => t.deep + 1
  | _ => 1
def Tm.sub : Tm → List Tm
  | .not t => [t]
  | .two _ t u => [t, u]
  | .pick c t u => [c, t, u]
  | .part t _ _ => [t]
  | _ => []
def Tm.wid (B D : Dc) : Tm → Int
  | .num a _ => a
  | .box z => (dG B z).getD 0
  | .late z => (dG B z).getD 0
  | .door z => (dG D z).getD 0
  | .not t => t.wid B D
  | .two f t u => f.w (t.wid B D) (u.wid B D)
  | .pick _ t _ => t.wid B D
  | .part _ _ many => many
/-- let by, but for its size -/
def Tm.ok (B D : Dc) : Tm → Prop
  | .num a x => 1 ≤ a ∧ a ≤ 64 ∧ 0 ≤ x ∧ x < 2 ^ a.toNat
  | .box z => (dG B z).isSome = true
  | .late z => (dG B z).isSome = true
  | .door z => (dG D z).isSome = true
  | .not t => t.ok B D
  | .two f t u => t.ok B D ∧ u.ok B D ∧ if f = .join then t.wid B D + u.wid B D ≤ 64 else t.wid B D = u.wid B D
  | .pick c t u => c.ok B D ∧ t.ok B D ∧ u.ok B D ∧ c.wid B D = 1 ∧ t.wid B D = u.wid B D
  | .part t lo many => t.ok B D ∧ 0 ≤ lo ∧ 1 ≤ many ∧ lo + many ≤ t.wid B D
def Wd (D : Dc) : Prop := ∀ p ∈ D, 1 ≤ p.2 ∧ p.2 ≤ 64
theorem Wd.get {D : Dc} (h : Wd D) {z : Str} {v : Int} (e : dG D z = some v) : 1 ≤ v ∧ v ≤ 64 := h (z, v) (dG_in e)
theorem Wd.getD {D : Dc} (h : Wd D) {z : Str} (e : (dG D z).isSome = true) : 1 ≤ (dG D z).getD 0 ∧ (dG D z).getD 0 ≤ 64 := by
  obtain ⟨v, hv⟩ := Option.isSome_iff_exists.mp e
  rw [hv]
  exact h.get hv
theorem Tm.wid_le {B D : Dc} (hB : Wd B) (hD : Wd D) : ∀ {t : Tm}, t.ok B D → 1 ≤ t.wid B D ∧ t.wid B D ≤ 64
  | .num _ _, h => ⟨h.1, h.2.1⟩
  | .box _, h => hB.getD h
  | .late _, h => hB.getD h
  | .door _, h => hD.getD h
  | .not t, h => Tm.wid_le (t := t) hB hD h
  | .two f t u, h => by
    have q := Tm.wid_le (t := t) hB hD h.1
    have r := Tm.wid_le (t := u) hB hD h.2.1
    have k := h.2.2
    cases f <;> simp only [Tm.wid, F2.w] <;> simp at k <;> omega
  | .pick _ t _, h => Tm.wid_le (t := t) hB hD h.2.1
  | .part t lo many, h => by
    have q := Tm.wid_le (t := t) hB hD h.1
    have k := h.2
    show 1 ≤ many ∧ many ≤ 64
    omega
theorem Tm.parts_pos : ∀ t : Tm, 1 ≤ t.parts
  | .num _ _ => Int.le_refl _
  | .box _ => Int.le_refl _
  | .late _ => Int.le_refl _
  | .door _ => Int.le_refl _
  | .not t => by have := Tm.parts_pos t; simp only [Tm.parts]; omega
  | .two _ t u => by have := Tm.parts_pos t; have := Tm.parts_pos u; simp only [Tm.parts]; omega
  | .pick c t u => by have := Tm.parts_pos c; have := Tm.parts_pos t; have := Tm.parts_pos u; simp only [Tm.parts]; omega
  | .part t _ _ => by have := Tm.parts_pos t; simp only [Tm.parts]; omega
theorem Tm.deep_pos : ∀ t : Tm, 1 ≤ t.deep
  | .num _ _ => Int.le_refl _
  | .box _ => Int.le_refl _
  | .late _ => Int.le_refl _
  | .door _ => Int.le_refl _
  | .not t => by have := Tm.deep_pos t; simp only [Tm.deep]; omega
  | .two _ t u => by have := Tm.deep_pos t; have := Tm.deep_pos u; simp only [Tm.deep]; omega
  | .pick c t u => by have := Tm.deep_pos c; have := Tm.deep_pos t; have := Tm.deep_pos u; simp only [Tm.deep]; omega
  | .part t _ _ => by have := Tm.deep_pos t; simp only [Tm.deep]; omega
@[simp] theorem frz_tm : ∀ t : Tm, frz t.pv = t.pv
  | .num _ _ => nr rfl
  | .box _ => nr rfl
  | .late _ => nr rfl
  | .door _ => nr rfl
  | .not t => nr (by simp only [Tm.pv, frz_tup, frzs_cons, frzs_nil, frz_str, frz_tm t])
  | .two f t u => nr (by simp only [Tm.pv, frz_tup, frzs_cons, frzs_nil, frz_str, frz_tm t, frz_tm u])
  | .pick c t u => nr (by simp only [Tm.pv, frz_tup, frzs_cons, frzs_nil, frz_str, frz_tm c, frz_tm t, frz_tm u])
  | .part t _ _ => nr (by simp only [Tm.pv, frz_tup, frzs_cons, frzs_nil, frz_str, frz_tm t, frz_int])
@[simp] theorem cls_tm : ∀ t : Tm, cls t.pv = true
  | .num _ _ => nr rfl
  | .box _ => nr rfl
  | .late _ => nr rfl
  | .door _ => nr rfl
  | .not t => nr (by simp only [Tm.pv, cls_tup, clss_cons, clss_nil, cls_str, cls_tm t, Bool.and_self])
  | .two f t u => nr (by simp only [Tm.pv, cls_tup, clss_cons, clss_nil, cls_str, cls_tm t, cls_tm u, Bool.and_self])
  | .pick c t u => nr (by simp only [Tm.pv, cls_tup, clss_cons, clss_nil, cls_str, cls_tm c, cls_tm t, cls_tm u, Bool.and_self])
  | .part t _ _ => nr (by simp only [Tm.pv, cls_tup, clss_cons, clss_nil, cls_str, cls_tm t, cls_int, Bool.and_self])
theorem frz_pvf : frz ∘ Tm.pv = Tm.pv := funext fun t => frz_tm t
section
variable {a b x : Int} {z : Str} {t u c : Tm} {f : F2}
@[simp] theorem px_num0 : idxop (Tm.num a x).pv (.int 0) = .ok (.str "num") := nr ixT0
@[simp] theorem px_num1 : idxop (Tm.num a x).pv (.int 1) = .ok (.int a) := nr ixT1
@[simp] theorem px_num2 : idxop (Tm.num a x).pv (.int 2) = .ok (.int x) := nr ixT2
@[simp] theorem px_box0 : idxop (Tm.box z).pv (.int 0) = .ok (.str "box") := nr ixT0
@[simp] theorem px_box1 : idxop (Tm.box z).pv (.int 1) = .ok (.str z) := nr ixT1
@[simp] theorem px_late0 : idxop (Tm.late z).pv (.int 0) = .ok (.str "late") := nr ixT0
@[simp] theorem px_late1 : idxop (Tm.late z).pv (.int 1) = .ok (.str z) := nr ixT1
@[simp] theorem px_door0 : idxop (Tm.door z).pv (.int 0) = .ok (.str "door") := nr ixT0
@[simp] theorem px_door1 : idxop (Tm.door z).pv (.int 1) = .ok (.str z) := nr ixT1
@[simp] theorem px_not0 : idxop (Tm.not t).pv (.int 0) = .ok (.str "not") := nr ixT0
@[simp] theorem px_not1 : idxop (Tm.not t).pv (.int 1) = .ok (t.pv) := nr ((ixT1).trans (by rw [frz_tm]))
@[simp] theorem px_two0 : idxop (Tm.two f t u).pv (.int 0) = .ok (.str f.s) := nr ixT0
@[simp] theorem px_two1 : idxop (Tm.two f t u).pv (.int 1) = .ok (t.pv) := nr ((ixT1).trans (by rw [frz_tm]))
@[simp] theorem px_two2 : idxop (Tm.two f t u).pv (.int 2) = .ok (u.pv) := nr ((ixT2).trans (by rw [frz_tm]))
@[simp] theorem px_pick0 : idxop (Tm.pick c t u).pv (.int 0) = .ok (.str "pick") := nr ixT0
@[simp] theorem px_pick1 : idxop (Tm.pick c t u).pv (.int 1) = .ok (c.pv) := nr ((ixT1).trans (by rw [frz_tm]))
@[simp] theorem px_pick2 : idxop (Tm.pick c t u).pv (.int 2) = .ok (t.pv) := nr ((ixT2).trans (by rw [frz_tm]))
@[simp] theorem px_pick3 : idxop (Tm.pick c t u).pv (.int 3) = .ok (u.pv) := nr ((ixT3).trans (by rw [frz_tm]))
@[simp] theorem px_part0 : idxop (Tm.part t a b).pv (.int 0) = .ok (.str "part") := nr ixT0
@[simp] theorem px_part1 : idxop (Tm.part t a b).pv (.int 1) = .ok (t.pv) := nr ((ixT1).trans (by rw [frz_tm]))
@[simp] theorem px_part2 : idxop (Tm.part t a b).pv (.int 2) = .ok (.int a) := nr ixT2
@[simp] theorem px_part3 : idxop (Tm.part t a b).pv (.int 3) = .ok (.int b) := nr ixT3
end
def lcS (t : List Nat) (c : PEnv → Res Bool) (e : PEnv → Res PV) (env : PEnv) (xs acc : List PV) : PEnv → Res (List PV) := fun env1 => (c env1).bind fun b => if b = true then (e env1).bind fun y => if acc.length < most then lcL t c e env xs (acc ++ [y]) else .bad else lcL t c e env xs acc
@[simp] theorem lcS_t {t : List Nat} {e : PEnv → Res PV} {env env1 : PEnv} {xs acc : List PV} : lcS t (fun _ => .ok true) e env xs acc env1 = (e env1).bind fun y => if acc.length < most then lcL t (fun _ => .ok true) e env xs (acc ++ [y]) else .bad := nr rfl
@[simp] theorem lcL_nil {t : List Nat} {c : PEnv → Res Bool} {e : PEnv → Res PV} {env : PEnv} {acc : List PV} : lcL t c e env [] acc = .ok acc := nr rfl
@[simp] theorem lcL_cons {t : List Nat} {c : PEnv → Res Bool} {e : PEnv → Res PV} {env : PEnv} {x : PV} {xs acc : List PV} : lcL t c e env (x :: xs) acc = (bindT t x env).bind (lcS t c e env xs acc) := nr rfl
@[simp] theorem most_0 : (0 < most) = True := nr (eq_true (by decide))
@[simp] theorem most_1 : (1 < most) = True := nr (eq_true (by decide))
@[simp] theorem most_2 : (2 < most) = True := nr (eq_true (by decide))
@[simp] theorem most_3 : (3 < most) = True := nr (eq_true (by decide))
section
variable {o : Bool} {x y z : PV}
@[simp] theorem ixL_m1_1 : idxop (.lst o [x]) (.int (-1)) = .ok (frz x) := nr (ix_at (atI_neg [] x []))
@[simp] theorem ixL_m1_2 : idxop (.lst o [x, y]) (.int (-1)) = .ok (frz y) := nr (ix_at (atI_neg [x] y []))
@[simp] theorem ixL_m1_3 : idxop (.lst o [x, y, z]) (.int (-1)) = .ok (frz z) := nr (ix_at (atI_neg [x, y] z []))
@[simp] theorem ixL_m2_2 : idxop (.lst o [x, y]) (.int (-2)) = .ok (frz x) := nr (ix_at (atI_neg [] x [y]))
@[simp] theorem ixL_m2_3 : idxop (.lst o [x, y, z]) (.int (-2)) = .ok (frz y) := nr (ix_at (atI_neg [x] y [z]))
@[simp] theorem ixL2 {xs : List PV} : idxop (.lst o (x :: y :: z :: xs)) (.int 2) = .ok (frz z) := nr (ix_at (L2.atI_nat (xs := x :: y :: z :: xs) (j := 2) rfl))
end
theorem ix_str {z : Str} {i : Int} {c : Nat} (h : L2.atI z.cps.toList i = some c) (hl : z.length ≤ most) : idxop (.str z) (.int i) = .ok (.str ⟨#[c]⟩) := by
  show (match L2.atI z.cps.toList i with | some c => if decide (z.length ≤ most) = true then Res.ok (PV.str ⟨#[c]⟩) else .bad | none => .bad) = _
  rw [h]
  exact if_pos (decide_eq_true hl)
theorem b_addS {a b : Str} (h : a.length + b.length ≤ most) : binop .add (.str a) (.str b) = .ok (.str (a ++ b)) := by
  have e : (decide (Bop.add = Bop.add) && decide (a.length + b.length ≤ most)) = true := by
    rw [decide_eq_true h]
    rfl
  exact if_pos e
theorem len_app (a b : Str) : (a ++ b).length = a.length + b.length := by
  show (a.cps ++ b.cps).size = a.cps.size + b.cps.size
  exact Array.size_append
theorem slc_str {z : Str} {lo hi : Option Int} (h : z.length ≤ most) : slcop (.str z) lo hi = .ok (.str (L2.cutS z lo hi)) := if_pos (decide_eq_true h)
/-- a name -/
def Gn (z : Str) : Prop := (∀ c ∈ z.cps.toList, 97 ≤ c ∧ c ≤ 122) ∧ 1 ≤ z.length ∧ z.length ≤ 8
theorem mem_app {a b : Str} {c : Nat} : c ∈ (a ++ b).cps.toList ↔ c ∈ a.cps.toList ∨ c ∈ b.cps.toList := by
  show c ∈ (a.cps ++ b.cps).toList ↔ _
  rw [Array.toList_append, List.mem_append]
theorem nodup_snoc {α : Type} {ys : List α} {z : α} (nd : ys.Nodup) (h : z ∉ ys) : (ys ++ [z]).Nodup :=
  List.nodup_append.mpr ⟨nd, by simp, fun a ha b hb e => h (by rw [← List.mem_singleton.mp hb, ← e]; exact ha)⟩
theorem cutS_to {z : Str} (k : Nat) : (L2.cutS z none (some (k : Int))).length = min k z.length := by
  show (((z.cps.toList.drop (HT.sIx z.length 0 none)).take (HT.sIx z.length z.length (some (k : Int)) - HT.sIx z.length 0 none)).toArray).size = _
  rw [HT.sIx_nat, HT.sIx_none, List.size_toArray, List.length_take, List.length_drop, Array.length_toList]
  show min (min k z.length - 0) (z.length - 0) = _
  omega
theorem cutS_from {z : Str} (k : Nat) : (L2.cutS z (some (k : Int)) none).length = z.length - k := by
  show (((z.cps.toList.drop (HT.sIx z.length 0 (some (k : Int)))).take (HT.sIx z.length z.length none - HT.sIx z.length 0 (some (k : Int)))).toArray).size = _
  rw [HT.sIx_nat, HT.sIx_none, List.size_toArray, List.length_take, List.length_drop, Array.length_toList]
  show min (z.length - min k z.length) (z.length - min k z.length) = _
  omega
theorem cutS_mem {z : Str} {lo hi : Option Int} {c : Nat} (h : c ∈ (L2.cutS z lo hi).cps.toList) : c ∈ z.cps.toList := by
  have h : c ∈ (z.cps.toList.drop (HT.sIx z.length 0 lo)).take (HT.sIx z.length z.length hi - HT.sIx z.length 0 lo) := by
    unfold L2.cutS at h
    simpa using h
  exact List.mem_of_mem_drop (List.mem_of_mem_take h)
/-- boxes and doors -/
structure Spc (B D : Dc) : Prop where
  wb : Wd B
  wd : Wd D
  nd : (B.map (·.1) ++ D.map (·.1)).Nodup
  gn : ∀ z ∈ B.map (·.1) ++ D.map (·.1), Gn z
theorem take_next {α : Type} {xs : List α} {i : Nat} (h : i < xs.length) : xs.take (i + 1) = xs.take i ++ [xs[i]] := by
  rw [List.take_succ, List.getElem?_eq_getElem h]
  rfl
theorem nodup_take {α : Type} {xs : List α} (nd : xs.Nodup) {i : Nat} (h : i < xs.length) : xs[i] ∉ xs.take i := by
  intro hm
  obtain ⟨j, hj, e⟩ := List.getElem_of_mem hm
  rw [List.getElem_take] at e
  rw [List.length_take] at hj
  have q := (List.getElem_inj (h₀ := by omega) (h₁ := h) nd).mp e
  omega
/-- a term, its width, its parts, how deep -/
def itv (B D : Dc) (t : Tm) : PV := .tup [t.pv, .int (t.wid B D), .int t.parts, .int t.deep]
section
variable {B D : Dc} {t : Tm}
@[simp] theorem frz_itv : frz (itv B D t) = itv B D t := nr (by simp [itv])
@[simp] theorem cls_itv : cls (itv B D t) = true := nr (by simp [itv])
@[simp] theorem itv_0 : idxop (itv B D t) (.int 0) = .ok t.pv := nr (by simp [itv])
@[simp] theorem itv_1 : idxop (itv B D t) (.int 1) = .ok (.int (t.wid B D)) := nr (by simp [itv])
@[simp] theorem itv_2 : idxop (itv B D t) (.int 2) = .ok (.int t.parts) := nr (by simp [itv])
@[simp] theorem itv_3 : idxop (itv B D t) (.int 3) = .ok (.int t.deep) := nr (by simp [itv])
end
@[simp] theorem cut_pre {α : Type} {a b : List α} : cutP (a ++ b) none (some (a.length : Int)) = a := nr (by rw [cut_to (by simp)]; simp)
@[simp] theorem cut_preM {α β : Type} {f : α → β} {a : List α} {b : List β} : cutP (a.map f ++ b) none (some (a.length : Int)) = a.map f := nr (by rw [cut_to (by simp), List.take_append_of_le_length (by simp)]; rw [List.take_of_length_le (by simp)])
@[simp] theorem cut_whole {α : Type} {a : List α} : cutP a none (some (a.length : Int)) = a := nr (by rw [cut_to (by simp)]; simp)
@[simp] theorem cut_wholeM {α β : Type} {f : α → β} {a : List α} : cutP (a.map f) none (some (a.length : Int)) = a.map f := nr (by rw [cut_to (by simp)]; rw [List.take_of_length_le (by simp)])
@[simp] theorem b_addLL {o o' : Bool} {xs ys : List PV} (h : xs.length + ys.length ≤ most) : binop .add (.lst o xs) (.lst o' ys) = .ok (.lst true (frzs xs ++ frzs ys)) := b_addL h
def Tm.good (B D : Dc) (t : Tm) : Prop := t.ok B D ∧ t.parts ≤ 100 ∧ t.deep ≤ 12
theorem dG_nd : ∀ {D : Dc} {p : Str × Int}, (D.map (·.1)).Nodup → p ∈ D → dG D p.1 = some p.2
  | (k, u) :: D, p, nd, h => by
    rw [List.map_cons, List.nodup_cons] at nd
    show (if k = p.1 then some u else dG D p.1) = _
    rcases List.mem_cons.mp h with rfl | h
    · rw [if_pos rfl]
    · rw [if_neg fun e => nd.1 (by rw [show (k, u).1 = p.1 from e]; exact List.mem_map_of_mem h), dG_nd nd.2 h]
theorem allO_true : ∀ {xs : List (Option Bool)}, (∀ x ∈ xs, x = some true) → allO xs = some true
  | [], _ => rfl
  | x :: xs, h => by
    rw [h x List.mem_cons_self]
    show (allO xs).map _ = _
    rw [allO_true fun y hy => h y (List.mem_cons_of_mem _ hy)]
    rfl
theorem zip_mem {α β γ δ : Type} {F : α → β → γ} {f : δ → α} {g : δ → β} : ∀ {xs : List δ} {y : γ}, y ∈ List.zipWith F (xs.map f) (xs.map g) → ∃ x ∈ xs, y = F (f x) (g x)
  | x :: xs, y, h => by
    rcases List.mem_cons.mp h with rfl | h
    · exact ⟨x, List.mem_cons_self, rfl⟩
    · obtain ⟨z, hz, e⟩ := zip_mem h
      exact ⟨z, List.mem_cons_of_mem _ hz, e⟩
theorem eqG_dC {n : Nat} {o o' : Bool} {D : Dc} (nd : (D.map (·.1)).Nodup) : eqG (n + 2) (dC o D) (dC o' D) = some true := by
  have e : ∀ b : Bool, some (true && b) = some b := fun b => by cases b <;> rfl
  show (if eqok (dC o D) (dC o' D) = true then _ else (allO (List.zipWith (fun k x => match dlook (kD D) (vD D) k with
      | some y => eqG (n + 1) x y
      | none => some false) (kD D) (vD D))).map fun b => decide ((kD D).length = (kD D).length) && b) = _
  rw [if_neg (by show ¬ (false && _) = true; simp), allO_true fun x hx => ?_]
  · simp
  · obtain ⟨p, hp, rfl⟩ := zip_mem hx
    rw [look_kD, dG_nd nd hp]
    show eqG (n + 1) (.int p.2) (.int p.2) = _
    show (if eqok (.int p.2) (.int p.2) = true then some (peq (.int p.2) (.int p.2)) else _) = _
    simp
theorem c_eqX {x y : PV} {b : Bool} (h : eqok x y = false) (h2 : eqG 8 x y = some b) : cmpop .eq x y = .ok (.bl b) := by
  show (if eqok x y = true then Res.ok (PV.bl (peq x y)) else (match eqG 8 x y with | some b => Res.ok (PV.bl b) | none => if dif x y = true then .ok (.bl false) else .bad)) = _
  rw [h, h2]
  rfl
@[simp] theorem c_nilX {o o' : Bool} {xs : List PV} : cmpop .eq (.lst o xs) (.lst o' []) = .ok (.bl (decide (xs = []))) := nr (by
  cases xs with
  | nil => rfl
  | cons x r =>
    cases q : eqok (.lst o (x :: r)) (.lst o' []) with
    | true =>
      rw [c_eq q]
      rfl
    | false =>
      refine (c_eqX q ?_).trans (by rw [decide_eq_false (by simp)])
      show (if eqok (.lst o (x :: r)) (.lst o' []) = true then some (peq (.lst o (x :: r)) (.lst o' [])) else some false) = _
      rw [q]
      rfl)
/-- two dicts, the same -/
theorem c_eqDD {o o' o1 o2 o3 o4 : Bool} {B D : Dc} (nb : (B.map (·.1)).Nodup) (nd : (D.map (·.1)).Nodup) : cmpop .eq (.lst o [dC o1 B, dC o2 D]) (.lst o' [dC o3 B, dC o4 D]) = .ok (.bl true) := by
  have e : eqok (.lst o [dC o1 B, dC o2 D]) (.lst o' [dC o3 B, dC o4 D]) = false := rfl
  refine c_eqX e ?_
  show (if eqok (.lst o [dC o1 B, dC o2 D]) (.lst o' [dC o3 B, dC o4 D]) = true then some (peq (.lst o [dC o1 B, dC o2 D]) (.lst o' [dC o3 B, dC o4 D])) else allO [eqG 7 (dC o1 B) (dC o3 B), eqG 7 (dC o2 D) (dC o4 D)]) = _
  rw [e, eqG_dC nb, eqG_dC nd]
  rfl
end BW

/-! Words and their bits. -/
namespace BW
open PySem
/-- the bits, lowest first -/
def bitsL : Nat → Int → List Int
  | 0, _ => []
  | n + 1, x => x % 2 :: bitsL n (x / 2)
@[simp] theorem bitsL_len : ∀ n x, (bitsL n x).length = n
  | 0, _ => rfl
  | n + 1, x => by simp [bitsL, bitsL_len n]
theorem bitsL_snoc : ∀ n x, bitsL (n + 1) x = bitsL n x ++ [x / 2 ^ n % 2]
  | 0, x => by simp [bitsL]
  | n + 1, x => by
    have e : x / 2 / 2 ^ n = x / 2 ^ (n + 1) := by
      rw [Int.pow_succ, Int.mul_comm, Int.ediv_ediv_of_nonneg (by decide)]
    rw [bitsL, bitsL_snoc n (x / 2), bitsL, List.cons_append, e]
theorem bitsL_01 : ∀ n x b, b ∈ bitsL n x → b = 0 ∨ b = 1
  | 0, _, _, h => by cases h
  | n + 1, x, b, h => by
    rcases List.mem_cons.mp h with e | h
    · omega
    · exact bitsL_01 n _ b h
def weight : List Int → Int
  | [] => 0
  | b :: bs => b + 2 * weight bs
theorem weight_bits : ∀ n x, 0 ≤ x → x < 2 ^ n → weight (bitsL n x) = x
  | 0, x, h0, h1 => by
    have : x < 1 := h1
    show (0 : Int) = x
    omega
  | n + 1, x, h0, h1 => by
    rw [Int.pow_succ] at h1
    have q := weight_bits n (x / 2) (by omega) (by omega)
    show x % 2 + 2 * weight (bitsL n (x / 2)) = x
    rw [q]
    omega
theorem weight_snoc : ∀ (xs : List Int) (b : Int), weight (xs ++ [b]) = weight xs + b * 2 ^ xs.length
  | [], b => by
    show b + 2 * 0 = 0 + b * 1
    omega
  | x :: xs, b => by
    show x + 2 * weight (xs ++ [b]) = x + 2 * weight xs + b * 2 ^ (xs.length + 1)
    rw [weight_snoc xs b, Int.pow_succ, ← Int.mul_assoc, Int.mul_add, ← Int.add_assoc, Int.mul_comm 2 (b * _)]
theorem pow_pos2 (n : Nat) : (0 : Int) < 2 ^ n := Int.pow_pos (by decide)
theorem half_pow {n : Nat} {x : Int} (h : x < 2 ^ (n + 1)) : x / 2 < 2 ^ n := by
  rw [Int.pow_succ] at h
  omega
theorem bitsL_inj {n : Nat} {x y : Int} (x0 : 0 ≤ x) (x1 : x < 2 ^ n) (y0 : 0 ≤ y) (y1 : y < 2 ^ n) (h : bitsL n x = bitsL n y) : x = y := by
  rw [← weight_bits n x x0 x1, ← weight_bits n y y0 y1, h]
theorem bitsL_add : ∀ (n : Nat) (x k : Int), bitsL n (x + 2 ^ n * k) = bitsL n x
  | 0, _, _ => rfl
  | n + 1, x, k => by
    have e1 : (2 : Int) ^ (n + 1) * k = 2 * (2 ^ n * k) := by rw [Int.pow_succ, Int.mul_comm _ 2, Int.mul_assoc]
    have e2 : (x + 2 ^ (n + 1) * k) / 2 = x / 2 + 2 ^ n * k := by rw [e1]; omega
    have e3 : (x + 2 ^ (n + 1) * k) % 2 = x % 2 := by rw [e1]; omega
    rw [bitsL, bitsL, e2, e3, bitsL_add n]
theorem bitsL_mod (n : Nat) (x : Int) : bitsL n (x % 2 ^ n) = bitsL n x := by
  have e : x % 2 ^ n = x + 2 ^ n * (-(x / 2 ^ n)) := by
    have := Int.emod_add_mul_ediv x (2 ^ n)
    rw [Int.mul_neg]
    omega
  rw [e, bitsL_add]
theorem bits_not : ∀ (n : Nat) (x : Int), 0 ≤ x → x < 2 ^ n → bitsL n (2 ^ n - 1 - x) = (bitsL n x).map (1 - ·)
  | 0, _, _, _ => rfl
  | n + 1, x, h0, h1 => by
    have q := bits_not n (x / 2) (by omega) (half_pow h1)
    have p := pow_pos2 n
    have e : (2 : Int) ^ (n + 1) = 2 * 2 ^ n := by rw [Int.pow_succ, Int.mul_comm]
    have e1 : (2 ^ (n + 1) - 1 - x) % 2 = 1 - x % 2 := by rw [e]; omega
    have e2 : (2 ^ (n + 1) - 1 - x) / 2 = 2 ^ n - 1 - x / 2 := by rw [e]; omega
    rw [bitsL, bitsL, e1, e2, q]
    rfl
/-- bit by bit -/
theorem bits_two {g : Nat → Nat → Nat} {f : Int → Int → Int} (h2 : ∀ x y, g x y / 2 = g (x / 2) (y / 2)) (hm : ∀ x y : Nat, ((g x y % 2 : Nat) : Int) = f ((x % 2 : Nat) : Int) ((y % 2 : Nat) : Int)) : ∀ (n x y : Nat), bitsL n (g x y : Nat) = List.zipWith f (bitsL n x) (bitsL n y)
  | 0, _, _ => rfl
  | n + 1, x, y => by
    have q := bits_two h2 hm n (x / 2) (y / 2)
    have e1 : ((g x y : Nat) : Int) / 2 = ((g x y / 2 : Nat) : Int) := by omega
    have e2 : (x : Int) / 2 = ((x / 2 : Nat) : Int) := by omega
    have e3 : (y : Int) / 2 = ((y / 2 : Nat) : Int) := by omega
    rw [bitsL, bitsL, bitsL, List.zipWith_cons_cons, e1, e2, e3, h2, q]
    congr 1
    exact hm x y
theorem land2 (x y : Nat) : (x &&& y) / 2 = (x / 2) &&& (y / 2) ∧ (x &&& y) % 2 = (x % 2) * (y % 2) := by
  refine ⟨Nat.and_div_two, ?_⟩
  have e := Nat.and_mod_two_pow (a := x) (b := y) (n := 1)
  rw [Nat.pow_one] at e
  rw [e]
  have hx : x % 2 = 0 ∨ x % 2 = 1 := by omega
  have hy : y % 2 = 0 ∨ y % 2 = 1 := by omega
  rcases hx with h | h <;> rcases hy with k | k <;> rw [h, k] <;> rfl
theorem lor2 (x y : Nat) : (x ||| y) / 2 = (x / 2) ||| (y / 2) ∧ (x ||| y) % 2 = max (x % 2) (y % 2) := by
  refine ⟨Nat.or_div_two, ?_⟩
  have e := Nat.or_mod_two_pow (a := x) (b := y) (n := 1)
  rw [Nat.pow_one] at e
  rw [e]
  have hx : x % 2 = 0 ∨ x % 2 = 1 := by omega
  have hy : y % 2 = 0 ∨ y % 2 = 1 := by omega
  rcases hx with h | h <;> rcases hy with k | k <;> rw [h, k] <;> rfl
theorem lxor2 (x y : Nat) : (x ^^^ y) / 2 = (x / 2) ^^^ (y / 2) ∧ (x ^^^ y) % 2 = (x % 2 + y % 2) % 2 := by
  refine ⟨Nat.xor_div_two, ?_⟩
  have e := Nat.xor_mod_two_pow (a := x) (b := y) (n := 1)
  rw [Nat.pow_one] at e
  rw [e]
  have hx : x % 2 = 0 ∨ x % 2 = 1 := by omega
  have hy : y % 2 = 0 ∨ y % 2 = 1 := by omega
  rcases hx with h | h <;> rcases hy with k | k <;> rw [h, k] <;> rfl
theorem lor_eq : ∀ (n x y : Nat), x ≤ n → (x ||| y) = (x ^^^ y) + (x &&& y)
  | 0, x, y, h => by
    obtain rfl : x = 0 := by omega
    simp
  | n + 1, x, y, h => by
    by_cases q : x = 0
    · subst q
      simp
    · have ih := lor_eq n (x / 2) (y / 2) (by omega)
      have a := lor2 x y
      have b := lxor2 x y
      have c := land2 x y
      have hx : x % 2 = 0 ∨ x % 2 = 1 := by omega
      have hy : y % 2 = 0 ∨ y % 2 = 1 := by omega
      rcases hx with h | h <;> rcases hy with k | k <;> rw [h, k] at a b c <;> omega
theorem bAnd_nat {x y : Int} (h0 : 0 ≤ x) (h1 : 0 ≤ y) : Builtin.bitAnd x y = ((x.toNat &&& y.toNat : Nat) : Int) := by
  unfold Builtin.bitAnd
  rw [decide_eq_true h0, decide_eq_true h1]
theorem bOr_nat {x y : Int} (h0 : 0 ≤ x) (h1 : 0 ≤ y) : Builtin.bitOr x y = ((x.toNat ||| y.toNat : Nat) : Int) := by
  unfold Builtin.bitOr Builtin.bitAnd Builtin.bitNot
  rw [decide_eq_false (show ¬ (0 ≤ -x - 1) by omega), decide_eq_false (show ¬ (0 ≤ -y - 1) by omega)]
  dsimp only
  rw [show -(-x - 1) - 1 = x by omega, show -(-y - 1) - 1 = y by omega]
  omega
theorem bXor_nat {x y : Int} (h0 : 0 ≤ x) (h1 : 0 ≤ y) : Builtin.bitXor x y = ((x.toNat ^^^ y.toNat : Nat) : Int) := by
  unfold Builtin.bitXor
  rw [bOr_nat h0 h1, bAnd_nat h0 h1, lor_eq _ _ _ (Nat.le_refl _)]
  omega
theorem bits_and (n : Nat) {x y : Int} (h0 : 0 ≤ x) (h1 : 0 ≤ y) : bitsL n (Builtin.bitAnd x y) = List.zipWith (fun a b => a * b) (bitsL n x) (bitsL n y) := by
  rw [bAnd_nat h0 h1, bits_two (f := fun a b => a * b) (fun x y => (land2 x y).1) (fun x y => by rw [(land2 x y).2]; push_cast; rfl), Int.toNat_of_nonneg h0, Int.toNat_of_nonneg h1]
theorem bits_or (n : Nat) {x y : Int} (h0 : 0 ≤ x) (h1 : 0 ≤ y) : bitsL n (Builtin.bitOr x y) = List.zipWith (fun a b => max a b) (bitsL n x) (bitsL n y) := by
  rw [bOr_nat h0 h1, bits_two (f := fun a b => max a b) (fun x y => (lor2 x y).1) (fun x y => by rw [(lor2 x y).2]; omega), Int.toNat_of_nonneg h0, Int.toNat_of_nonneg h1]
theorem bits_xor (n : Nat) {x y : Int} (h0 : 0 ≤ x) (h1 : 0 ≤ y) : bitsL n (Builtin.bitXor x y) = List.zipWith (fun a b => (a + b) % 2) (bitsL n x) (bitsL n y) := by
  rw [bXor_nat h0 h1, bits_two (f := fun a b => (a + b) % 2) (fun x y => (lxor2 x y).1) (fun x y => by rw [(lxor2 x y).2]; omega), Int.toNat_of_nonneg h0, Int.toNat_of_nonneg h1]
/-- what is below -/
theorem bits_back {n : Nat} {x : Int} (g : Int) (h : ∀ b ∈ bitsL n x, b = 0 ∨ b = 1) : 0 ≤ weight (bitsL n x) ∧ weight (bitsL n x) < 2 ^ n := by
  have go : ∀ bs : List Int, (∀ b ∈ bs, b = 0 ∨ b = 1) → 0 ≤ weight bs ∧ weight bs < 2 ^ bs.length := fun bs => by
    induction bs with
    | nil => exact fun _ => ⟨Int.le_refl _, by decide⟩
    | cons b bs ih =>
      intro h
      have q := ih fun c hc => h c (List.mem_cons_of_mem _ hc)
      have r := h b List.mem_cons_self
      show 0 ≤ b + 2 * weight bs ∧ b + 2 * weight bs < 2 ^ (bs.length + 1)
      rw [Int.pow_succ]
      omega
  have q := go _ h
  rw [bitsL_len] at q
  exact q
theorem lt_and {n x y : Nat} (h : x < 2 ^ n) : x &&& y < 2 ^ n := Nat.lt_of_le_of_lt Nat.and_le_left h
theorem toNat_lt {n : Nat} {x : Int} (h : x < 2 ^ n) : x.toNat < 2 ^ n := by
  have e : ((2 ^ n : Nat) : Int) = 2 ^ n := by push_cast; rfl
  have p := pow_pos2 n
  omega
theorem lt_toNat {n k : Nat} (h : k < 2 ^ n) : (k : Int) < 2 ^ n := by
  have e : ((2 ^ n : Nat) : Int) = 2 ^ n := by push_cast; rfl
  omega
theorem and_rng {n : Nat} {x y : Int} (h0 : 0 ≤ x) (h1 : 0 ≤ y) (k0 : x < 2 ^ n) (k1 : y < 2 ^ n) : 0 ≤ Builtin.bitAnd x y ∧ Builtin.bitAnd x y < 2 ^ n := by
  rw [bAnd_nat h0 h1]
  exact ⟨by omega, lt_toNat (lt_and (toNat_lt k0))⟩
theorem or_rng {n : Nat} {x y : Int} (h0 : 0 ≤ x) (h1 : 0 ≤ y) (k0 : x < 2 ^ n) (k1 : y < 2 ^ n) : 0 ≤ Builtin.bitOr x y ∧ Builtin.bitOr x y < 2 ^ n := by
  rw [bOr_nat h0 h1]
  exact ⟨by omega, lt_toNat (Nat.or_lt_two_pow (toNat_lt k0) (toNat_lt k1))⟩
theorem xor_rng {n : Nat} {x y : Int} (h0 : 0 ≤ x) (h1 : 0 ≤ y) (k0 : x < 2 ^ n) (k1 : y < 2 ^ n) : 0 ≤ Builtin.bitXor x y ∧ Builtin.bitXor x y < 2 ^ n := by
  rw [bXor_nat h0 h1]
  exact ⟨by omega, lt_toNat (Nat.xor_lt_two_pow (toNat_lt k0) (toNat_lt k1))⟩
/-- a sum by a carry: the bits, then the last carry -/
def lsum : List Int → List Int → Int → List Int
  | x :: xs, y :: ys, c => (x + y + c) % 2 :: lsum xs ys ((x + y + c) / 2)
  | _, _, c => [c]
theorem lsum_bits : ∀ (n : Nat) (x y c : Int), 0 ≤ x → x < 2 ^ n → 0 ≤ y → y < 2 ^ n → (c = 0 ∨ c = 1) → lsum (bitsL n x) (bitsL n y) c = bitsL n (x + y + c) ++ [(x + y + c) / 2 ^ n]
  | 0, x, y, c, h0, h1, h2, h3, hc => by
    have a : x < 1 := h1
    have b : y < 1 := h3
    show [c] = [] ++ [(x + y + c) / 1]
    rw [List.nil_append]
    congr 1
    omega
  | n + 1, x, y, c, h0, h1, h2, h3, hc => by
    have q := lsum_bits n (x / 2) (y / 2) ((x % 2 + y % 2 + c) / 2) (by omega) (half_pow h1) (by omega) (half_pow h3) (by omega)
    have e1 : (x % 2 + y % 2 + c) % 2 = (x + y + c) % 2 := by omega
    have e2 : x / 2 + y / 2 + (x % 2 + y % 2 + c) / 2 = (x + y + c) / 2 := by omega
    have e3 : (x + y + c) / 2 / 2 ^ n = (x + y + c) / 2 ^ (n + 1) := by
      rw [Int.pow_succ, Int.mul_comm, Int.ediv_ediv_of_nonneg (by decide)]
    rw [e2, e3] at q
    show (x % 2 + y % 2 + c) % 2 :: lsum (bitsL n (x / 2)) (bitsL n (y / 2)) ((x % 2 + y % 2 + c) / 2) = (x + y + c) % 2 :: bitsL n ((x + y + c) / 2) ++ _
    rw [e1, q]
    rfl
theorem bits_plus {n : Nat} {x y : Int} (h0 : 0 ≤ x) (h1 : x < 2 ^ n) (h2 : 0 ≤ y) (h3 : y < 2 ^ n) : bitsL n ((x + y) % 2 ^ n) = (lsum (bitsL n x) (bitsL n y) 0).dropLast := by
  rw [lsum_bits n x y 0 h0 h1 h2 h3 (.inl rfl), List.dropLast_concat, bitsL_mod, Int.add_zero]
theorem bits_minus {n : Nat} {x y : Int} (h0 : 0 ≤ x) (h1 : x < 2 ^ n) (h2 : 0 ≤ y) (h3 : y < 2 ^ n) : bitsL n ((x - y) % 2 ^ n) = (lsum (bitsL n x) ((bitsL n y).map (1 - ·)) 1).dropLast := by
  rw [← bits_not n y h2 h3, lsum_bits n x _ 1 h0 h1 (by omega) (by omega) (.inr rfl), List.dropLast_concat, bitsL_mod]
  rw [← bitsL_add n (x - y) 1]
  congr 1
  omega
theorem last_less {n : Nat} {x y : Int} (h0 : 0 ≤ x) (h1 : x < 2 ^ n) (h2 : 0 ≤ y) (h3 : y < 2 ^ n) : lsum (bitsL n x) ((bitsL n y).map (1 - ·)) 1 = bitsL n (x - y + 2 ^ n) ++ [if x < y then 0 else 1] := by
  rw [← bits_not n y h2 h3, lsum_bits n x _ 1 h0 h1 (by omega) (by omega) (.inr rfl)]
  have e : x + (2 ^ n - 1 - y) + 1 = x - y + 2 ^ n := by omega
  rw [e]
  congr 2
  split
  · exact Int.ediv_eq_zero_of_lt (by omega) (by omega)
  · have : x - y + 2 ^ n = 1 * 2 ^ n + (x - y) := by omega
    rw [this, Int.add_comm, Int.add_mul_ediv_right _ _ (by omega), Int.ediv_eq_zero_of_lt (by omega) (by omega)]
    rfl
theorem bits_join {a b : Nat} {x y : Int} (h2 : 0 ≤ y) (h3 : y < 2 ^ b) : bitsL (a + b) (x * 2 ^ b + y) = bitsL b y ++ bitsL a x := by
  induction b generalizing y with
  | zero =>
    have : y < 1 := h3
    obtain rfl : y = 0 := by omega
    simp [bitsL]
  | succ b ih =>
    have e0 : x * 2 ^ (b + 1) = 2 * (x * 2 ^ b) := by rw [Int.pow_succ, ← Int.mul_assoc, Int.mul_comm]
    have e1 : (x * 2 ^ (b + 1) + y) / 2 = x * 2 ^ b + y / 2 := by rw [e0]; omega
    have e2 : (x * 2 ^ (b + 1) + y) % 2 = y % 2 := by rw [e0]; omega
    rw [← Nat.add_assoc, bitsL, e1, e2, ih (by omega) (half_pow h3)]
    rfl
theorem bits_drop : ∀ (lo n : Nat) (x : Int), (bitsL n x).drop lo = bitsL (n - lo) (x / 2 ^ lo)
  | 0, n, x => by simp
  | lo + 1, 0, x => by simp [bitsL]
  | lo + 1, n + 1, x => by
    rw [bitsL, List.drop_succ_cons, bits_drop lo n (x / 2), Nat.add_sub_add_right]
    congr 1
    rw [Int.pow_succ, Int.mul_comm, Int.ediv_ediv_of_nonneg (by decide)]
theorem bits_take : ∀ (k n : Nat) (x : Int), k ≤ n → (bitsL n x).take k = bitsL k x
  | 0, n, x, _ => by simp [bitsL]
  | k + 1, n + 1, x, h => by
    rw [bitsL, List.take_succ_cons, bits_take k n (x / 2) (by omega), bitsL]
theorem bits_part {lo many n : Nat} {x : Int} (h : lo + many ≤ n) : bitsL many (x / 2 ^ lo % 2 ^ many) = ((bitsL n x).drop lo).take many := by
  rw [bits_drop, bits_take _ _ _ (by omega), bitsL_mod]
end BW

/-! What a term is worth. -/
namespace BW
open PySem
@[simp] theorem evE_meth {cl : Cl} {env : PEnv} {k : Mth} {o : Ex} {es : Exs} : evE cl env (.meth k o es) = (evE cl env o).bind fun x => if mthOk k (frz x) = true then (evEs cl env es).bind fun vs => mthV k (frz x) (frzs vs) else .bad := nr rfl
@[simp] theorem evE_sset {cl : Cl} {env : PEnv} {a : Ex} : evE cl env (.sset a) = (evE cl env a).bind fun x => ssetV (frz x) := nr rfl
@[simp] theorem evE_items {cl : Cl} {env : PEnv} {a : Ex} : evE cl env (.items a) = (evE cl env a).bind fun x => itmV (frz x) := nr rfl
@[simp] theorem evI_zip {cl : Cl} {env : PEnv} {es : Exs} : evI cl env (.zip es) = (evEs cl env es).bind fun vs => (zipV (frzs vs)).bind fun xs => .ok (.tup vs, xs) := nr rfl
@[simp] theorem zipV_lst {o o' : Bool} {xs ys : List PV} : zipV [.lst o xs, .lst o' ys] = .ok (List.zipWith (fun x y => PV.tup [x, y]) (frzs xs) (frzs ys)) := nr rfl
@[simp] theorem mOk_count {o : Bool} {xs : List PV} : mthOk .count (.lst o xs) = true := nr rfl
@[simp] theorem mOk_index {o : Bool} {xs : List PV} : mthOk .index (.lst o xs) = true := nr rfl
@[simp] theorem mOk_join {x : Str} : mthOk .join (.str x) = true := nr rfl
@[simp] theorem mV_count {x y : PV} : mthV .count x [y] = cntV x y := nr rfl
@[simp] theorem mV_index {x y : PV} : mthV .index x [y] = ixV x y := nr rfl
@[simp] theorem mV_join {x y : PV} : mthV .join x [y] = joinV x y := nr rfl
@[simp] theorem bindT_2 {i j : Nat} {x y : PV} {env : PEnv} : bindT [i, j] (.tup [x, y]) env = .ok ((env.set i (some x)).set j (some y)) := by
  simp [bindT]
@[simp] theorem bindT_3 {i j k : Nat} {x y z : PV} {env : PEnv} : bindT [i, j, k] (.tup [x, y, z]) env = .ok (((env.set i (some x)).set j (some y)).set k (some z)) := by
  simp [bindT]
@[simp] theorem int_bl {b : Bool} : biV .int [.bl b] = .ok (.int (if b = true then 1 else 0)) := by cases b <;> exact nr rfl
@[simp] theorem int_int {i : Int} : biV .int [.int i] = .ok (.int i) := nr rfl
@[simp] theorem vI_zip {es : Exs} : vI (.zip es) = vEs es := nr rfl
@[simp] theorem aft_op {x : PV} {is : List Nat} {env : PEnv} (h : cls x = false) : aft x is env = frzV is env := if_neg (by rw [h]; decide)
@[simp] theorem vE_lc {t o : List Nat} {it : Iw} {c : Exo} {e : Ex} : vE (.lc t o it c e) = vI it ++ (vO c ++ vE e) := nr rfl
@[simp] theorem vE_slc {a : Ex} {l h : Exo} : vE (.slc a l h) = vE a ++ (vO l ++ vO h) := nr rfl
@[simp] theorem vO_none : vO .none = [] := nr rfl
@[simp] theorem vO_some {a : Ex} : vO (.some a) = vE a := nr rfl
@[simp] theorem sl_not {t : Tm} : slcop (Tm.not t).pv (some 1) none = .ok (.tup [t.pv]) := nr (by simp [Tm.pv])
@[simp] theorem sl_two {f : F2} {t u : Tm} : slcop (Tm.two f t u).pv (some 1) none = .ok (.tup [t.pv, u.pv]) := nr (by simp [Tm.pv])
@[simp] theorem sl_pick {c t u : Tm} : slcop (Tm.pick c t u).pv (some 1) none = .ok (.tup [c.pv, t.pv, u.pv]) := nr (by simp [Tm.pv])
@[simp] theorem vE_int {i : Int} : vE (.int i) = [] := nr rfl
@[simp] theorem vE_str {i : Str} : vE (.str i) = [] := nr rfl
@[simp] theorem vE_bl {i : Bool} : vE (.bl i) = [] := nr rfl
@[simp] theorem vE_con {i : Gk} : vE (.con i) = [] := nr rfl
@[simp] theorem vE_neg {a : Ex} : vE (.neg a) = vE a := nr rfl
@[simp] theorem vE_not {a : Ex} : vE (.not a) = vE a := nr rfl
@[simp] theorem vE_idx {a b : Ex} : vE (.idx a b) = vE a ++ vE b := nr rfl
@[simp] theorem vE_bin {o : Bop} {a b : Ex} : vE (.bin o a b) = vE a ++ vE b := nr rfl
@[simp] theorem vE_cmp {o : Cop} {a b : Ex} : vE (.cmp o a b) = vE a ++ vE b := nr rfl
@[simp] theorem vE_and {a b : Ex} : vE (.and a b) = vE a ++ vE b := nr rfl
@[simp] theorem vE_or {a b : Ex} : vE (.or a b) = vE a ++ vE b := nr rfl
@[simp] theorem vE_call {f : Nat} {es : Exs} : vE (.call f es) = vEs es := nr rfl
@[simp] theorem vE_bi {f : Bi} {es : Exs} : vE (.bi f es) = vEs es := nr rfl
@[simp] theorem vE_lst {es : Exs} : vE (.lst es) = vEs es := nr rfl
@[simp] theorem vE_tup {es : Exs} : vE (.tup es) = vEs es := nr rfl
def F2.v : F2 → Int → Int → Int → Int → Int
  | .and, _, _, x, y => Builtin.bitAnd x y
  | .or, _, _, x, y => Builtin.bitOr x y
  | .xor, _, _, x, y => Builtin.bitXor x y
  | .plus, a, _, x, y => (x + y) % 2 ^ a.toNat
  | .minus, a, _, x, y => (x - y) % 2 ^ a.toNat
  | .less, _, _, x, y => if x < y then 1 else 0
  | .same, _, _, x, y => if x = y then 1 else 0
  | .join, _, b, x, y => x * 2 ^ b.toNat + y
def Tm.val (B D E L O : Dc) : Tm → Int
  | .num _ x => x
  | .box z => (dG E z).getD 0
  | .late z => (dG L z).getD 0
  | .door z => (dG O z).getD 0
  | .not t => 2 ^ (t.wid B D).toNat - 1 - t.val B D E L O
  | .two f t u => f.v (t.wid B D) (u.wid B D) (t.val B D E L O) (u.val B D E L O)
  | .pick c t u => if c.val B D E L O = 1 then t.val B D E L O else u.val B D E L O
  | .part t lo many => t.val B D E L O / 2 ^ lo.toNat % 2 ^ many.toNat
/-- words of such widths -/
structure Wrd (B E : Dc) : Prop where
  keys : E.map (·.1) = B.map (·.1)
  rng : ∀ z a, dG B z = some a → ∃ v, dG E z = some v ∧ 0 ≤ v ∧ v < 2 ^ a.toNat
theorem Wrd.getD {B E : Dc} (h : Wrd B E) {z : Str} (e : (dG B z).isSome = true) : 0 ≤ (dG E z).getD 0 ∧ (dG E z).getD 0 < 2 ^ ((dG B z).getD 0).toNat := by
  obtain ⟨a, ha⟩ := Option.isSome_iff_exists.mp e
  obtain ⟨v, hv, h1, h2⟩ := h.rng z a ha
  rw [ha, hv]
  exact ⟨h1, h2⟩
theorem Wrd.some {B E : Dc} (h : Wrd B E) {z : Str} (e : (dG B z).isSome = true) : dG E z = some ((dG E z).getD 0) := by
  obtain ⟨a, ha⟩ := Option.isSome_iff_exists.mp e
  obtain ⟨v, hv, _⟩ := h.rng z a ha
  rw [hv]
  rfl
theorem dG_getD {B : Dc} {z : Str} (e : (dG B z).isSome = true) : dG B z = some ((dG B z).getD 0) := by
  obtain ⟨a, ha⟩ := Option.isSome_iff_exists.mp e
  rw [ha]
  rfl
theorem pow_2 (n : Nat) : (0 : Int) < 2 ^ n := Int.pow_pos (by decide)
theorem join_rng {a b : Nat} {x y : Int} (h0 : 0 ≤ x) (h1 : x < 2 ^ a) (h2 : 0 ≤ y) (h3 : y < 2 ^ b) : 0 ≤ x * 2 ^ b + y ∧ x * 2 ^ b + y < 2 ^ (a + b) := by
  have p := pow_2 b
  have m0 := Int.mul_nonneg h0 (Int.le_of_lt p)
  have m1 : (x + 1) * 2 ^ b ≤ 2 ^ a * 2 ^ b := Int.mul_le_mul_of_nonneg_right (by omega) (Int.le_of_lt p)
  rw [← Int.pow_add, Int.add_mul, Int.one_mul] at m1
  omega
theorem F2.v_rng {f : F2} {a b x y : Int} (a1 : 1 ≤ a) (b1 : 1 ≤ b) (hab : f ≠ .join → a = b) (h0 : 0 ≤ x) (h1 : x < 2 ^ a.toNat) (h2 : 0 ≤ y) (h3 : y < 2 ^ b.toNat) : 0 ≤ f.v a b x y ∧ f.v a b x y < 2 ^ (f.w a b).toNat := by
  cases f with
  | join =>
    have e : (a + b).toNat = a.toNat + b.toNat := by omega
    simp only [F2.v, F2.w, e]
    exact join_rng h0 h1 h2 h3
  | less => simp only [F2.v, F2.w]; split <;> simp
  | same => simp only [F2.v, F2.w]; split <;> simp
  | plus => exact ⟨Int.emod_nonneg _ (by have := pow_2 a.toNat; omega), Int.emod_lt_of_pos _ (pow_2 _)⟩
  | minus => exact ⟨Int.emod_nonneg _ (by have := pow_2 a.toNat; omega), Int.emod_lt_of_pos _ (pow_2 _)⟩
  | and => have := hab (by decide); subst this; exact and_rng h0 h2 h1 h3
  | or => have := hab (by decide); subst this; exact or_rng h0 h2 h1 h3
  | xor => have := hab (by decide); subst this; exact xor_rng h0 h2 h1 h3
theorem Tm.ok_two {B D : Dc} {f : F2} {t u : Tm} (h : (Tm.two f t u).ok B D) (n : f ≠ .join) : t.wid B D = u.wid B D := by
  have k := h.2.2
  rwa [if_neg n] at k
theorem Tm.val_rng {B D E L O : Dc} (hB : Wd B) (hD : Wd D) (hE : Wrd B E) (hL : Wrd B L) (hO : Wrd D O) : ∀ {t : Tm}, t.ok B D → 0 ≤ t.val B D E L O ∧ t.val B D E L O < 2 ^ (t.wid B D).toNat
  | .num _ _, h => h.2.2
  | .box z, h => hE.getD h
  | .late z, h => hL.getD h
  | .door z, h => hO.getD h
  | .not t, h => by
    have q := Tm.val_rng (t := t) hB hD hE hL hO h
    simp only [Tm.val, Tm.wid]
    omega
  | .two f t u, h => by
    have q := Tm.val_rng (t := t) hB hD hE hL hO h.1
    have r := Tm.val_rng (t := u) hB hD hE hL hO h.2.1
    exact F2.v_rng (Tm.wid_le hB hD h.1).1 (Tm.wid_le hB hD h.2.1).1 (Tm.ok_two h) q.1 q.2 r.1 r.2
  | .pick c t u, h => by
    have q := Tm.val_rng (t := t) hB hD hE hL hO h.2.1
    have r := Tm.val_rng (t := u) hB hD hE hL hO h.2.2.1
    rw [← h.2.2.2.2] at r
    simp only [Tm.val, Tm.wid]
    split <;> assumption
  | .part t lo many, h => ⟨Int.emod_nonneg _ (by have := pow_2 many.toNat; omega), Int.emod_lt_of_pos _ (pow_2 _)⟩
theorem bitsL_range (x : Int) : ∀ n : Nat, (List.range n).map (fun k => x / 2 ^ k % 2) = bitsL n x
  | 0 => rfl
  | n + 1 => by
    rw [List.range_succ, List.map_append, bitsL_range x n, bitsL_snoc]
    rfl
/-- a comprehension over range(n) -/
theorem lcL_rng {i : Nat} {e : PEnv → Res PV} {env : PEnv} {g : Nat → PV} {n : Nat} (h : ∀ k : Nat, k < n → e (env.set i (some (.int (k : Int)))) = .ok (g k)) (hl : n ≤ most) : lcL [i] (fun _ => .ok true) e env (rngI 0 (n : Int)) [] = .ok ((List.range n).map g) := by
  have e1 : rngI 0 (n : Int) = (List.range n).map fun (k : Nat) => PV.int (k : Int) := by
    unfold rngI
    rw [show ((n : Int) - 0).toNat = n by omega]
    exact List.map_congr_left fun k _ => by rw [Int.zero_add]
  have q := lcL_map (t := [i]) (e := e) (env := env) (g := fun x => match x with | .int k => g k.toNat | _ => .non) (xs := rngI 0 (n : Int)) (acc := []) (fun x hx => by
    rw [e1] at hx
    obtain ⟨k, hk, rfl⟩ := List.mem_map.mp hx
    exact ⟨_, rfl, h k (List.mem_range.mp hk)⟩) (by rw [e1]; simpa using hl)
  rw [q, e1]
  simp [Function.comp_def]
theorem pow_lt128 {k : Nat} (h : k ≤ 127) : (0 : Int) < 2 ^ k ∧ (2 : Int) ^ k < 2 ^ 128 := by
  refine ⟨pow_2 k, ?_⟩
  have : (2 : Nat) ^ k < 2 ^ 128 := Nat.pow_lt_pow_right (by decide) (by omega)
  exact_mod_cast this
theorem lcL_bits {i : Nat} {e : PEnv → Res PV} {env : PEnv} {x : Int} {n : Nat} (h : ∀ k : Nat, k < n → e (env.set i (some (.int (k : Int)))) = .ok (.int (x / 2 ^ k % 2))) (hl : n ≤ 1000) : lcL [i] (fun _ => .ok true) e env (rngI 0 (n : Int)) [] = .ok ((bitsL n x).map PV.int) := by
  rw [lcL_rng (g := fun k => .int (x / 2 ^ k % 2)) h (by unfold most; omega), ← bitsL_range, List.map_map]
  rfl
/-- .. over two lists of ints, zipped -/
theorem lcL_zip {i j : Nat} {e : PEnv → Res PV} {env : PEnv} {g : Int → Int → Int} : ∀ {xs ys : List Int} {acc : List PV}, (∀ x ∈ xs, ∀ y ∈ ys, e ((env.set i (some (.int x))).set j (some (.int y))) = .ok (.int (g x y))) → acc.length + xs.length ≤ most →
    lcL [i, j] (fun _ => .ok true) e env (List.zipWith (fun x y => PV.tup [.int x, .int y]) xs ys) acc = .ok (acc ++ (List.zipWith g xs ys).map PV.int)
  | [], ys, acc, h, hl => by simp
  | x :: xs, [], acc, h, hl => by simp
  | x :: xs, y :: ys, acc, h, hl => by
    have ih := lcL_zip (i := i) (j := j) (e := e) (env := env) (g := g) (xs := xs) (ys := ys) (acc := acc ++ [.int (g x y)]) (fun a ha b hb => h a (List.mem_cons_of_mem _ ha) b (List.mem_cons_of_mem _ hb)) (by simp at hl ⊢; omega)
    have e1 := h x List.mem_cons_self y List.mem_cons_self
    have ha : acc.length < most := by simp at hl; omega
    simp only [List.zipWith_cons_cons, lcL_cons]
    rw [bindT_2]
    show lcS [i, j] (fun _ => .ok true) e env _ acc ((env.set i (some (.int x))).set j (some (.int y))) = _
    rw [lcS_t, e1]
    show (if acc.length < most then _ else _) = _
    rw [if_pos ha, ih]
    simp
theorem cut_m1 {α : Type} {xs : List α} : cutP xs none (some (-1)) = xs.dropLast := by
  have e : HT.sIx xs.length xs.length (some (-1)) = xs.length - 1 := by
    show (if (-1 : Int) < 0 then ((-1 : Int) + (xs.length : Int)).toNat else min (-1 : Int).toNat xs.length) = xs.length - 1
    rw [if_pos (by decide)]
    omega
  unfold cutP
  rw [e]
  simp [HT.sIx, List.dropLast_eq_take]
theorem cut_mid {α : Type} {xs : List α} {lo many : Int} (h0 : 0 ≤ lo) (h1 : 0 ≤ many) (h : lo + many ≤ xs.length) : cutP xs (some lo) (some (lo + many)) = (xs.drop lo.toNat).take many.toNat := by
  have e1 : HT.sIx xs.length 0 (some lo) = lo.toNat := by
    show (if lo < 0 then (lo + (xs.length : Int)).toNat else min lo.toNat xs.length) = lo.toNat
    rw [if_neg (by omega)]
    omega
  have e2 : HT.sIx xs.length xs.length (some (lo + many)) = lo.toNat + many.toNat := by
    show (if lo + many < 0 then (lo + many + (xs.length : Int)).toNat else min (lo + many).toNat xs.length) = lo.toNat + many.toNat
    rw [if_neg (by omega)]
    omega
  unfold cutP
  rw [e1, e2]
  congr 1
  omega
@[simp] theorem c_eqInts {o o' : Bool} {xs ys : List Int} : cmpop .eq (.lst o (xs.map PV.int)) (.lst o' (ys.map PV.int)) = .ok (.bl (decide (xs = ys))) := nr (by
  rw [c_eq eqok_ints, peq_ints])
/-- five dicts, the same -/
theorem c_eqD5 {o o' o1 o2 o3 o4 o5 p1 p2 p3 p4 p5 : Bool} {A B C D E : Dc} (na : (A.map (·.1)).Nodup) (nb : (B.map (·.1)).Nodup) (nc : (C.map (·.1)).Nodup) (nd : (D.map (·.1)).Nodup) (ne : (E.map (·.1)).Nodup) :
    cmpop .eq (.lst o [dC o1 A, dC o2 B, dC o3 C, dC o4 D, dC o5 E]) (.lst o' [dC p1 A, dC p2 B, dC p3 C, dC p4 D, dC p5 E]) = .ok (.bl true) := by
  have e : eqok (.lst o [dC o1 A, dC o2 B, dC o3 C, dC o4 D, dC o5 E]) (.lst o' [dC p1 A, dC p2 B, dC p3 C, dC p4 D, dC p5 E]) = false := rfl
  refine c_eqX e ?_
  show (if eqok (.lst o [dC o1 A, dC o2 B, dC o3 C, dC o4 D, dC o5 E]) (.lst o' [dC p1 A, dC p2 B, dC p3 C, dC p4 D, dC p5 E]) = true then some (peq (.lst o [dC o1 A, dC o2 B, dC o3 C, dC o4 D, dC o5 E]) (.lst o' [dC p1 A, dC p2 B, dC p3 C, dC p4 D, dC p5 E]))
    else allO [eqG 7 (dC o1 A) (dC p1 A), eqG 7 (dC o2 B) (dC p2 B), eqG 7 (dC o3 C) (dC p3 C), eqG 7 (dC o4 D) (dC p4 D), eqG 7 (dC o5 E) (dC p5 E)]) = _
  rw [e, eqG_dC na, eqG_dC nb, eqG_dC nc, eqG_dC nd, eqG_dC ne]
  rfl
@[simp] theorem ixL3 {o : Bool} {x y z u : PV} {xs : List PV} : idxop (.lst o (x :: y :: z :: u :: xs)) (.int 3) = .ok (frz u) := nr (ix_at (L2.atI_nat (xs := x :: y :: z :: u :: xs) (j := 3) rfl))
@[simp] theorem ixL4 {o : Bool} {x y z u v : PV} {xs : List PV} : idxop (.lst o (x :: y :: z :: u :: v :: xs)) (.int 4) = .ok (frz v) := nr (ix_at (L2.atI_nat (xs := x :: y :: z :: u :: v :: xs) (j := 4) rfl))
def extS (x : Nat) (ys : List PV) (env : PEnv) : Option (Option PV) → RS
  | some (some (.lst true xs)) => if xs.length + ys.length ≤ most then .fl (.next (env.set x (some (.lst true (xs ++ frzs ys))))) else .bad
  | _ => .bad
@[simp] theorem muS_ext {x : Nat} {o : Bool} {ys : List PV} {env : PEnv} : muS x .extend [.lst o ys] env = extS x ys env env[x]? := by
  unfold muS extS
  cases env[x]? with
  | none => rfl
  | some q =>
    cases q with
    | none => rfl
    | some v =>
      cases v with
      | lst o' xs =>
        cases o' with
        | false => rfl
        | true =>
          by_cases h : xs.length + ys.length ≤ most
          · simp [muV, h]
          · simp [muV, h]
      | _ => rfl
@[simp] theorem extS_l {x : Nat} {xs ys : List PV} {env : PEnv} (h : xs.length + ys.length ≤ most) : extS x ys env (some (some (.lst true xs))) = .fl (.next (env.set x (some (.lst true (xs ++ frzs ys))))) := if_pos h
theorem bitsL_one {x : Int} (h : x = 0 ∨ x = 1) : bitsL 1 x = [x] := by
  rcases h with rfl | rfl <;> rfl
/-! changes at a place -/
section
variable {cl : Cl} {w : Nat} {env : PEnv} {p : Px} {m : Mu} {es : Exs} {a b : Ex} {x : Nat} {v k : PV} {o : Bool} {xs : List PV} {B D : Dc} {is : List Nat}
@[simp] theorem evS_pmut : evS cl w env (.pmut p m es) = RS.of (evP cl env p) env fun q => if isLO q.2 = true then RS.of (evEs cl env es) env fun vs => pmuS p.root q m vs (vEs es) env else .bad := nr rfl
@[simp] theorem evS_pput : evS cl w env (.pput p a b) = RS.of (evE cl env b) env fun v => RS.of (evP cl env p) env fun q => if isDO q.2 = true then RS.of (evE cl env a) env fun j => pputS p.root q (frz j) v (vE b) env else .bad := nr rfl
@[simp] theorem evS_lput : evS cl w env (.lput p a b) = RS.of (evE cl env b) env fun v => RS.of (evP cl env p) env fun q => if isLO q.2 = true then RS.of (evE cl env a) env fun j => lputS p.root q (frz j) v (vE b) env else .bad := nr rfl
@[simp] theorem lputS_app {q : List PV} : lputS x (q, .lst true xs) k v is env = if (cls v || !decide (x ∈ is)) = true then (match atJ xs.length k with
    | some j => chS x q (.lst true (xs.set j v)) (aft v is env) env[x]?
    | none => .bad) else .bad := nr rfl
@[simp] theorem evS_upd : evS cl w env (.upd x a) = if isDv0 env[x]? = true then RS.of (evE cl env a) env fun v => updS x (frz v) (vE a) env env[x]? else .bad := nr rfl
@[simp] theorem evS_pclr : evS cl w env (.pclr p) = RS.of (evP cl env p) env fun q => pclrS p.root q env := nr rfl
@[simp] theorem evP_var : evP cl env (.var x) = rootV env[x]? := nr rfl
@[simp] theorem evP_idx : evP cl env (.idx p a) = (evP cl env p).bind fun q => (evE cl env a).bind fun k => stepV (frz k) q (getK q.2 (frz k)) := nr rfl
@[simp] theorem root_var : (Px.var x).root = x := nr rfl
@[simp] theorem root_idx : (Px.idx p a).root = p.root := nr rfl
@[simp] theorem rootV_some : rootV (some (some v)) = .ok ([], v) := nr rfl
@[simp] theorem stepV_some {q : List PV × PV} : stepV k q (some v) = .ok (q.1 ++ [k], v) := nr rfl
@[simp] theorem isLO_lst : isLO (.lst true xs) = true := nr rfl
@[simp] theorem isDO_dct {ks : List DKey} : isDO (.dct true ks xs) = true := nr rfl
@[simp] theorem isDO_dC : isDO (dC true D) = true := nr rfl
@[simp] theorem isDv0_dct {ks : List DKey} : isDv0 (some (some (.dct true ks xs))) = true := nr rfl
@[simp] theorem isDv0_dC : isDv0 (some (some (dC true D))) = true := nr rfl
end
def mgD : Dc → Dc → Dc
  | B, [] => B
  | B, (z, v) :: D => mgD (dP B z v) D
theorem mrg_dC : ∀ (D B : Dc), mrg (kD B) (vD B) (kD D) (vD D) = (kD (mgD B D), vD (mgD B D))
  | [], B => rfl
  | (z, v) :: D, B => by
    show mrg (putD (kD B) (vD B) (.inr z) (.int v)).1 (putD (kD B) (vD B) (.inr z) (.int v)).2 (kD D) (vD D) = _
    rw [put_kD]
    exact mrg_dC D (dP B z v)
theorem mgD_len : ∀ (D B : Dc), (mgD B D).length ≤ B.length + D.length
  | [], B => Nat.le_refl _
  | (z, v) :: D, B => by
    have h1 := mgD_len D (dP B z v)
    have h2 := dP_len B z v
    simp only [mgD, List.length_cons]
    omega
theorem vD_flat : ∀ D : Dc, (vD D).all flat = true
  | [] => rfl
  | (z, v) :: D => vD_flat D
@[simp] theorem updS_dC {x : Nat} {o : Bool} {is : List Nat} {env : PEnv} {B D : Dc} : updS x (dC o D) is env (some (some (dC true B))) = if (!decide (x ∈ is) && decide (B.length + D.length ≤ most)) = true then .fl (.next (env.set x (some (dC true (mgD B D))))) else .bad := nr (by
  show (if ((vD D).all flat && (!decide (x ∈ is) && decide ((kD B).length + (kD D).length ≤ most))) = true then RS.fl (.next (env.set x (some (.dct true (mrg (kD B) (vD B) (kD D) (vD D)).1 (mrg (kD B) (vD B) (kD D) (vD D)).2)))) else .bad) = _
  rw [vD_flat, Bool.true_and, kD_len, kD_len, mrg_dC]
  rfl)
theorem dG_dS : ∀ (D : Dc) (z : Str) (v : Int) (y : Str), dG (dS D z v) y = if z = y then (dG D y).map (fun _ => v) else dG D y
  | [], z, v, y => by
    show none = _
    split <;> rfl
  | (k, u) :: D, z, v, y => by
    show (if k = y then some (if k = z then v else u) else dG (dS D z v) y) = if z = y then (if k = y then some u else dG D y).map (fun _ => v) else if k = y then some u else dG D y
    rw [dG_dS D z v y]
    by_cases h1 : k = y
    · subst h1
      by_cases h2 : z = k
      · subst h2
        simp
      · simp [h2, Ne.symm h2]
    · simp [h1]
theorem dG_snoc : ∀ (D : Dc) (z : Str) (v : Int) (y : Str), dG (D ++ [(z, v)]) y = if (dG D y).isSome = true then dG D y else if z = y then some v else none
  | [], z, v, y => rfl
  | (k, u) :: D, z, v, y => by
    show (if k = y then some u else dG (D ++ [(z, v)]) y) = if (if k = y then some u else dG D y).isSome = true then (if k = y then some u else dG D y) else _
    rw [dG_snoc D z v y]
    by_cases h1 : k = y <;> simp [h1]
theorem dG_dP (D : Dc) (z : Str) (v : Int) (y : Str) : dG (dP D z v) y = if z = y then some v else dG D y := by
  unfold dP
  by_cases h : (dG D z).isSome = true
  · rw [if_pos h, dG_dS]
    by_cases q : z = y
    · subst q
      obtain ⟨a, ha⟩ := Option.isSome_iff_exists.mp h
      simp [ha]
    · simp [q]
  · rw [if_neg h, dG_snoc]
    by_cases q : z = y
    · subst q
      simp [h]
    · cases r : dG D y <;> simp [q, r]
theorem mgD_get : ∀ (D B : Dc) (y : Str), dG (mgD B D) y = none → dG B y = none ∧ dG D y = none
  | [], B, y, h => ⟨h, rfl⟩
  | (z, v) :: D, B, y, h => by
    obtain ⟨h1, h2⟩ := mgD_get D (dP B z v) y h
    rw [dG_dP] at h1
    by_cases q : z = y
    · rw [if_pos q] at h1
      cases h1
    · rw [if_neg q] at h1
      refine ⟨h1, ?_⟩
      show (if z = y then some v else dG D y) = none
      rw [if_neg q, h2]
@[simp] theorem c_neNil {o o' : Bool} : cmpop .ne (.lst o []) (.lst o' []) = .ok (.bl false) := nr rfl
mutual
theorem eqv_rf : ∀ x : PV, PyData.eqv (toD x) (toD x) = true
  | .non => rfl
  | .bl b => by cases b <;> rfl
  | .int i => by show (i == i) = true; simp
  | .str z => by show (z == z) = true; simp
  | .tup xs => eqv_rfs xs
  | .lst _ xs => eqv_rfs xs
  | .dct _ _ _ => rfl
  | .exn _ => rfl
  | .scr _ => rfl
  | .ftp xs => eqv_rfs xs
theorem eqv_rfs : ∀ xs : List PV, PyData.eqvAll (toDs xs) (toDs xs) = true
  | [] => rfl
  | x :: xs => by
    show (PyData.eqv (toD x) (toD x) && PyData.eqvAll (toDs xs) (toDs xs)) = true
    rw [eqv_rf x, eqv_rfs xs]
    rfl
end
theorem peq_rf (x : PV) : peq x x = true := eqv_rf x
theorem c_neSame {x y : PV} (h : eqok x y = true) (e : toD x = toD y) : cmpop .ne x y = .ok (.bl false) := by
  rw [c_ne h]
  unfold peq
  rw [e, eqv_rf y]
  rfl
theorem c_eqSame {x y : PV} (h : eqok x y = true) (e : toD x = toD y) : cmpop .eq x y = .ok (.bl true) := by
  rw [c_eq h]
  unfold peq
  rw [e, eqv_rf y]
theorem okDs_strs {n : Nat} : ∀ xs : List Str, okDs n (xs.map PV.str) = true
  | [] => by cases n <;> rfl
  | x :: xs => by cases n <;> exact okDs_strs xs
/-- one turn -/
theorem forL_step {i : Nat} {b : PEnv → RS} {x : PV} {xs : List PV} {env env2 : PEnv} (h : b (env.set i (some x)) = .fl (.next env2)) : forL [i] b (x :: xs) env = forL [i] b xs env2 := by
  show RS.of (bindT [i] x env) env _ = _
  simp [h]
@[simp] theorem forL_nil {t : List Nat} {b : PEnv → RS} {env : PEnv} : forL t b [] env = .fl (.next env) := nr rfl
@[simp] theorem chS_some {x : Nat} {ks : List PV} {y v : PV} {env : PEnv} : chS x ks y env (some (some v)) = .fl (.next (env.set x (some (setPv v ks y)))) := nr rfl
@[simp] theorem pmuS_app {x : Nat} {ks : List PV} {xs : List PV} {v : PV} {is : List Nat} {env : PEnv} : pmuS x (ks, .lst true xs) .append [v] is env = if (cls v || !decide (x ∈ is)) = true then (if xs.length < most then chS x ks (.lst true (xs ++ [v])) (aft (.tup [v]) is env) env[x]? else .bad) else .bad := nr (by
  show (if ((cls v && true) || !decide (x ∈ is)) = true then (match (if xs.length < most then some (xs ++ [v]) else none) with
    | some ys => chS x ks (.lst true ys) (aft (.tup [v]) is env) env[x]?
    | none => .bad) else .bad) = _
  rw [Bool.and_true]
  by_cases h : xs.length < most <;> simp [h])
@[simp] theorem pmuS_clr {x : Nat} {ks : List PV} {xs : List PV} {is : List Nat} {env : PEnv} : pmuS x (ks, .lst true xs) .clear [] is env = chS x ks (.lst true []) env env[x]? := nr rfl
@[simp] theorem pclrS_lst {x : Nat} {ks : List PV} {xs : List PV} {env : PEnv} : pclrS x (ks, .lst true xs) env = chS x ks (.lst true []) env env[x]? := nr rfl
@[simp] theorem pclrS_dct {x : Nat} {ks : List PV} {dk : List DKey} {xs : List PV} {env : PEnv} : pclrS x (ks, .dct true dk xs) env = chS x ks (.dct true [] []) env env[x]? := nr rfl
@[simp] theorem pclrS_dC {x : Nat} {ks : List PV} {D : Dc} {env : PEnv} : pclrS x (ks, dC true D) env = chS x ks (dC true []) env env[x]? := nr rfl
@[simp] theorem bindT_3l {o : Bool} {i j k : Nat} {x y z : PV} {env : PEnv} : bindT [i, j, k] (.lst o [x, y, z]) env = .ok (((env.set i (some x)).set j (some y)).set k (some z)) := by
  simp [bindT]
@[simp] theorem bindT_2l {o : Bool} {i j : Nat} {x y : PV} {env : PEnv} : bindT [i, j] (.lst o [x, y]) env = .ok ((env.set i (some x)).set j (some y)) := by
  simp [bindT]
@[simp] theorem isTup_tm {t : Tm} : biV .isTuple [t.pv] = .ok (.bl true) := nr (by cases t <;> rfl)
@[simp] theorem isTup_int {i : Int} : biV .isTuple [.int i] = .ok (.bl false) := nr rfl
@[simp] theorem isTup_str {i : Str} : biV .isTuple [.str i] = .ok (.bl false) := nr rfl
@[simp] theorem isStr_str {i : Str} : biV .isStr [.str i] = .ok (.bl true) := nr rfl
@[simp] theorem sl_num {a x : Int} : slcop (Tm.num a x).pv (some 1) none = .ok (.tup [.int a, .int x]) := nr (by simp [Tm.pv])
@[simp] theorem sl_box {z : Str} : slcop (Tm.box z).pv (some 1) none = .ok (.tup [.str z]) := nr (by simp [Tm.pv])
@[simp] theorem sl_late {z : Str} : slcop (Tm.late z).pv (some 1) none = .ok (.tup [.str z]) := nr (by simp [Tm.pv])
@[simp] theorem sl_door {z : Str} : slcop (Tm.door z).pv (some 1) none = .ok (.tup [.str z]) := nr (by simp [Tm.pv])
@[simp] theorem sl_part {t : Tm} {a b : Int} : slcop (Tm.part t a b).pv (some 1) none = .ok (.tup [t.pv, .int a, .int b]) := nr (by simp [Tm.pv])
section
variable {a b c y : PV}
@[simp] theorem gK_t0 {r : List PV} : getK (.tup (a :: r)) (.int 0) = some a := nr (L2.atI_nat (xs := a :: r) (j := 0) rfl)
@[simp] theorem gK_t1 {r : List PV} : getK (.tup (a :: b :: r)) (.int 1) = some b := nr (L2.atI_nat (xs := a :: b :: r) (j := 1) rfl)
@[simp] theorem gK_t2 {r : List PV} : getK (.tup (a :: b :: c :: r)) (.int 2) = some c := nr (L2.atI_nat (xs := a :: b :: c :: r) (j := 2) rfl)
@[simp] theorem gK_l0 {r : List PV} : getK (.lst true (a :: r)) (.int 0) = some a := nr (L2.atI_nat (xs := a :: r) (j := 0) rfl)
@[simp] theorem gK_l1 {r : List PV} : getK (.lst true (a :: b :: r)) (.int 1) = some b := nr (L2.atI_nat (xs := a :: b :: r) (j := 1) rfl)
@[simp] theorem gK_l2 {r : List PV} : getK (.lst true (a :: b :: c :: r)) (.int 2) = some c := nr (L2.atI_nat (xs := a :: b :: c :: r) (j := 2) rfl)
@[simp] theorem sP_t0 : setPv (.tup [a, b, c]) [.int 0] y = .tup [y, b, c] := nr rfl
@[simp] theorem sP_t1 : setPv (.tup [a, b, c]) [.int 1] y = .tup [a, y, c] := nr rfl
@[simp] theorem sP_t2 : setPv (.tup [a, b, c]) [.int 2] y = .tup [a, b, y] := nr rfl
@[simp] theorem sP_l0 : setPv (.lst true [a, b, c]) [.int 0] y = .lst true [y, b, c] := nr rfl
@[simp] theorem sP_l1 : setPv (.lst true [a, b, c]) [.int 1] y = .lst true [a, y, c] := nr rfl
@[simp] theorem sP_l2 : setPv (.lst true [a, b, c]) [.int 2] y = .lst true [a, b, y] := nr rfl
end
end BW

/-! Loops as folds, comprehensions over ranges, tables of marks. -/
namespace BW
open PySem
theorem rngI_map (n : Nat) : rngI 0 (n : Int) = (List.range n).map fun k : Nat => PV.int (k : Int) := by
  unfold rngI
  rw [show ((n : Int) - 0).toNat = n by omega]
  simp
/-- a loop is a fold -/
theorem forL_fold {t : List Nat} {b : PEnv → RS} {α σ : Type} {f : α → PV} (E : σ → PEnv) (step : σ → α → σ) (P : σ → Prop) : ∀ (xs : List α) (s : σ), P s → (∀ s, P s → ∀ x ∈ xs, P (step s x) ∧ ∃ env1, bindT t (f x) (E s) = .ok env1 ∧ (b env1 = .fl (.next (E (step s x))) ∨ b env1 = .fl (.cont (E (step s x))))) →
    forL t b (xs.map f) (E s) = .fl (.next (E (xs.foldl step s))) ∧ P (xs.foldl step s)
  | [], s, hs, _ => ⟨rfl, hs⟩
  | x :: xs, s, hs, h => by
    obtain ⟨h0, e1, h1, h2⟩ := h s hs x List.mem_cons_self
    obtain ⟨q1, q2⟩ := forL_fold E step P xs (step s x) h0 fun s hs y hy => h s hs y (List.mem_cons_of_mem _ hy)
    refine ⟨?_, q2⟩
    show RS.of (bindT t (f x) (E s)) (E s) _ = _
    rw [h1]
    rcases h2 with h2 | h2 <;> simp only [RS.of_ok, h2] <;> exact q1
/-- a comprehension over a range -/
theorem lcR {i : Nat} {e : PEnv → Res PV} {env : PEnv} {n : Nat} (g : Nat → PV) (h : ∀ k, k < n → e (env.set i (some (.int (k : Int)))) = .ok (g k)) (hl : n ≤ most) : lcL [i] (fun _ => .ok true) e env (rngI 0 (n : Int)) [] = .ok ((List.range n).map g) := by
  rw [rngI_map, lcL_map (g := fun v => match v with | .int k => g k.toNat | v => v) (fun v hv => by
    obtain ⟨k, hk, rfl⟩ := List.mem_map.mp hv
    exact ⟨_, bindT1, by simpa using h k (List.mem_range.mp hk)⟩) (by simpa using hl)]
  simp [Function.comp_def]
/-- a comprehension over what is read one by one -/
theorem lcM {α : Type} {t : List Nat} {e : PEnv → Res PV} {env : PEnv} {xs : List α} {f : α → PV} (g : α → PV) (h : ∀ x ∈ xs, ∃ env1, bindT t (f x) env = .ok env1 ∧ e env1 = .ok (g x)) (hl : xs.length ≤ most) : lcL t (fun _ => .ok true) e env (xs.map f) [] = .ok (xs.map g) := by
  have key : ∀ (xs : List α) (acc : List PV), (∀ x ∈ xs, ∃ env1, bindT t (f x) env = .ok env1 ∧ e env1 = .ok (g x)) → acc.length + xs.length ≤ most → lcL t (fun _ => .ok true) e env (xs.map f) acc = .ok (acc ++ xs.map g) := fun xs => by
    induction xs with
    | nil =>
      intro acc _ _
      simp [lcL]
    | cons x xs ih =>
      intro acc h hl
      obtain ⟨env1, h1, h2⟩ := h x List.mem_cons_self
      rw [List.length_cons] at hl
      rw [List.map_cons]
      unfold lcL
      rw [h1, Res.bind_ok, Res.bind_ok, if_pos rfl, h2, Res.bind_ok, if_pos (by omega), ih _ (fun y hy => h y (List.mem_cons_of_mem _ hy)) (by rw [List.length_append, List.length_singleton]; omega), List.append_assoc]
      rfl
  rw [key xs [] h (by simpa using hl), List.nil_append]
/-- .. with a test -/
theorem lcF {α : Type} {t : List Nat} {c : PEnv → Res Bool} {e : PEnv → Res PV} {env : PEnv} {xs : List α} {f : α → PV} (p : α → Bool) (g : α → PV) (h : ∀ x ∈ xs, ∃ env1, bindT t (f x) env = .ok env1 ∧ c env1 = .ok (p x) ∧ (p x = true → e env1 = .ok (g x))) (hl : xs.length ≤ most) : lcL t c e env (xs.map f) [] = .ok ((xs.filter p).map g) := by
  have key : ∀ (xs : List α) (acc : List PV), (∀ x ∈ xs, ∃ env1, bindT t (f x) env = .ok env1 ∧ c env1 = .ok (p x) ∧ (p x = true → e env1 = .ok (g x))) → acc.length + xs.length ≤ most → lcL t c e env (xs.map f) acc = .ok (acc ++ (xs.filter p).map g) := fun xs => by
    induction xs with
    | nil =>
      intro acc _ _
      simp [lcL]
    | cons x xs ih =>
      intro acc h hl
      obtain ⟨env1, h1, h2, h3⟩ := h x List.mem_cons_self
      rw [List.length_cons] at hl
      rw [List.map_cons]
      unfold lcL
      rw [h1, Res.bind_ok, h2, Res.bind_ok]
      cases q : p x with
      | true =>
        rw [if_pos rfl, h3 q, Res.bind_ok, if_pos (by omega), ih _ (fun y hy => h y (List.mem_cons_of_mem _ hy)) (by rw [List.length_append, List.length_singleton]; omega), List.append_assoc, List.filter_cons_of_pos q]
        rfl
      | false =>
        rw [if_neg (by decide), ih _ (fun y hy => h y (List.mem_cons_of_mem _ hy)) (by omega), List.filter_cons_of_neg (by rw [q]; decide)]
  rw [key xs [] h (by simpa using hl), List.nil_append]
@[simp] theorem ix_ints {o : Bool} {xs : List Int} {k : Nat} (h : k < xs.length) : idxop (.lst o (xs.map PV.int)) (.int (k : Int)) = .ok (.int (xs.getD k 0)) := nr (by
  rw [ix_map h]
  simp [List.getD_eq_getElem?_getD, List.getElem?_eq_getElem h])
theorem zip_range {g : Int → Int → Int} : ∀ (xs ys : List Int), xs.length = ys.length → (List.range xs.length).map (fun k => g (xs.getD k 0) (ys.getD k 0)) = List.zipWith g xs ys
  | [], [], _ => rfl
  | [], _ :: _, h => by cases h
  | _ :: _, [], h => by cases h
  | x :: xs, y :: ys, h => by
    rw [List.length_cons, List.range_succ_eq_map, List.map_cons, List.map_map]
    refine congrArg (g x y :: ·) ?_
    rw [← zip_range xs ys (by simpa using h)]
    rfl
/-! names that a term reads -/
inductive Nf where
  | box | late | door
def Nf.s : Nf → Str
  | .box => "box"
  | .late => "late"
  | .door => "door"
/-- the names behind a form, as they stand -/
def Tm.nms (k : Nf) : Tm → List Str
  | .num _ _ => []
  | .box z => if k matches .box then [z] else []
  | .late z => if k matches .late then [z] else []
  | .door z => if k matches .door then [z] else []
  | .not t => Tm.nms k t
  | .two _ t u => Tm.nms k t ++ Tm.nms k u
  | .pick c t u => Tm.nms k c ++ (Tm.nms k t ++ Tm.nms k u)
  | .part t _ _ => Tm.nms k t
theorem nms_len (k : Nf) : ∀ t : Tm, ((Tm.nms k t).length : Int) ≤ t.parts
  | .num _ _ => by simp [Tm.nms, Tm.parts]
  | .box z => by cases k <;> simp [Tm.nms, Tm.parts]
  | .late z => by cases k <;> simp [Tm.nms, Tm.parts]
  | .door z => by cases k <;> simp [Tm.nms, Tm.parts]
  | .not t => by have := nms_len k t; simp only [Tm.nms, Tm.parts]; omega
  | .two f t u => by have := nms_len k t; have := nms_len k u; simp only [Tm.nms, Tm.parts, List.length_append]; omega
  | .pick c t u => by have := nms_len k c; have := nms_len k t; have := nms_len k u; simp only [Tm.nms, Tm.parts, List.length_append]; omega
  | .part t _ _ => by have := nms_len k t; simp only [Tm.nms, Tm.parts]; omega
theorem nms_sub (k : Nf) (t : Tm) (h : t.sub ≠ []) : Tm.nms k t = (t.sub.map (Tm.nms k)).flatten := by
  cases t <;> simp [Tm.sub] at h <;> simp [Tm.nms, Tm.sub]
section
variable {B D : Dc}
theorem nms_in {k : Nf} {s t : Tm} (h : s ∈ t.sub) {z : Str} (hz : z ∈ Tm.nms k s) : z ∈ Tm.nms k t := by
  rw [nms_sub k t (fun e => by rw [e] at h; cases h)]
  exact List.mem_flatten.mpr ⟨_, List.mem_map.mpr ⟨s, h, rfl⟩, hz⟩
theorem nms_okB : ∀ {t : Tm}, t.ok B D → ∀ z ∈ Tm.nms .box t, (dG B z).isSome = true
  | .num _ _, _, z, hz => nomatch hz
  | .box y, h, z, hz => by rw [List.mem_singleton.mp (show z ∈ [y] from hz)]; exact h
  | .late _, _, z, hz => nomatch hz
  | .door _, _, z, hz => nomatch hz
  | .not t, h, z, hz => nms_okB (t := t) h z hz
  | .two f t u, h, z, hz => (List.mem_append.mp hz).elim (nms_okB h.1 z) (nms_okB h.2.1 z)
  | .pick c t u, h, z, hz => (List.mem_append.mp hz).elim (nms_okB h.1 z) fun hz => (List.mem_append.mp hz).elim (nms_okB h.2.1 z) (nms_okB h.2.2.1 z)
  | .part t _ _, h, z, hz => nms_okB (t := t) h.1 z hz
theorem nms_okL : ∀ {t : Tm}, t.ok B D → ∀ z ∈ Tm.nms .late t, (dG B z).isSome = true
  | .num _ _, _, z, hz => nomatch hz
  | .late y, h, z, hz => by rw [List.mem_singleton.mp (show z ∈ [y] from hz)]; exact h
  | .box _, _, z, hz => nomatch hz
  | .door _, _, z, hz => nomatch hz
  | .not t, h, z, hz => nms_okL (t := t) h z hz
  | .two f t u, h, z, hz => (List.mem_append.mp hz).elim (nms_okL h.1 z) (nms_okL h.2.1 z)
  | .pick c t u, h, z, hz => (List.mem_append.mp hz).elim (nms_okL h.1 z) fun hz => (List.mem_append.mp hz).elim (nms_okL h.2.1 z) (nms_okL h.2.2.1 z)
  | .part t _ _, h, z, hz => nms_okL (t := t) h.1 z hz
theorem nms_okD : ∀ {t : Tm}, t.ok B D → ∀ z ∈ Tm.nms .door t, (dG D z).isSome = true
  | .num _ _, _, z, hz => nomatch hz
  | .door y, h, z, hz => by rw [List.mem_singleton.mp (show z ∈ [y] from hz)]; exact h
  | .box _, _, z, hz => nomatch hz
  | .late _, _, z, hz => nomatch hz
  | .not t, h, z, hz => nms_okD (t := t) h z hz
  | .two f t u, h, z, hz => (List.mem_append.mp hz).elim (nms_okD h.1 z) (nms_okD h.2.1 z)
  | .pick c t u, h, z, hz => (List.mem_append.mp hz).elim (nms_okD h.1 z) fun hz => (List.mem_append.mp hz).elim (nms_okD h.2.1 z) (nms_okD h.2.2.1 z)
  | .part t _ _, h, z, hz => nms_okD (t := t) h.1 z hz
end
theorem ddp_len : ∀ xs : List Str, (ddp xs).length ≤ xs.length
  | [] => Nat.le_refl _
  | x :: xs => by
    have := ddp_len xs
    unfold ddp
    split <;> simp <;> omega
/-- the names read, each once, rising -/
def rds (k : Nf) (t : Tm) : List Str := srt leT (ddp (Tm.nms k t))
theorem rds_mem {k : Nf} {t : Tm} {z : Str} : z ∈ rds k t ↔ z ∈ Tm.nms k t := by
  unfold rds
  rw [(srt_perm leT _).mem_iff, ddp_mem]
theorem rds_len (k : Nf) (t : Tm) : ((rds k t).length : Int) ≤ t.parts := by
  unfold rds
  rw [(srt_perm leT _).length_eq]
  have := ddp_len (Tm.nms k t)
  have := nms_len k t
  omega
/-! marks -/
def isM (a : Int) : Prop := a = 0 ∨ a = 1 ∨ a = 2
def mNot (a : Int) : Int := if a = 0 then 1 else if a = 1 then 0 else 2
def mAnd (a b : Int) : Int := if a = 0 ∨ b = 0 then 0 else if a < b then b else a
def mOr (a b : Int) : Int := if a = 1 ∨ b = 1 then 1 else if a < b then b else a
def mXor (a b : Int) : Int := if a = 2 ∨ b = 2 then 2 else if a = b then 0 else 1
def cnt3 (v a b c : Int) : Nat := (if a = v then 1 else 0) + (if b = v then 1 else 0) + (if c = v then 1 else 0)
def mCar (a b c : Int) : Int := if 2 ≤ cnt3 1 a b c then 1 else if 2 ≤ cnt3 0 a b c then 0 else 2
def mSum : List Int → List Int → Int → List Int × Int
  | x :: xs, y :: ys, c => (mXor (mXor x y) c :: (mSum xs ys (mCar x y c)).1, (mSum xs ys (mCar x y c)).2)
  | _, _, c => ([], c)
def mSame (xs ys : List Int) : Int := if 1 ∈ List.zipWith mXor xs ys then 0 else if 2 ∈ List.zipWith mXor xs ys then 2 else 1
def mPick (c : Int) (xs ys : List Int) : List Int := if c = 1 then xs else if c = 0 then ys else List.zipWith (fun a b => if a = b then a else 2) xs ys
def F2.dim : F2 → List Int → List Int → List Int
  | .and, xs, ys => List.zipWith mAnd xs ys
  | .or, xs, ys => List.zipWith mOr xs ys
  | .xor, xs, ys => List.zipWith mXor xs ys
  | .plus, xs, ys => (mSum xs ys 0).1
  | .minus, xs, ys => (mSum xs (ys.map mNot) 1).1
  | .less, xs, ys => [mNot (mSum xs (ys.map mNot) 1).2]
  | .same, xs, ys => [mSame xs ys]
  | .join, xs, ys => ys ++ xs
/-- dicts of lists of whole numbers -/
abbrev Dm := List (Str × List Int)
def mG : Dm → Str → Option (List Int)
  | [], _ => none
  | (k, v) :: D, z => if k = z then some v else mG D z
def lsV (o : Bool) (xs : List Int) : PV := .lst o (xs.map PV.int)

def Tm.dim (E L O : Dm) : Tm → List Int
  | .num a x => bitsL a.toNat x
  | .box z => (mG E z).getD []
  | .late z => (mG L z).getD []
  | .door z => (mG O z).getD []
  | .not t => (t.dim E L O).map mNot
  | .two f t u => f.dim (t.dim E L O) (u.dim E L O)
  | .pick c t u => mPick ((c.dim E L O).headD 0) (t.dim E L O) (u.dim E L O)
  | .part t lo many => ((t.dim E L O).drop lo.toNat).take many.toNat
/-- marks for a dict of widths -/
structure Mrk (B : Dc) (E : Dm) : Prop where
  at_ : ∀ z a, dG B z = some a → ∃ xs, mG E z = some xs ∧ xs.length = a.toNat ∧ ∀ x ∈ xs, isM x
/-- marks for the names that a term reads -/
structure Mk (B D : Dc) (E L O : Dm) (t : Tm) : Prop where
  b : ∀ z ∈ Tm.nms .box t, ∀ a, dG B z = some a → ∃ xs, mG E z = some xs ∧ xs.length = a.toNat ∧ ∀ x ∈ xs, isM x
  l : ∀ z ∈ Tm.nms .late t, ∀ a, dG B z = some a → ∃ xs, mG L z = some xs ∧ xs.length = a.toNat ∧ ∀ x ∈ xs, isM x
  d : ∀ z ∈ Tm.nms .door t, ∀ a, dG D z = some a → ∃ xs, mG O z = some xs ∧ xs.length = a.toNat ∧ ∀ x ∈ xs, isM x
theorem Mk.of {B D : Dc} {E L O : Dm} (hE : Mrk B E) (hL : Mrk B L) (hO : Mrk D O) (t : Tm) : Mk B D E L O t := ⟨fun z _ a => hE.at_ z a, fun z _ a => hL.at_ z a, fun z _ a => hO.at_ z a⟩
theorem Mk.sub {B D : Dc} {E L O : Dm} {s t : Tm} (M : Mk B D E L O t) (h : s ∈ t.sub) : Mk B D E L O s := ⟨fun z hz => M.b z (nms_in h hz), fun z hz => M.l z (nms_in h hz), fun z hz => M.d z (nms_in h hz)⟩
theorem isM_not {a : Int} (h : isM a) : isM (mNot a) := by
  rcases h with rfl | rfl | rfl
  · exact .inr (.inl rfl)
  · exact .inl rfl
  · exact .inr (.inr rfl)
theorem isM_dec : ∀ a b c : Fin 3, (mAnd a.1 b.1 < 3 ∧ 0 ≤ mAnd a.1 b.1) ∧ (mOr a.1 b.1 < 3 ∧ 0 ≤ mOr a.1 b.1) ∧ (mXor a.1 b.1 < 3 ∧ 0 ≤ mXor a.1 b.1) ∧ mCar a.1 b.1 c.1 < 3 ∧ 0 ≤ mCar a.1 b.1 c.1 := by decide
theorem isM_fin {a : Int} (h : isM a) : ∃ k : Fin 3, a = (k.1 : Int) := by
  rcases h with rfl | rfl | rfl
  · exact ⟨0, rfl⟩
  · exact ⟨1, rfl⟩
  · exact ⟨2, rfl⟩
theorem isM_of {a : Int} (h : a < 3 ∧ 0 ≤ a) : isM a := by unfold isM; omega
theorem isM_and {a b : Int} (h : isM a) (k : isM b) : isM (mAnd a b) := by
  obtain ⟨i, rfl⟩ := isM_fin h
  obtain ⟨j, rfl⟩ := isM_fin k
  exact isM_of (isM_dec i j 0).1
theorem isM_or {a b : Int} (h : isM a) (k : isM b) : isM (mOr a b) := by
  obtain ⟨i, rfl⟩ := isM_fin h
  obtain ⟨j, rfl⟩ := isM_fin k
  exact isM_of (isM_dec i j 0).2.1
theorem isM_xor {a b : Int} (h : isM a) (k : isM b) : isM (mXor a b) := by
  obtain ⟨i, rfl⟩ := isM_fin h
  obtain ⟨j, rfl⟩ := isM_fin k
  exact isM_of (isM_dec i j 0).2.2.1
theorem isM_car {a b c : Int} (h : isM a) (k : isM b) (l : isM c) : isM (mCar a b c) := by
  obtain ⟨i, rfl⟩ := isM_fin h
  obtain ⟨j, rfl⟩ := isM_fin k
  obtain ⟨m, rfl⟩ := isM_fin l
  exact isM_of (isM_dec i j m).2.2.2
theorem isM_zip {g : Int → Int → Int} (hg : ∀ a b, isM a → isM b → isM (g a b)) : ∀ {xs ys : List Int}, (∀ x ∈ xs, isM x) → (∀ y ∈ ys, isM y) → ∀ z ∈ List.zipWith g xs ys, isM z
  | [], _, _, _, z, h => by cases h
  | _ :: _, [], _, _, z, h => by cases h
  | x :: xs, y :: ys, hx, hy, z, h => by
    rcases List.mem_cons.mp h with e | h
    · rw [e]
      exact hg _ _ (hx x List.mem_cons_self) (hy y List.mem_cons_self)
    · exact isM_zip hg (fun a z => hx a (List.mem_cons_of_mem _ z)) (fun a z => hy a (List.mem_cons_of_mem _ z)) z h
theorem isM_sum : ∀ {xs ys : List Int} {c : Int}, (∀ x ∈ xs, isM x) → (∀ y ∈ ys, isM y) → isM c → (∀ z ∈ (mSum xs ys c).1, isM z) ∧ isM (mSum xs ys c).2
  | [], _, c, _, _, hc => ⟨fun z h => by simp [mSum] at h, by simpa [mSum] using hc⟩
  | _ :: _, [], c, _, _, hc => ⟨fun z h => by simp [mSum] at h, by simpa [mSum] using hc⟩
  | x :: xs, y :: ys, c, hx, hy, hc => by
    have h1 := hx x List.mem_cons_self
    have h2 := hy y List.mem_cons_self
    obtain ⟨q1, q2⟩ := isM_sum (xs := xs) (ys := ys) (c := mCar x y c) (fun a z => hx a (List.mem_cons_of_mem _ z)) (fun a z => hy a (List.mem_cons_of_mem _ z)) (isM_car h1 h2 hc)
    refine ⟨fun z h => ?_, q2⟩
    rcases List.mem_cons.mp h with e | h
    · rw [e]
      exact isM_xor (isM_xor h1 h2) hc
    · exact q1 z h
theorem mSum_len : ∀ {xs ys : List Int} {c : Int}, xs.length = ys.length → (mSum xs ys c).1.length = xs.length
  | [], _, _, _ => rfl
  | _ :: _, [], _, h => by cases h
  | x :: xs, y :: ys, c, h => congrArg Nat.succ (mSum_len (by simpa using h))
theorem isM_same {xs ys : List Int} : isM (mSame xs ys) := by
  unfold mSame
  split
  · exact .inl rfl
  · split
    · exact .inr (.inr rfl)
    · exact .inr (.inl rfl)
theorem isM_pick {c : Int} {xs ys : List Int} (hx : ∀ x ∈ xs, isM x) (hy : ∀ y ∈ ys, isM y) : ∀ z ∈ mPick c xs ys, isM z := by
  unfold mPick
  split
  · exact hx
  · split
    · exact hy
    · refine isM_zip (fun a b h k => ?_) hx hy
      split
      · exact h
      · exact .inr (.inr rfl)
theorem mPick_len {c : Int} {xs ys : List Int} (h : xs.length = ys.length) : (mPick c xs ys).length = xs.length := by
  unfold mPick
  split
  · rfl
  · split
    · exact h.symm
    · simp [h]
/-- a half-known worth has as many marks as the term is wide -/
theorem Tm.dim_is {B D : Dc} {E L O : Dm} (hB : Wd B) (hD : Wd D) : ∀ {t : Tm}, t.ok B D → Mk B D E L O t → (t.dim E L O).length = (t.wid B D).toNat ∧ ∀ x ∈ t.dim E L O, isM x
  | .num a x, h, M => ⟨bitsL_len _ _, fun b hb => (bitsL_01 _ _ b hb).elim .inl fun e => .inr (.inl e)⟩
  | .box z, h, M => by
    obtain ⟨a, ha⟩ := Option.isSome_iff_exists.mp h
    obtain ⟨xs, e, l, m⟩ := M.b z (by simp [Tm.nms]) a ha
    simp only [Tm.dim, Tm.wid, e, ha, Option.getD_some]
    exact ⟨l, m⟩
  | .late z, h, M => by
    obtain ⟨a, ha⟩ := Option.isSome_iff_exists.mp h
    obtain ⟨xs, e, l, m⟩ := M.l z (by simp [Tm.nms]) a ha
    simp only [Tm.dim, Tm.wid, e, ha, Option.getD_some]
    exact ⟨l, m⟩
  | .door z, h, M => by
    obtain ⟨a, ha⟩ := Option.isSome_iff_exists.mp h
    obtain ⟨xs, e, l, m⟩ := M.d z (by simp [Tm.nms]) a ha
    simp only [Tm.dim, Tm.wid, e, ha, Option.getD_some]
    exact ⟨l, m⟩
  | .not t, h, M => by
    obtain ⟨l, m⟩ := Tm.dim_is (t := t) hB hD h (M.sub (by simp [Tm.sub]))
    refine ⟨by simpa [Tm.dim, Tm.wid] using l, fun x hx => ?_⟩
    obtain ⟨y, hy, rfl⟩ := List.mem_map.mp hx
    exact isM_not (m y hy)
  | .two f t u, h, M => by
    obtain ⟨l1, m1⟩ := Tm.dim_is (t := t) hB hD h.1 (M.sub (by simp [Tm.sub]))
    obtain ⟨l2, m2⟩ := Tm.dim_is (t := u) hB hD h.2.1 (M.sub (by simp [Tm.sub]))
    have w1 := Tm.wid_le hB hD h.1
    have w2 := Tm.wid_le hB hD h.2.1
    have hw := h.2.2
    have mn : ∀ y ∈ (u.dim E L O).map mNot, isM y := fun y hy => by
      obtain ⟨z, hz, rfl⟩ := List.mem_map.mp hy
      exact isM_not (m2 z hz)
    have le : f ≠ .join → (t.dim E L O).length = (u.dim E L O).length := fun n => by
      rw [if_neg n] at hw
      rw [l1, l2, hw]
    have ln : f ≠ .join → (t.dim E L O).length = ((u.dim E L O).map mNot).length := fun n => by
      rw [List.length_map]
      exact le n
    cases f with
    | and => exact ⟨by simp [Tm.dim, F2.dim, Tm.wid, F2.w, ← le (by decide), l1], isM_zip (fun a b => isM_and) m1 m2⟩
    | or => exact ⟨by simp [Tm.dim, F2.dim, Tm.wid, F2.w, ← le (by decide), l1], isM_zip (fun a b => isM_or) m1 m2⟩
    | xor => exact ⟨by simp [Tm.dim, F2.dim, Tm.wid, F2.w, ← le (by decide), l1], isM_zip (fun a b => isM_xor) m1 m2⟩
    | plus => exact ⟨by simp [Tm.dim, F2.dim, Tm.wid, F2.w, mSum_len (le (by decide)), l1], (isM_sum m1 m2 (.inl rfl)).1⟩
    | minus => exact ⟨by simp [Tm.dim, F2.dim, Tm.wid, F2.w, mSum_len (ln (by decide)), l1], (isM_sum m1 mn (.inr (.inl rfl))).1⟩
    | less => exact ⟨rfl, fun x hx => by
        rw [List.mem_singleton.mp hx]
        exact isM_not (isM_sum m1 mn (.inr (.inl rfl))).2⟩
    | same => exact ⟨rfl, fun x hx => by
        rw [List.mem_singleton.mp hx]
        exact isM_same⟩
    | join => exact ⟨by simp [Tm.dim, F2.dim, Tm.wid, F2.w, l1, l2]; omega, fun x hx => (List.mem_append.mp hx).elim (m2 x) (m1 x)⟩
  | .pick c t u, h, M => by
    obtain ⟨l1, m1⟩ := Tm.dim_is (t := t) hB hD h.2.1 (M.sub (by simp [Tm.sub]))
    obtain ⟨l2, m2⟩ := Tm.dim_is (t := u) hB hD h.2.2.1 (M.sub (by simp [Tm.sub]))
    exact ⟨by
      show (mPick _ _ _).length = _
      rw [mPick_len (by rw [l1, l2, h.2.2.2.2]), l1]
      rfl, isM_pick m1 m2⟩
  | .part t lo many, h, M => by
    obtain ⟨l1, m1⟩ := Tm.dim_is (t := t) hB hD h.1 (M.sub (by simp [Tm.sub]))
    refine ⟨?_, fun x hx => m1 x (List.mem_of_mem_drop (List.mem_of_mem_take hx))⟩
    have := h.2
    simp only [Tm.dim, Tm.wid, List.length_take, List.length_drop, l1]
    omega
/-! dicts of lists, as values -/
theorem look_dM : ∀ (D : Dm) (z : Str), dlook (D.map fun p => (.inr p.1 : DKey)) (D.map fun p => lsV true p.2) (.inr z) = (mG D z).map (lsV true)
  | [], _ => rfl
  | (k, v) :: D, z => by
    show (if (Sum.inr k : DKey) = .inr z then some (lsV true v) else dlook (D.map fun p => .inr p.1) (D.map fun p => lsV true p.2) (.inr z)) = (if k = z then some v else mG D z).map (lsV true)
    by_cases q : k = z
    · rw [if_pos (by rw [q]), if_pos q]
      rfl
    · rw [if_neg fun e => q (Sum.inr.inj e), if_neg q, look_dM D z]
theorem look_dF : ∀ (D : Dm) (z : Str), dlook (D.map fun p => (.inr p.1 : DKey)) (D.map fun p => lsV false p.2) (.inr z) = (mG D z).map (lsV false)
  | [], _ => rfl
  | (k, v) :: D, z => by
    show (if (Sum.inr k : DKey) = .inr z then some (lsV false v) else dlook (D.map fun p => .inr p.1) (D.map fun p => lsV false p.2) (.inr z)) = (if k = z then some v else mG D z).map (lsV false)
    by_cases q : k = z
    · rw [if_pos (by rw [q]), if_pos q]
      rfl
    · rw [if_neg fun e => q (Sum.inr.inj e), if_neg q, look_dF D z]
theorem lsV_eq (o : Bool) (xs : List Int) : lsV o xs = .lst o (xs.map PV.int) := rfl
@[simp] theorem frz_lsV {o : Bool} {xs : List Int} : frz (lsV o xs) = lsV false xs := nr (by simp [lsV])
@[simp] theorem cls_lsV {o : Bool} {xs : List Int} : cls (lsV o xs) = o := nr (by simp [lsV])
theorem frzs_lsV (o : Bool) : ∀ D : Dm, frzs (D.map fun p => lsV o p.2) = D.map fun p => lsV false p.2
  | [] => rfl
  | p :: D => by rw [List.map_cons, frzs_cons, frz_lsV, frzs_lsV o D]; rfl
theorem clss_lsV : ∀ D : Dm, clss (D.map fun p => lsV true p.2) = true
  | [] => rfl
  | p :: D => by rw [List.map_cons, clss_cons, cls_lsV, clss_lsV D]; rfl
/-- o the dict's mark, o2 its lists' -/
def dMM (o o2 : Bool) (D : Dm) : PV := .dct o (D.map fun p => .inr p.1) (D.map fun p => lsV o2 p.2)
@[simp] theorem frz_dMM {o o2 : Bool} {D : Dm} : frz (dMM o o2 D) = dMM false false D := nr (by
  show PV.dct false _ (frzs _) = _
  rw [frzs_lsV]
  rfl)
@[simp] theorem cls_dMM {D : Dm} : cls (dMM true true D) = true := nr (by
  show (true && clss _) = true
  rw [clss_lsV]
  rfl)
theorem ix_dMM {o : Bool} {D : Dm} {z : Str} {xs : List Int} (h : mG D z = some xs) : idxop (dMM o false D) (.str z) = .ok (.lst false (xs.map PV.int)) := by
  have := ix_dct (o := o) (ks := D.map fun p => .inr p.1) (xs := D.map fun p => lsV false p.2) (z := z) (y := lsV false xs) (by rw [look_dF, h]; rfl)
  rw [frz_lsV] at this
  exact this
@[simp] theorem in_dMM {o o2 : Bool} {D : Dm} {z : Str} : cmpop .isin (.str z) (dMM o o2 D) = .ok (.bl (mG D z).isSome) := nr (by
  show Res.ok (PV.bl (dlook (D.map fun p => .inr p.1) (D.map fun p => lsV o2 p.2) (.inr z)).isSome) = _
  cases o2
  · rw [look_dF]
    cases mG D z <;> rfl
  · rw [look_dM]
    cases mG D z <;> rfl)
@[simp] theorem isDv_dMM {o o2 : Bool} {D : Dm} : isDv (some (some (dMM o o2 D))) = true := nr rfl
theorem sub_lt {t z : Tm} (h : z ∈ t.sub) : z.deep + 1 ≤ t.deep := by
  cases t <;> simp [Tm.sub] at h
  case not t => subst h; simp [Tm.deep]
  case part t a b => subst h; simp [Tm.deep]
  case two f t u => rcases h with rfl | rfl <;> simp only [Tm.deep] <;> omega
  case pick c t u => rcases h with rfl | rfl | rfl <;> simp only [Tm.deep] <;> omega
/-! in, of plain data -/
theorem din_map {α : Type} [DecidableEq α] {f : α → PV} (hp : ∀ a b, peq (f a) (f b) = decide (a = b)) (a : α) : ∀ xs : List α, din (f a) (xs.map f) = decide (a ∈ xs)
  | [] => (decide_eq_false (List.not_mem_nil)).symm
  | x :: xs => by
    show (peq (f x) (f a) || din (f a) (xs.map f)) = _
    rw [hp, din_map hp a xs]
    by_cases q : x = a
    · simp [q]
    · have q2 : ¬ a = x := fun e => q e.symm
      simp [q, q2]
theorem okDs_map {α : Type} {f : α → PV} {n : Nat} (ho : ∀ a, okD n (f a) = true) : ∀ xs : List α, okDs n (xs.map f) = true
  | [] => by cases n <;> rfl
  | x :: xs => by
    show (okD n (f x) && okDs n (xs.map f)) = true
    rw [ho, okDs_map ho xs]
    rfl
theorem c_inData {α : Type} [DecidableEq α] {f : α → PV} (hf : ∀ a, flat (f a) = false) (ho : ∀ a, okD 63 (f a) = true) (hp : ∀ a b, peq (f a) (f b) = decide (a = b)) (a : α) (xs : List α) (o : Bool) [Decidable (a ∈ xs)] :
    cmpop .isin (f a) (.lst o (xs.map f)) = .ok (.bl (decide (a ∈ xs))) ∧ cmpop .notin (f a) (.lst o (xs.map f)) = .ok (.bl (!decide (a ∈ xs))) ∧ cmpop .isin (f a) (.tup (xs.map f)) = .ok (.bl (decide (a ∈ xs))) ∧ cmpop .notin (f a) (.tup (xs.map f)) = .ok (.bl (!decide (a ∈ xs))) := by
  have c1 : ¬ (flat (f a) && (xs.map f).all flat) = true := by rw [hf]; simp
  have c2 : (okD 63 (f a) && okDs 63 (xs.map f)) = true := by rw [ho, okDs_map ho]; rfl
  have dm : din (f a) (xs.map f) = decide (a ∈ xs) := by
    rw [din_map hp]
    exact decide_eq_decide.mpr Iff.rfl
  have key : ∀ neg, inop neg (f a) (.lst o (xs.map f)) = .ok (.bl (if neg then !decide (a ∈ xs) else decide (a ∈ xs))) := fun neg => by
    show (if _ = true then _ else if _ = true then _ else _) = _
    rw [if_neg c1, if_pos c2, dm]
  have key2 : ∀ neg, inop neg (f a) (.tup (xs.map f)) = .ok (.bl (if neg then !decide (a ∈ xs) else decide (a ∈ xs))) := fun neg => by
    show (if _ = true then _ else if _ = true then _ else _) = _
    rw [if_neg c1, if_pos c2, dm]
  exact ⟨key false, key true, key2 false, key2 true⟩
def pI (p : Int × Int) : PV := .tup [.int p.1, .int p.2]
theorem pI_eq (a b : Int × Int) : peq (pI a) (pI b) = decide (a = b) := by
  show ((a.1 == b.1) && ((a.2 == b.2) && true)) = _
  rw [Bool.and_true, Bool.eq_iff_iff]
  simp [Prod.ext_iff]
theorem pI_in (p : Int × Int) (xs : List (Int × Int)) (o : Bool) : cmpop .isin (pI p) (.lst o (xs.map pI)) = .ok (.bl (decide (p ∈ xs))) :=
  (c_inData (f := pI) (fun _ => rfl) (fun _ => rfl) pI_eq p xs o).1
def pS (p : Str × Str) : PV := .tup [.str p.1, .str p.2]
theorem pS_eq (a b : Str × Str) : peq (pS a) (pS b) = decide (a = b) := by
  show ((a.1 == b.1) && ((a.2 == b.2) && true)) = _
  rw [Bool.and_true, Bool.eq_iff_iff]
  simp [Prod.ext_iff]
theorem pS_in (p : Str × Str) (xs : List (Str × Str)) (o : Bool) : cmpop .isin (pS p) (.lst o (xs.map pS)) = .ok (.bl (decide (p ∈ xs))) ∧ cmpop .notin (pS p) (.lst o (xs.map pS)) = .ok (.bl (!decide (p ∈ xs))) ∧ cmpop .isin (pS p) (.tup (xs.map pS)) = .ok (.bl (decide (p ∈ xs))) ∧ cmpop .notin (pS p) (.tup (xs.map pS)) = .ok (.bl (!decide (p ∈ xs))) :=
  c_inData (f := pS) (fun _ => rfl) (fun _ => rfl) pS_eq p xs o
@[simp] theorem int_in {o : Bool} {v : Int} {xs : List Int} : cmpop .isin (.int v) (.lst o (xs.map PV.int)) = .ok (.bl (decide (v ∈ xs))) := nr (by
  have fl : ∀ zs : List Int, (zs.map PV.int).all flat = true := fun zs => by induction zs with | nil => rfl | cons z zs ih => simpa using ih
  have fi : ∀ zs : List Int, fin (.int v) (zs.map PV.int) = decide (v ∈ zs) := fun zs => by
    induction zs with
    | nil => rfl
    | cons z zs ih =>
      rw [List.map_cons, fin_cons, feq_int, ih]
      by_cases q : z = v
      · simp [q]
      · have q2 : ¬ v = z := fun e => q e.symm
        simp [q, q2]
  show (if (flat (.int v) && (xs.map PV.int).all flat) = true then Res.ok (PV.bl (fin (.int v) (xs.map PV.int))) else _) = _
  rw [if_pos (by rw [fl]; rfl), fi])
/-- a comprehension over a range, with a test -/
theorem lcRF {i : Nat} {c : PEnv → Res Bool} {e : PEnv → Res PV} {env : PEnv} {n : Nat} (p : Nat → Bool) (g : Nat → PV) (h : ∀ k, k < n → c (env.set i (some (.int (k : Int)))) = .ok (p k) ∧ (p k = true → e (env.set i (some (.int (k : Int)))) = .ok (g k))) (hl : n ≤ most) : lcL [i] c e env (rngI 0 (n : Int)) [] = .ok (((List.range n).filter p).map g) := by
  rw [rngI_map]
  exact lcF p g (fun k hk => ⟨_, bindT1, h k (List.mem_range.mp hk)⟩) (by simpa using hl)
theorem mG_app (z : Str) (xs : List Int) (y : Str) : ∀ E : Dm, mG (E ++ [(z, xs)]) y = if (mG E y).isSome = true then mG E y else if z = y then some xs else none
  | [] => rfl
  | (k, v) :: E => by
    show (if k = y then some v else mG (E ++ [(z, xs)]) y) = if (if k = y then some v else mG E y).isSome = true then (if k = y then some v else mG E y) else _
    rw [mG_app z xs y E]
    by_cases q : k = y <;> simp [q]
theorem mG_none : ∀ {E : Dm} {z : Str}, z ∉ E.map (·.1) → mG E z = none
  | [], _, _ => rfl
  | (k, v) :: E, z, h => by
    rw [List.map_cons, List.mem_cons, not_or] at h
    show (if k = z then some v else mG E z) = none
    rw [if_neg fun e => h.1 e.symm, mG_none h.2]
theorem putB_dMM {x : Nat} {env : PEnv} {E : Dm} {z : Str} {xs : List Int} (h : mG E z = none) (hl : E.length < most) : putB x z (.lst true (xs.map PV.int)) env (some (some (dMM true true E))) = .fl (.next (env.set x (some (dMM true true (E ++ [(z, xs)]))))) := by
  show (if (E.map fun p => (.inr p.1 : DKey)).length < most then RS.fl (.next (env.set x (some (.dct true (putD (E.map fun p => .inr p.1) (E.map fun p => lsV true p.2) (.inr z) (lsV true xs)).1 (putD (E.map fun p => .inr p.1) (E.map fun p => lsV true p.2) (.inr z) (lsV true xs)).2)))) else .bad) = _
  rw [List.length_map, if_pos hl]
  unfold putD
  rw [look_dM, h]
  simp [dMM]
theorem dMM_new : PV.dct true [] [] = dMM true true [] := rfl
@[simp] theorem bAnd1 {x : Int} (h : 0 ≤ x) : Builtin.bitAnd x 1 = x % 2 := nr (by
  rw [bAnd_nat h (by decide)]
  have e : x.toNat &&& (1 : Int).toNat = x.toNat % 2 := Nat.and_one_is_mod _
  rw [e]
  omega)
end BW

namespace BW.Law
open PySem PySem.Spec PyProof.Rows
open L2 hiding St
abbrev f_bits_of : Nat := 0
abbrev f_dim : Nat := 1
abbrev f_two_dims : Nat := 2
abbrev f_turned : Nat := 3
abbrev f_and_mark : Nat := 4
abbrev f_or_mark : Nat := 5
abbrev f_xor_mark : Nat := 6
abbrev f_carried : Nat := 7
abbrev f_summed : Nat := 8
abbrev f_same_mark : Nat := 9
abbrev f_picked : Nat := 10
abbrev f__law_cell : Nat := 11
abbrev f__law_mix : Nat := 12
abbrev f__law_names : Nat := 13
abbrev f__law_word : Nat := 14
abbrev f__law_marks : Nat := 15
abbrev f__law_told : Nat := 16
abbrev f__law_sum : Nat := 17
abbrev f__law_two : Nat := 18
abbrev f__law_mark : Nat := 19
abbrev f_law : Nat := 20
def l_bits_of_0 : Sms := (.cons (.mut 2 .append (.cons (.bin .mod (.var 1) (.int 2)) .nil)) (.cons (.asg [1] (.bin .fdiv (.var 1) (.int 2))) .nil))
def b_bits_of : Fd := ⟨2, 4, (.cons (.asg [2] (.lst .nil)) (.cons (.for_ [3] (.rng (.cons (.var 0) .nil)) l_bits_of_0) (.cons (.ret (.mv 2)) .nil)))⟩
def d_bits_of : Df := ⟨"bits_of", defArgs (top 1), defBody (top 1), defScope (top 1), ["width", "word", "bits", "place"], ["width", "word"], b_bits_of⟩
theorem n_bits_of : d_bits_of.Bn := fun _ _ _ _ _ _ us hl => match us, hl with | [_, _], _ => rfl
def b_dim : Fd := ⟨4, 6, (.cons (.ifs (.cmp .eq (.idx (.var 0) (.int 0)) (.str "num")) (.cons (.ret (.call f_bits_of (.cons (.ex (.idx (.var 0) (.int 1))) (.cons (.ex (.idx (.var 0) (.int 2))) .nil)))) .nil) .nil) (.cons (.ifs (.cmp .eq (.idx (.var 0) (.int 0)) (.str "box")) (.cons (.ret (.ex (.bi .list (.cons (.idx (.var 1) (.idx (.var 0) (.int 1))) .nil)))) .nil) .nil) (.cons (.ifs (.cmp .eq (.idx (.var 0) (.int 0)) (.str "late")) (.cons (.ret (.ex (.bi .list (.cons (.idx (.var 2) (.idx (.var 0) (.int 1))) .nil)))) .nil) .nil) (.cons (.ifs (.cmp .eq (.idx (.var 0) (.int 0)) (.str "door")) (.cons (.ret (.ex (.bi .list (.cons (.idx (.var 3) (.idx (.var 0) (.int 1))) .nil)))) .nil) .nil) (.cons (.asg [4] (.call f_dim (.cons (.idx (.var 0) (.int 1)) (.cons (.var 1) (.cons (.var 2) (.cons (.var 3) .nil)))))) (.cons (.ifs (.cmp .eq (.idx (.var 0) (.int 0)) (.str "not")) (.cons (.ret (.call f_turned (.cons (.mv 4) .nil))) .nil) .nil) (.cons (.ifs (.cmp .eq (.idx (.var 0) (.int 0)) (.str "part")) (.cons (.ret (.ex (.slc (.var 4) (.some (.idx (.var 0) (.int 2))) (.some (.bin .add (.idx (.var 0) (.int 2)) (.idx (.var 0) (.int 3))))))) .nil) .nil) (.cons (.asg [5] (.call f_dim (.cons (.idx (.var 0) (.int 2)) (.cons (.var 1) (.cons (.var 2) (.cons (.var 3) .nil)))))) (.cons (.ifs (.cmp .eq (.idx (.var 0) (.int 0)) (.str "pick")) (.cons (.ret (.call f_picked (.cons (.ex (.idx (.var 4) (.int 0))) (.cons (.mv 5) (.cons (.call f_dim (.cons (.ex (.idx (.var 0) (.int 3))) (.cons (.mv 1) (.cons (.mv 2) (.cons (.mv 3) .nil))))) .nil))))) .nil) .nil) (.cons (.ifs (.cmp .eq (.idx (.var 0) (.int 0)) (.str "join")) (.cons (.ret (.ex (.bin .add (.var 5) (.var 4)))) .nil) .nil) (.cons (.ret (.call f_two_dims (.cons (.ex (.idx (.var 0) (.int 0))) (.cons (.mv 4) (.cons (.mv 5) .nil))))) .nil)))))))))))⟩
def d_dim : Df := ⟨"dim", defArgs (top 3), defBody (top 3), defScope (top 3), ["term", "early", "late", "doors", "one", "other"], ["term", "early", "late", "doors"], b_dim⟩
theorem n_dim : d_dim.Bn := fun _ _ _ _ _ _ us hl => match us, hl with | [_, _, _, _], _ => rfl
def b_two_dims : Fd := ⟨3, 4, (.cons (.ifs (.cmp .eq (.var 0) (.str "and")) (.cons (.ret (.ex (.lc [3] [3] (.rng (.cons (.bi .len (.cons (.var 1) .nil)) .nil)) .none (.call f_and_mark (.cons (.idx (.var 1) (.var 3)) (.cons (.idx (.var 2) (.var 3)) .nil)))))) .nil) .nil) (.cons (.ifs (.cmp .eq (.var 0) (.str "or")) (.cons (.ret (.ex (.lc [3] [3] (.rng (.cons (.bi .len (.cons (.var 1) .nil)) .nil)) .none (.call f_or_mark (.cons (.idx (.var 1) (.var 3)) (.cons (.idx (.var 2) (.var 3)) .nil)))))) .nil) .nil) (.cons (.ifs (.cmp .eq (.var 0) (.str "xor")) (.cons (.ret (.ex (.lc [3] [3] (.rng (.cons (.bi .len (.cons (.var 1) .nil)) .nil)) .none (.call f_xor_mark (.cons (.idx (.var 1) (.var 3)) (.cons (.idx (.var 2) (.var 3)) .nil)))))) .nil) .nil) (.cons (.ifs (.cmp .eq (.var 0) (.str "plus")) (.cons (.ret (.idx (.call f_summed (.cons (.mv 1) (.cons (.mv 2) (.cons (.ex (.int 0)) .nil)))) 0)) .nil) .nil) (.cons (.ifs (.cmp .eq (.var 0) (.str "minus")) (.cons (.ret (.idx (.call f_summed (.cons (.mv 1) (.cons (.call f_turned (.cons (.mv 2) .nil)) (.cons (.ex (.int 1)) .nil)))) 0)) .nil) .nil) (.cons (.ifs (.cmp .eq (.var 0) (.str "less")) (.cons (.ret (.call f_turned (.cons (.ex (.lst (.cons (.idx (.call f_summed (.cons (.var 1) (.cons (.call f_turned (.cons (.var 2) .nil)) (.cons (.int 1) .nil)))) (.int 1)) .nil))) .nil))) .nil) .nil) (.cons (.ret (.ex (.lst (.cons (.call f_same_mark (.cons (.var 1) (.cons (.var 2) .nil))) .nil)))) .nil)))))))⟩
def d_two_dims : Df := ⟨"two_dims", defArgs (top 4), defBody (top 4), defScope (top 4), ["form", "one", "other", "k"], ["form", "one", "other"], b_two_dims⟩
theorem n_two_dims : d_two_dims.Bn := fun _ _ _ _ _ _ us hl => match us, hl with | [_, _, _], _ => rfl
def b_turned : Fd := ⟨1, 2, (.cons (.ret (.ex (.lc [1] [1] (.ex (.var 0)) .none (.idx (.tup (.cons (.int 1) (.cons (.int 0) (.cons (.int 2) .nil)))) (.var 1))))) .nil)⟩
def d_turned : Df := ⟨"turned", defArgs (top 5), defBody (top 5), defScope (top 5), ["marks", "mark"], ["marks"], b_turned⟩
theorem n_turned : d_turned.Bn := fun _ _ _ _ _ _ us hl => match us, hl with | [_], _ => rfl
def b_and_mark : Fd := ⟨2, 2, (.cons (.ifs (.or (.cmp .eq (.var 0) (.int 0)) (.cmp .eq (.var 1) (.int 0))) (.cons (.ret (.ex (.int 0))) .nil) .nil) (.cons (.ret (.ex (.bi .max (.cons (.var 0) (.cons (.var 1) .nil))))) .nil))⟩
def d_and_mark : Df := ⟨"and_mark", defArgs (top 6), defBody (top 6), defScope (top 6), ["one", "other"], ["one", "other"], b_and_mark⟩
theorem n_and_mark : d_and_mark.Bn := fun _ _ _ _ _ _ us hl => match us, hl with | [_, _], _ => rfl
def b_or_mark : Fd := ⟨2, 2, (.cons (.ifs (.or (.cmp .eq (.var 0) (.int 1)) (.cmp .eq (.var 1) (.int 1))) (.cons (.ret (.ex (.int 1))) .nil) .nil) (.cons (.ret (.ex (.bi .max (.cons (.var 0) (.cons (.var 1) .nil))))) .nil))⟩
def d_or_mark : Df := ⟨"or_mark", defArgs (top 7), defBody (top 7), defScope (top 7), ["one", "other"], ["one", "other"], b_or_mark⟩
theorem n_or_mark : d_or_mark.Bn := fun _ _ _ _ _ _ us hl => match us, hl with | [_, _], _ => rfl
def b_xor_mark : Fd := ⟨2, 2, (.cons (.ifs (.or (.cmp .eq (.var 0) (.int 2)) (.cmp .eq (.var 1) (.int 2))) (.cons (.ret (.ex (.int 2))) .nil) .nil) (.cons (.ret (.ex (.bi .int (.cons (.cmp .ne (.var 0) (.var 1)) .nil)))) .nil))⟩
def d_xor_mark : Df := ⟨"xor_mark", defArgs (top 8), defBody (top 8), defScope (top 8), ["one", "other"], ["one", "other"], b_xor_mark⟩
theorem n_xor_mark : d_xor_mark.Bn := fun _ _ _ _ _ _ us hl => match us, hl with | [_, _], _ => rfl
def b_carried : Fd := ⟨1, 1, (.cons (.ifs (.cmp .ge (.meth .count (.var 0) (.cons (.int 1) .nil)) (.int 2)) (.cons (.ret (.ex (.int 1))) .nil) .nil) (.cons (.ifs (.cmp .ge (.meth .count (.var 0) (.cons (.int 0) .nil)) (.int 2)) (.cons (.ret (.ex (.int 0))) .nil) .nil) (.cons (.ret (.ex (.int 2))) .nil)))⟩
def d_carried : Df := ⟨"carried", defArgs (top 9), defBody (top 9), defScope (top 9), ["three"], ["three"], b_carried⟩
theorem n_carried : d_carried.Bn := fun _ _ _ _ _ _ us hl => match us, hl with | [_], _ => rfl
def l_summed_0 : Sms := (.cons (.mut 3 .append (.cons (.call f_xor_mark (.cons (.call f_xor_mark (.cons (.idx (.var 0) (.var 4)) (.cons (.idx (.var 1) (.var 4)) .nil))) (.cons (.var 2) .nil))) .nil)) (.cons (.asg [2] (.call f_carried (.cons (.lst (.cons (.idx (.var 0) (.var 4)) (.cons (.idx (.var 1) (.var 4)) (.cons (.var 2) .nil)))) .nil))) .nil))
def b_summed : Fd := ⟨3, 5, (.cons (.asg [3] (.lst .nil)) (.cons (.for_ [4] (.rng (.cons (.bi .len (.cons (.var 0) .nil)) .nil)) l_summed_0) (.cons (.ret (.tup (.cons (.mv 3) (.cons (.mv 2) .nil)))) .nil)))⟩
def d_summed : Df := ⟨"summed", defArgs (top 10), defBody (top 10), defScope (top 10), ["one", "other", "carry", "marks", "k"], ["one", "other", "carry"], b_summed⟩
theorem n_summed : d_summed.Bn := fun _ _ _ _ _ _ us hl => match us, hl with | [_, _, _], _ => rfl
def b_same_mark : Fd := ⟨2, 4, (.cons (.asg [2] (.lc [3] [3] (.rng (.cons (.bi .len (.cons (.var 0) .nil)) .nil)) .none (.call f_xor_mark (.cons (.idx (.var 0) (.var 3)) (.cons (.idx (.var 1) (.var 3)) .nil))))) (.cons (.ifs (.cmp .isin (.int 1) (.var 2)) (.cons (.ret (.ex (.int 0))) .nil) .nil) (.cons (.ifs (.cmp .isin (.int 2) (.var 2)) (.cons (.ret (.ex (.int 2))) .nil) .nil) (.cons (.ret (.ex (.int 1))) .nil))))⟩
def d_same_mark : Df := ⟨"same_mark", defArgs (top 11), defBody (top 11), defScope (top 11), ["one", "other", "unlike", "k"], ["one", "other"], b_same_mark⟩
theorem n_same_mark : d_same_mark.Bn := fun _ _ _ _ _ _ us hl => match us, hl with | [_, _], _ => rfl
def b_picked : Fd := ⟨3, 4, (.cons (.ifs (.cmp .eq (.var 0) (.int 1)) (.cons (.ret (.mv 1)) .nil) .nil) (.cons (.ifs (.cmp .eq (.var 0) (.int 0)) (.cons (.ret (.mv 2)) .nil) .nil) (.cons (.ret (.ex (.lc [3] [3] (.rng (.cons (.bi .len (.cons (.var 1) .nil)) .nil)) .none (.idx (.tup (.cons (.int 2) (.cons (.idx (.var 1) (.var 3)) .nil))) (.bi .int (.cons (.cmp .eq (.idx (.var 1) (.var 3)) (.idx (.var 2) (.var 3))) .nil)))))) .nil)))⟩
def d_picked : Df := ⟨"picked", defArgs (top 12), defBody (top 12), defScope (top 12), ["mark", "one", "other", "k"], ["mark", "one", "other"], b_picked⟩
theorem n_picked : d_picked.Bn := fun _ _ _ _ _ _ us hl => match us, hl with | [_, _, _], _ => rfl
def b__law_cell : Fd := ⟨2, 2, (.cons (.ifs (.cmp .lt (.var 1) (.bi .len (.cons (.var 0) .nil))) (.cons (.ret (.ex (.bin .mod (.idx (.var 0) (.var 1)) (.int 1000000007)))) .nil) .nil) (.cons (.ret (.ex (.bin .mod (.bin .mul (.bin .mul (.var 1) (.var 1)) (.int 7919)) (.int 1000003)))) .nil))⟩
def d__law_cell : Df := ⟨"_law_cell", defArgs (top 14), defBody (top 14), defScope (top 14), ["script", "k"], ["script", "k"], b__law_cell⟩
theorem n__law_cell : d__law_cell.Bn := fun _ _ _ _ _ _ us hl => match us, hl with | [_, _], _ => rfl
def b__law_mix : Fd := ⟨2, 3, (.cons (.asg [2] (.bin .mod (.bin .add (.bin .add (.bin .mul (.var 0) (.int 69621)) (.bin .mul (.var 1) (.int 16807))) (.int 1013)) (.int 2147483647))) (.cons (.ret (.ex (.bin .mod (.bin .mul (.var 2) (.var 2)) (.int 2147483629)))) .nil))⟩
def d__law_mix : Df := ⟨"_law_mix", defArgs (top 15), defBody (top 15), defScope (top 15), ["number", "salt", "mixed"], ["number", "salt"], b__law_mix⟩
theorem n__law_mix : d__law_mix.Bn := fun _ _ _ _ _ _ us hl => match us, hl with | [_, _], _ => rfl
def l__law_names_0 : Sms := (.cons (.asg [10] (.idx (.var 2) (.bin .mod (.bin .add (.var 3) (.bin .mul (.var 8) (.var 4))) (.int 26)))) (.cons (.ifs (.cmp .eq (.bin .mod (.bin .fdiv (.var 0) (.int 13312)) (.int 2)) (.int 0)) (.cons (.mut 9 .append (.cons (.bin .add (.bin .add (.slc (.var 7) .none (.some (.var 6))) (.var 10)) (.slc (.var 7) (.some (.bin .add (.var 6) (.int 1))) .none)) .nil)) .nil) (.cons (.mut 9 .append (.cons (.bin .add (.bin .mul (.idx (.var 2) (.var 3)) (.bin .mod (.var 8) (.int 4))) (.var 10)) .nil)) .nil)) .nil))
def b__law_names : Fd := ⟨2, 11, (.cons (.asg [2] (.str "abcdefghijklmnopqrstuvwxyz")) (.cons (.asg [3] (.bin .mod (.var 0) (.int 26))) (.cons (.asg [4] (.idx (.lst (.cons (.int 1) (.cons (.int 3) (.cons (.int 5) (.cons (.int 7) (.cons (.int 9) (.cons (.int 11) (.cons (.int 15) (.cons (.int 17) .nil))))))))) (.bin .mod (.bin .fdiv (.var 0) (.int 26)) (.int 8)))) (.cons (.asg [5] (.bin .add (.int 1) (.bin .mod (.bin .fdiv (.var 0) (.int 208)) (.int 8)))) (.cons (.asg [6] (.bin .mod (.bin .fdiv (.var 0) (.int 1664)) (.var 5))) (.cons (.asg [7] (.meth .join (.str "") (.cons (.lc [8] [8] (.rng (.cons (.var 5) .nil)) .none (.idx (.var 2) (.bin .mod (.call f__law_mix (.cons (.var 0) (.cons (.bin .add (.int 20) (.var 8)) .nil))) (.int 26)))) .nil))) (.cons (.asg [9] (.lst .nil)) (.cons (.for_ [8] (.rng (.cons (.var 1) .nil)) l__law_names_0) (.cons (.ret (.mv 9)) .nil)))))))))⟩
def d__law_names : Df := ⟨"_law_names", defArgs (top 16), defBody (top 16), defScope (top 16), ["number", "many", "letters", "first", "step", "size", "at", "stem", "k", "names", "sign"], ["number", "many"], b__law_names⟩
theorem n__law_names : d__law_names.Bn := fun _ _ _ _ _ _ us hl => match us, hl with | [_, _], _ => rfl
def b__law_word : Fd := ⟨2, 3, (.cons (.asg [2] (.bin .add (.bin .mul (.bin .add (.bin .mul (.call f__law_mix (.cons (.var 0) (.cons (.int 7) .nil))) (.int 2147483629)) (.call f__law_mix (.cons (.var 0) (.cons (.int 8) .nil)))) (.int 8)) (.bin .mod (.var 0) (.int 8)))) (.cons (.ret (.ex (.bin .mod (.idx (.lst (.cons (.var 2) (.cons (.var 2) (.cons (.int 0) (.cons (.bin .sub (.bin .shl (.int 1) (.var 1)) (.int 1)) .nil))))) (.bin .mod (.bin .fdiv (.var 0) (.int 8)) (.int 4))) (.bin .shl (.int 1) (.var 1))))) .nil))⟩
def d__law_word : Df := ⟨"_law_word", defArgs (top 17), defBody (top 17), defScope (top 17), ["number", "width", "far"], ["number", "width"], b__law_word⟩
theorem n__law_word : d__law_word.Bn := fun _ _ _ _ _ _ us hl => match us, hl with | [_, _], _ => rfl
def b__law_marks : Fd := ⟨2, 4, (.cons (.asg [2] (.bin .mod (.var 0) (.int 4))) (.cons (.ifs (.cmp .eq (.var 2) (.int 0)) (.cons (.ret (.ex (.lc [3] [3] (.rng (.cons (.var 1) .nil)) .none (.bin .mod (.call f__law_mix (.cons (.var 0) (.cons (.var 3) .nil))) (.int 2))))) .nil) .nil) (.cons (.ifs (.and (.cmp .eq (.var 2) (.int 1)) (.cmp .eq (.bin .mod (.bin .fdiv (.var 0) (.int 4)) (.int 4)) (.int 1))) (.cons (.ret (.ex (.lc [3] [3] (.rng (.cons (.var 1) .nil)) .none (.int 2)))) .nil) .nil) (.cons (.ret (.ex (.lc [3] [3] (.rng (.cons (.var 1) .nil)) .none (.bin .mod (.call f__law_mix (.cons (.var 0) (.cons (.var 3) .nil))) (.int 3))))) .nil))))⟩
def d__law_marks : Df := ⟨"_law_marks", defArgs (top 18), defBody (top 18), defScope (top 18), ["number", "width", "way", "k"], ["number", "width"], b__law_marks⟩
theorem n__law_marks : d__law_marks.Bn := fun _ _ _ _ _ _ us hl => match us, hl with | [_, _], _ => rfl
def i__law_told_0 : Sm := (.ifs (.or (.not (.bi .isList (.cons (.var 0) .nil))) (.cmp .ne (.var 0) (.var 1))) (.cons (.ret (.ex (.bl false))) .nil) .nil)
def i__law_told_1 : Sm := (.ifs (.or (.not (.bi .isInt (.cons (.var 2) .nil))) (.bi .isBool (.cons (.var 2) .nil))) (.cons (.ret (.ex (.bl false))) .nil) .nil)
def l__law_told_0 : Sms := (.cons i__law_told_1 .nil)
def b__law_told : Fd := ⟨2, 3, (.cons i__law_told_0 (.cons (.for_ [2] (.ex (.var 0)) l__law_told_0) (.cons (.ret (.ex (.bl true))) .nil)))⟩
def d__law_told : Df := ⟨"_law_told", defArgs (top 19), defBody (top 19), defScope (top 19), ["reply", "due", "mark"], ["reply", "due"], b__law_told⟩
theorem n__law_told : d__law_told.Bn := fun _ _ _ _ _ _ us hl => match us, hl with | [_, _], _ => rfl
def l__law_sum_0 : Sms := (.cons (.asg [8] (.idx (.var 0) (.var 7))) (.cons (.asg [9] (.idx (.var 1) (.var 7))) (.cons (.mut 6 .append (.cons (.idx (.idx (.var 5) (.idx (.idx (.var 5) (.var 8)) (.var 9))) (.var 2)) .nil)) (.cons (.asg [2] (.idx (.idx (.var 4) (.idx (.idx (.var 3) (.var 8)) (.var 9))) (.idx (.idx (.var 3) (.var 2)) (.idx (.idx (.var 4) (.var 8)) (.var 9))))) .nil))))
def b__law_sum : Fd := ⟨3, 10, (.cons (.asg [3] (.tup (.cons (.tup (.cons (.int 0) (.cons (.int 0) (.cons (.int 0) .nil)))) (.cons (.tup (.cons (.int 0) (.cons (.int 1) (.cons (.int 2) .nil)))) (.cons (.tup (.cons (.int 0) (.cons (.int 2) (.cons (.int 2) .nil)))) .nil))))) (.cons (.asg [4] (.tup (.cons (.tup (.cons (.int 0) (.cons (.int 1) (.cons (.int 2) .nil)))) (.cons (.tup (.cons (.int 1) (.cons (.int 1) (.cons (.int 1) .nil)))) (.cons (.tup (.cons (.int 2) (.cons (.int 1) (.cons (.int 2) .nil)))) .nil))))) (.cons (.asg [5] (.tup (.cons (.tup (.cons (.int 0) (.cons (.int 1) (.cons (.int 2) .nil)))) (.cons (.tup (.cons (.int 1) (.cons (.int 0) (.cons (.int 2) .nil)))) (.cons (.tup (.cons (.int 2) (.cons (.int 2) (.cons (.int 2) .nil)))) .nil))))) (.cons (.asg [6] (.lst .nil)) (.cons (.for_ [7] (.rng (.cons (.bi .len (.cons (.var 0) .nil)) .nil)) l__law_sum_0) (.cons (.ret (.ex (.bin .add (.var 6) (.lst (.cons (.var 2) .nil))))) .nil))))))⟩
def d__law_sum : Df := ⟨"_law_sum", defArgs (top 20), defBody (top 20), defScope (top 20), ["one", "other", "carry", "both", "some", "odd", "marks", "k", "a", "b"], ["one", "other", "carry"], b__law_sum⟩
theorem n__law_sum : d__law_sum.Bn := fun _ _ _ _ _ _ us hl => match us, hl with | [_, _, _], _ => rfl
def b__law_two : Fd := ⟨3, 7, (.cons (.ifs (.cmp .eq (.var 0) (.str "and")) (.cons (.ret (.ex (.lc [3] [3] (.rng (.cons (.bi .len (.cons (.var 1) .nil)) .nil)) .none (.idx (.idx (.tup (.cons (.tup (.cons (.int 0) (.cons (.int 0) (.cons (.int 0) .nil)))) (.cons (.tup (.cons (.int 0) (.cons (.int 1) (.cons (.int 2) .nil)))) (.cons (.tup (.cons (.int 0) (.cons (.int 2) (.cons (.int 2) .nil)))) .nil)))) (.idx (.var 1) (.var 3))) (.idx (.var 2) (.var 3)))))) .nil) .nil) (.cons (.ifs (.cmp .eq (.var 0) (.str "or")) (.cons (.ret (.ex (.lc [3] [3] (.rng (.cons (.bi .len (.cons (.var 1) .nil)) .nil)) .none (.idx (.idx (.tup (.cons (.tup (.cons (.int 0) (.cons (.int 1) (.cons (.int 2) .nil)))) (.cons (.tup (.cons (.int 1) (.cons (.int 1) (.cons (.int 1) .nil)))) (.cons (.tup (.cons (.int 2) (.cons (.int 1) (.cons (.int 2) .nil)))) .nil)))) (.idx (.var 1) (.var 3))) (.idx (.var 2) (.var 3)))))) .nil) .nil) (.cons (.ifs (.cmp .eq (.var 0) (.str "xor")) (.cons (.ret (.ex (.lc [3] [3] (.rng (.cons (.bi .len (.cons (.var 1) .nil)) .nil)) .none (.idx (.idx (.tup (.cons (.tup (.cons (.int 0) (.cons (.int 1) (.cons (.int 2) .nil)))) (.cons (.tup (.cons (.int 1) (.cons (.int 0) (.cons (.int 2) .nil)))) (.cons (.tup (.cons (.int 2) (.cons (.int 2) (.cons (.int 2) .nil)))) .nil)))) (.idx (.var 1) (.var 3))) (.idx (.var 2) (.var 3)))))) .nil) .nil) (.cons (.ifs (.cmp .eq (.var 0) (.str "plus")) (.cons (.ret (.ex (.slc (.call f__law_sum (.cons (.var 1) (.cons (.var 2) (.cons (.int 0) .nil)))) .none (.some (.neg (.int 1)))))) .nil) .nil) (.cons (.asg [4] (.call f__law_sum (.cons (.var 1) (.cons (.lc [5] [5] (.ex (.var 2)) .none (.idx (.tup (.cons (.int 1) (.cons (.int 0) (.cons (.int 2) .nil)))) (.var 5))) (.cons (.int 1) .nil))))) (.cons (.ifs (.cmp .eq (.var 0) (.str "minus")) (.cons (.ret (.ex (.slc (.var 4) .none (.some (.neg (.int 1)))))) .nil) .nil) (.cons (.ifs (.cmp .eq (.var 0) (.str "less")) (.cons (.ret (.ex (.lst (.cons (.idx (.tup (.cons (.int 1) (.cons (.int 0) (.cons (.int 2) .nil)))) (.idx (.var 4) (.neg (.int 1)))) .nil)))) .nil) .nil) (.cons (.asg [6] (.lc [3] [3] (.rng (.cons (.bi .len (.cons (.var 1) .nil)) .nil)) (.some (.cmp .ne (.idx (.var 1) (.var 3)) (.idx (.var 2) (.var 3)))) (.tup (.cons (.idx (.var 1) (.var 3)) (.cons (.idx (.var 2) (.var 3)) .nil))))) (.cons (.ifs (.or (.cmp .isin (.tup (.cons (.int 0) (.cons (.int 1) .nil))) (.var 6)) (.cmp .isin (.tup (.cons (.int 1) (.cons (.int 0) .nil))) (.var 6))) (.cons (.ret (.ex (.lst (.cons (.int 0) .nil)))) .nil) .nil) (.cons (.ret (.ex (.lst (.cons (.idx (.lst (.cons (.int 1) (.cons (.int 2) .nil))) (.bi .int (.cons (.or (.cmp .isin (.int 2) (.var 1)) (.cmp .isin (.int 2) (.var 2))) .nil))) .nil)))) .nil))))))))))⟩
def d__law_two : Df := ⟨"_law_two", defArgs (top 21), defBody (top 21), defScope (top 21), ["form", "one", "other", "k", "less", "mark", "unlike"], ["form", "one", "other"], b__law_two⟩
theorem n__law_two : d__law_two.Bn := fun _ _ _ _ _ _ us hl => match us, hl with | [_, _, _], _ => rfl
def b__law_mark : Fd := ⟨3, 3, (.cons (.ifs (.cmp .eq (.var 0) (.int 1)) (.cons (.ret (.mv 1)) .nil) .nil) (.cons (.ifs (.cmp .eq (.var 0) (.int 0)) (.cons (.ret (.mv 2)) .nil) .nil) (.cons (.ifs (.cmp .eq (.var 1) (.var 2)) (.cons (.ret (.mv 1)) .nil) .nil) (.cons (.ret (.ex (.int 2))) .nil))))⟩
def d__law_mark : Df := ⟨"_law_mark", defArgs (top 22), defBody (top 22), defScope (top 22), ["choice", "one", "other"], ["choice", "one", "other"], b__law_mark⟩
theorem n__law_mark : d__law_mark.Bn := fun _ _ _ _ _ _ us hl => match us, hl with | [_, _, _], _ => rfl
def l_law_0 : Sms := (.cons (.mut 12 .append (.cons (.tup (.cons (.tup (.cons (.var 14) (.cons (.idx (.var 10) (.var 6)) (.cons (.idx (.var 10) (.bin .mod (.bin .add (.var 6) (.int 1)) (.int 3))) .nil)))) (.cons (.call f__law_two (.cons (.var 14) (.cons (.idx (.var 5) (.var 6)) (.cons (.idx (.var 5) (.bin .mod (.bin .add (.var 6) (.int 1)) (.int 3))) .nil)))) .nil))) .nil)) .nil)
def l_law_1 : Sms := (.cons (.mut 12 .append (.cons (.tup (.cons (.idx (.var 10) (.var 6)) (.cons (.idx (.var 5) (.var 6)) .nil))) .nil)) (.cons (.mut 12 .append (.cons (.tup (.cons (.tup (.cons (.str "not") (.cons (.idx (.var 10) (.var 6)) .nil))) (.cons (.lc [13] [13] (.ex (.idx (.var 5) (.var 6))) .none (.idx (.tup (.cons (.int 1) (.cons (.int 0) (.cons (.int 2) .nil)))) (.var 13))) .nil))) .nil)) (.cons (.for_ [14] (.ex (.lst (.cons (.str "and") (.cons (.str "or") (.cons (.str "xor") (.cons (.str "plus") (.cons (.str "minus") (.cons (.str "less") (.cons (.str "same") .nil))))))))) l_law_0) .nil)))
def i_law_0 : Sm := (.ifs (.not (.call f__law_told (.cons (.var 21) (.cons (.var 19) .nil)))) (.cons (.ret (.ex (.bl false))) .nil) .nil)
def l_law_2 : Sms := (.cons (.asg [21] (.call f_dim (.cons (.var 20) (.cons (.var 7) (.cons (.var 8) (.cons (.var 9) .nil)))))) (.cons i_law_0 (.cons (.mut 21 .append (.cons (.int 1) .nil)) .nil)))
def b_law : Fd := ⟨1, 22, (.cons (.asg [1] (.call f__law_mix (.cons (.call f__law_cell (.cons (.var 0) (.cons (.int 0) .nil))) (.cons (.int 1) .nil)))) (.cons (.asg [2] (.idx (.lst (.cons (.bin .add (.int 1) (.bin .mod (.bin .fdiv (.var 1) (.int 2)) (.int 5))) (.cons (.bin .add (.int 1) (.bin .mod (.bin .fdiv (.var 1) (.int 2)) (.int 64))) .nil))) (.bin .mod (.var 1) (.int 2)))) (.cons (.asg [3, 4] (.call f__law_names (.cons (.call f__law_mix (.cons (.call f__law_cell (.cons (.var 0) (.cons (.int 1) .nil))) (.cons (.int 2) .nil))) (.cons (.int 2) .nil)))) (.cons (.asg [5] (.lc [6] [6] (.rng (.cons (.int 3) .nil)) .none (.call f__law_marks (.cons (.call f__law_mix (.cons (.call f__law_cell (.cons (.var 0) (.cons (.bin .add (.int 2) (.var 6)) .nil))) (.cons (.int 3) .nil))) (.cons (.var 2) .nil))))) (.cons (.asg [7] (.dsp (.cons (.var 3) (.cons (.bi .list (.cons (.idx (.var 5) (.int 0)) .nil)) .nil)))) (.cons (.asg [8] (.dsp (.cons (.var 3) (.cons (.bi .list (.cons (.idx (.var 5) (.int 1)) .nil)) .nil)))) (.cons (.asg [9] (.dsp (.cons (.var 4) (.cons (.bi .list (.cons (.idx (.var 5) (.int 2)) .nil)) .nil)))) (.cons (.asg [10] (.lst (.cons (.tup (.cons (.str "box") (.cons (.var 3) .nil))) (.cons (.tup (.cons (.str "late") (.cons (.var 3) .nil))) (.cons (.tup (.cons (.str "door") (.cons (.var 4) .nil))) .nil))))) (.cons (.asg [11] (.call f__law_word (.cons (.call f__law_mix (.cons (.call f__law_cell (.cons (.var 0) (.cons (.int 5) .nil))) (.cons (.int 4) .nil))) (.cons (.var 2) .nil)))) (.cons (.asg [12] (.lst (.cons (.tup (.cons (.tup (.cons (.str "num") (.cons (.var 2) (.cons (.var 11) .nil)))) (.cons (.lc [6] [6] (.rng (.cons (.var 2) .nil)) .none (.bin .band (.bin .shr (.var 11) (.var 6)) (.int 1))) .nil))) .nil))) (.cons (.for_ [6] (.rng (.cons (.int 3) .nil)) l_law_1) (.cons (.asg [15] (.bin .mod (.call f__law_mix (.cons (.call f__law_cell (.cons (.var 0) (.cons (.int 6) .nil))) (.cons (.int 5) .nil))) (.var 2))) (.cons (.asg [16] (.bin .add (.int 1) (.bin .mod (.call f__law_mix (.cons (.call f__law_cell (.cons (.var 0) (.cons (.int 7) .nil))) (.cons (.int 6) .nil))) (.bin .sub (.var 2) (.var 15))))) (.cons (.mut 12 .append (.cons (.tup (.cons (.tup (.cons (.str "part") (.cons (.idx (.var 10) (.int 0)) (.cons (.var 15) (.cons (.var 16) .nil))))) (.cons (.slc (.idx (.var 5) (.int 0)) (.some (.var 15)) (.some (.bin .add (.var 15) (.var 16)))) .nil))) .nil)) (.cons (.asg [17] (.bi .min (.cons (.var 16) (.cons (.int 32) .nil)))) (.cons (.asg [18] (.tup (.cons (.str "part") (.cons (.idx (.var 10) (.int 1)) (.cons (.var 15) (.cons (.var 17) .nil)))))) (.cons (.mut 12 .append (.cons (.tup (.cons (.tup (.cons (.str "join") (.cons (.tup (.cons (.str "part") (.cons (.idx (.var 10) (.int 2)) (.cons (.var 15) (.cons (.var 17) .nil))))) (.cons (.var 18) .nil)))) (.cons (.bin .add (.slc (.idx (.var 5) (.int 1)) (.some (.var 15)) (.some (.bin .add (.var 15) (.var 17)))) (.slc (.idx (.var 5) (.int 2)) (.some (.var 15)) (.some (.bin .add (.var 15) (.var 17))))) .nil))) .nil)) (.cons (.asg [19] (.lc [6] [6] (.rng (.cons (.var 2) .nil)) .none (.call f__law_mark (.cons (.idx (.idx (.var 5) (.int 1)) (.var 15)) (.cons (.idx (.idx (.var 5) (.int 2)) (.var 6)) (.cons (.idx (.idx (.var 5) (.int 0)) (.var 6)) .nil)))))) (.cons (.mut 12 .append (.cons (.tup (.cons (.tup (.cons (.str "pick") (.cons (.tup (.cons (.str "part") (.cons (.idx (.var 10) (.int 1)) (.cons (.var 15) (.cons (.int 1) .nil))))) (.cons (.idx (.var 10) (.int 2)) (.cons (.idx (.var 10) (.int 0)) .nil))))) (.cons (.var 19) .nil))) .nil)) (.cons (.for_ [20, 19] (.ex (.var 12)) l_law_2) (.cons (.ret (.ex (.and (.cmp .eq (.var 7) (.dsp (.cons (.var 3) (.cons (.idx (.var 5) (.int 0)) .nil)))) (.and (.cmp .eq (.var 8) (.dsp (.cons (.var 3) (.cons (.idx (.var 5) (.int 1)) .nil)))) (.cmp .eq (.var 9) (.dsp (.cons (.var 4) (.cons (.idx (.var 5) (.int 2)) .nil)))))))) .nil)))))))))))))))))))))⟩
def d_law : Df := ⟨"law", defArgs (top 23), defBody (top 23), defScope (top 23), ["script", "size", "width", "box", "door", "rows", "k", "early", "late", "doors", "terms", "word", "due", "mark", "form", "low", "many", "half", "short", "marks", "term", "reply"], ["script"], b_law⟩
theorem n_law : d_law.Bn := fun _ _ _ _ _ _ us hl => match us, hl with | [_], _ => rfl
def tab : List Df := [d_bits_of, d_dim, d_two_dims, d_turned, d_and_mark, d_or_mark, d_xor_mark, d_carried, d_summed, d_same_mark, d_picked, d__law_cell, d__law_mix, d__law_names, d__law_word, d__law_marks, d__law_told, d__law_sum, d__law_two, d__law_mark, d_law]
theorem t_bits_of (w n : Nat) (vs : List PV) : callF (tabT tab) w (n + 1) f_bits_of vs = runB (callF (tabT tab) w n) w b_bits_of vs := rfl
theorem t_dim (w n : Nat) (vs : List PV) : callF (tabT tab) w (n + 1) f_dim vs = runB (callF (tabT tab) w n) w b_dim vs := rfl
theorem t_two_dims (w n : Nat) (vs : List PV) : callF (tabT tab) w (n + 1) f_two_dims vs = runB (callF (tabT tab) w n) w b_two_dims vs := rfl
theorem t_turned (w n : Nat) (vs : List PV) : callF (tabT tab) w (n + 1) f_turned vs = runB (callF (tabT tab) w n) w b_turned vs := rfl
theorem t_and_mark (w n : Nat) (vs : List PV) : callF (tabT tab) w (n + 1) f_and_mark vs = runB (callF (tabT tab) w n) w b_and_mark vs := rfl
theorem t_or_mark (w n : Nat) (vs : List PV) : callF (tabT tab) w (n + 1) f_or_mark vs = runB (callF (tabT tab) w n) w b_or_mark vs := rfl
theorem t_xor_mark (w n : Nat) (vs : List PV) : callF (tabT tab) w (n + 1) f_xor_mark vs = runB (callF (tabT tab) w n) w b_xor_mark vs := rfl
theorem t_carried (w n : Nat) (vs : List PV) : callF (tabT tab) w (n + 1) f_carried vs = runB (callF (tabT tab) w n) w b_carried vs := rfl
theorem t_summed (w n : Nat) (vs : List PV) : callF (tabT tab) w (n + 1) f_summed vs = runB (callF (tabT tab) w n) w b_summed vs := rfl
theorem t_same_mark (w n : Nat) (vs : List PV) : callF (tabT tab) w (n + 1) f_same_mark vs = runB (callF (tabT tab) w n) w b_same_mark vs := rfl
theorem t_picked (w n : Nat) (vs : List PV) : callF (tabT tab) w (n + 1) f_picked vs = runB (callF (tabT tab) w n) w b_picked vs := rfl
theorem t__law_cell (w n : Nat) (vs : List PV) : callF (tabT tab) w (n + 1) f__law_cell vs = runB (callF (tabT tab) w n) w b__law_cell vs := rfl
theorem t__law_mix (w n : Nat) (vs : List PV) : callF (tabT tab) w (n + 1) f__law_mix vs = runB (callF (tabT tab) w n) w b__law_mix vs := rfl
theorem t__law_names (w n : Nat) (vs : List PV) : callF (tabT tab) w (n + 1) f__law_names vs = runB (callF (tabT tab) w n) w b__law_names vs := rfl
theorem t__law_word (w n : Nat) (vs : List PV) : callF (tabT tab) w (n + 1) f__law_word vs = runB (callF (tabT tab) w n) w b__law_word vs := rfl
theorem t__law_marks (w n : Nat) (vs : List PV) : callF (tabT tab) w (n + 1) f__law_marks vs = runB (callF (tabT tab) w n) w b__law_marks vs := rfl
theorem t__law_told (w n : Nat) (vs : List PV) : callF (tabT tab) w (n + 1) f__law_told vs = runB (callF (tabT tab) w n) w b__law_told vs := rfl
theorem t__law_sum (w n : Nat) (vs : List PV) : callF (tabT tab) w (n + 1) f__law_sum vs = runB (callF (tabT tab) w n) w b__law_sum vs := rfl
theorem t__law_two (w n : Nat) (vs : List PV) : callF (tabT tab) w (n + 1) f__law_two vs = runB (callF (tabT tab) w n) w b__law_two vs := rfl
theorem t__law_mark (w n : Nat) (vs : List PV) : callF (tabT tab) w (n + 1) f__law_mark vs = runB (callF (tabT tab) w n) w b__law_mark vs := rfl
theorem t_law (w n : Nat) (vs : List PV) : callF (tabT tab) w (n + 1) f_law vs = runB (callF (tabT tab) w n) w b_law vs := rfl
theorem tab_ck : tab.all (fun D => D.okB (numb 0 (names tab)) gls (numb 0 ecs)) = true := by decide +kernel
theorem tab_bn : ∀ D ∈ tab, D.Bn := by
  intro D h
  unfold tab at h
  rcases List.mem_cons.mp h with rfl | h
  · exact n_bits_of
  rcases List.mem_cons.mp h with rfl | h
  · exact n_dim
  rcases List.mem_cons.mp h with rfl | h
  · exact n_two_dims
  rcases List.mem_cons.mp h with rfl | h
  · exact n_turned
  rcases List.mem_cons.mp h with rfl | h
  · exact n_and_mark
  rcases List.mem_cons.mp h with rfl | h
  · exact n_or_mark
  rcases List.mem_cons.mp h with rfl | h
  · exact n_xor_mark
  rcases List.mem_cons.mp h with rfl | h
  · exact n_carried
  rcases List.mem_cons.mp h with rfl | h
  · exact n_summed
  rcases List.mem_cons.mp h with rfl | h
  · exact n_same_mark
  rcases List.mem_cons.mp h with rfl | h
  · exact n_picked
  rcases List.mem_cons.mp h with rfl | h
  · exact n__law_cell
  rcases List.mem_cons.mp h with rfl | h
  · exact n__law_mix
  rcases List.mem_cons.mp h with rfl | h
  · exact n__law_names
  rcases List.mem_cons.mp h with rfl | h
  · exact n__law_word
  rcases List.mem_cons.mp h with rfl | h
  · exact n__law_marks
  rcases List.mem_cons.mp h with rfl | h
  · exact n__law_told
  rcases List.mem_cons.mp h with rfl | h
  · exact n__law_sum
  rcases List.mem_cons.mp h with rfl | h
  · exact n__law_two
  rcases List.mem_cons.mp h with rfl | h
  · exact n__law_mark
  rcases List.mem_cons.mp h with rfl | h
  · exact n_law
  cases h
theorem tab_okay : ∀ D ∈ tab, D.Ok (numb 0 (names tab)) gls (numb 0 ecs) := fun D h => Df.ok_of (List.all_eq_true.mp tab_ck D h) (tab_bn D h)
theorem fn_eq : tab.map Df.toD = fn := rfl
theorem fa_eq : faOf tab ecs = fa := rfl
end BW.Law
namespace BW.Law
open PySem
theorem aft_scr {v : PV} {xs : List PV} {r : PEnv} : aft v [0] (some (.scr xs) :: r) = some (.scr xs) :: r := by
  unfold aft
  split <;> rfl
end BW.Law

namespace BW.Law
open PySem
variable {m w : Nat}
def mixV (n s : Int) : Int := (n * 69621 + s * 16807 + 1013) % 2147483647 * ((n * 69621 + s * 16807 + 1013) % 2147483647) % 2147483629
theorem mix_rng (n s : Int) : 0 ≤ mixV n s ∧ mixV n s < 2147483629 := ⟨Int.emod_nonneg _ (by decide), Int.emod_lt_of_pos _ (by decide)⟩
theorem w_mix (n s : Int) : callF (tabT tab) w (m + 1) f__law_mix [.int n, .int s] = .ok (.int (mixV n s)) := by
  rw [t__law_mix]
  simp only [b__law_mix, runB]
  have e1 : binop .mul (.int n) (.int 69621) = .ok (.int (n * 69621)) := b_mul (.inr (by decide))
  have e2 : binop .mul (.int s) (.int 16807) = .ok (.int (s * 16807)) := b_mul (.inr (by decide))
  have r0 := Int.emod_nonneg (n * 69621 + s * 16807 + 1013) (show (2147483647 : Int) ≠ 0 by decide)
  have r1 := Int.emod_lt_of_pos (n * 69621 + s * 16807 + 1013) (show (0 : Int) < 2147483647 by decide)
  have e3 : binop .mul (.int ((n * 69621 + s * 16807 + 1013) % 2147483647)) (.int ((n * 69621 + s * 16807 + 1013) % 2147483647)) = .ok (.int ((n * 69621 + s * 16807 + 1013) % 2147483647 * ((n * 69621 + s * 16807 + 1013) % 2147483647))) := b_mul (.inl (by omega))
  unfold mixV
  simp [e1, e2, e3]
theorem w_cell (s : List Int) (k : Nat) (hk : k ≤ 1000000) : ∃ c : Int, 0 ≤ c ∧ c < 1000000007 ∧ callF (tabT tab) w (m + 1) f__law_cell [.scr (s.map PV.int), .int (k : Int)] = .ok (.int c) := by
  rw [t__law_cell]
  simp only [b__law_cell, runB]
  by_cases h : k < s.length
  · have e : idxop (.scr (s.map PV.int)) (.int (k : Int)) = .ok (.int s[k]) := by
      show (match L2.atI (s.map PV.int) (k : Int) with | some v => Res.ok (frz v) | none => .bad) = _
      rw [L2.atI_nat (v := PV.int s[k]) (by rw [List.getElem?_map, List.getElem?_eq_getElem h]; rfl)]
      rfl
    exact ⟨s[k] % 1000000007, Int.emod_nonneg _ (by decide), Int.emod_lt_of_pos _ (by decide), by simp [h, e]⟩
  · have e1 : binop .mul (.int (k : Int)) (.int (k : Int)) = .ok (.int ((k : Int) * k)) := b_mul (.inl (by omega))
    have e2 : binop .mul (.int ((k : Int) * k)) (.int 7919) = .ok (.int ((k : Int) * k * 7919)) := b_mul (.inr (by decide))
    have p0 := Int.emod_nonneg ((k : Int) * k * 7919) (show (1000003 : Int) ≠ 0 by decide)
    have p1 := Int.emod_lt_of_pos ((k : Int) * k * 7919) (show (0 : Int) < 1000003 by decide)
    exact ⟨(k : Int) * k * 7919 % 1000003, p0, by omega, by simp [h, e1, e2]⟩
/-- a word of a width -/
theorem w_bword (n : Int) (a : Nat) (h : a ≤ 64) : ∃ y : Int, 0 ≤ y ∧ y < 2 ^ a ∧ callF (tabT tab) w (m + 2) f__law_word [.int n, .int (a : Int)] = .ok (.int y) := by
  rw [t__law_word]
  simp only [b__law_word, runB]
  have g7 := mix_rng n 7
  have g8 := mix_rng n 8
  have p := pow_pos2 a
  have e1 : binop .mul (.int (mixV n 7)) (.int 2147483629) = .ok (.int (mixV n 7 * 2147483629)) := b_mul (.inr (by decide))
  have e2 : binop .mul (.int (mixV n 7 * 2147483629 + mixV n 8)) (.int 8) = .ok (.int ((mixV n 7 * 2147483629 + mixV n 8) * 8)) := b_mul (.inr (by decide))
  have e3 : binop .shl (.int 1) (.int (a : Int)) = .ok (.int (2 ^ a)) := by rw [b_shl ⟨⟨by omega, by omega⟩, by decide⟩]; simp
  obtain ⟨v, hv, ev⟩ := at_map (f := PV.int) (xs := [(mixV n 7 * 2147483629 + mixV n 8) * 8 + n % 8, (mixV n 7 * 2147483629 + mixV n 8) * 8 + n % 8, 0, 2 ^ a - 1]) (i := n / 8 % 4) (by omega) (by simp; omega)
  have e4 : idxop (.lst false [.int ((mixV n 7 * 2147483629 + mixV n 8) * 8 + n % 8), .int ((mixV n 7 * 2147483629 + mixV n 8) * 8 + n % 8), .int 0, .int (2 ^ a - 1)]) (.int (n / 8 % 4)) = .ok (.int v) := ix_at ev
  refine ⟨v % 2 ^ a, Int.emod_nonneg _ (by omega), Int.emod_lt_of_pos _ p, ?_⟩
  simp [w_mix, e1, e2, e3, e4, b_mod p]
end BW.Law

namespace BW.Law
open PySem
variable {m w : Nat}
abbrev abc : Str := "abcdefghijklmnopqrstuvwxyz"
theorem abc_len : abc.cps.toList.length = 26 := by decide +kernel
def ltr (i : Int) : Nat := 97 + (i % 26).toNat
theorem abc_at : ∀ a : Fin 26, abc.cps.toList[a.1]? = some (97 + a.1) := by decide +kernel
theorem ltr_rng (i : Int) : 97 ≤ ltr i ∧ ltr i ≤ 122 := by
  have d1 := Int.emod_lt_of_pos i (show (0 : Int) < 26 by decide)
  have d0 := Int.emod_nonneg i (show (26 : Int) ≠ 0 by decide)
  unfold ltr
  omega
theorem abc_ix (i : Int) : idxop (.str abc) (.int (i % 26)) = .ok (.str ⟨#[ltr i]⟩) := by
  have d1 := Int.emod_lt_of_pos i (show (0 : Int) < 26 by decide)
  have d0 := Int.emod_nonneg i (show (26 : Int) ≠ 0 by decide)
  obtain ⟨j, hj⟩ := Int.eq_ofNat_of_zero_le d0
  have := abc_at ⟨j, by omega⟩
  refine ix_str ?_ (by decide)
  rw [hj]
  unfold ltr
  rw [hj]
  exact L2.atI_nat this
theorem join_cps : ∀ ys : List Str, (PySem.Txt.join (Str.ofString "") ys).cps.toList = (ys.map fun y : Str => y.cps.toList).flatten := fun ys => by
  have key : ∀ ys : List Str, (Str.join (Str.ofString "") ys).cps.toList = (ys.map fun y : Str => y.cps.toList).flatten := fun ys => by
    induction ys with
    | nil => rfl
    | cons x r ih =>
      cases r with
      | nil =>
        show x.cps.toList = _
        simp
      | cons y r =>
        show (x ++ Str.ofString "" ++ Str.join (Str.ofString "") (y :: r)).cps.toList = _
        have e : (x ++ Str.ofString "" ++ Str.join (Str.ofString "") (y :: r)).cps.toList = x.cps.toList ++ ((Str.ofString "").cps.toList ++ (Str.join (Str.ofString "") (y :: r)).cps.toList) := by
          show ((x.cps ++ (Str.ofString "").cps) ++ (Str.join (Str.ofString "") (y :: r)).cps).toList = _
          simp
        rw [e, ih]
        have e2 : (Str.ofString "").cps.toList = [] := by decide
        rw [e2]
        simp
  show (Builtin.Str.glued (Str.ofString "") ys).cps.toList = _
  rw [StrLaws.glued_eq_join]
  exact key ys
theorem allS_strs : ∀ ys : List Str, allS (ys.map PV.str) = some ys
  | [] => rfl
  | y :: ys => by
    show (allS (ys.map PV.str)).map (y :: ·) = _
    rw [allS_strs ys]
    rfl
theorem join_strs {o : Bool} {a : Str} {ys : List Str} (h : (ys.map fun y : Str => y.length).sum + ys.length * a.length ≤ most) : joinV (.str a) (.lst o (ys.map PV.str)) = .ok (.str (PySem.Txt.join a ys)) := by
  show (match allS (ys.map PV.str) with
      | some ys => if decide ((ys.map fun y : Str => y.length).sum + ys.length * a.length ≤ most) = true then Res.ok (PV.str (PySem.Txt.join a ys)) else .bad
      | none => .bad) = _
  rw [allS_strs]
  exact if_pos (decide_eq_true h)
theorem cutS_toL {z : Str} {k : Nat} (h : k ≤ z.length) : (L2.cutS z none (some (k : Int))).cps.toList = z.cps.toList.take k := by
  show (((z.cps.toList.drop (HT.sIx z.length 0 none)).take (HT.sIx z.length z.length (some (k : Int)) - HT.sIx z.length 0 none)).toArray).toList = _
  rw [HT.sIx_nat, HT.sIx_none, Nat.min_eq_left h]
  simp
theorem cutS_fromL {z : Str} {k : Nat} (h : k ≤ z.length) : (L2.cutS z (some (k : Int)) none).cps.toList = z.cps.toList.drop k := by
  show (((z.cps.toList.drop (HT.sIx z.length 0 (some (k : Int)))).take (HT.sIx z.length z.length none - HT.sIx z.length 0 (some (k : Int)))).toArray).toList = _
  rw [HT.sIx_nat, HT.sIx_none, Nat.min_eq_left h]
  show (z.cps.toList.drop k).take (z.length - k) = _
  exact List.take_of_length_le (by rw [List.length_drop]; exact Nat.le_of_eq rfl)
theorem app_cps (a b : Str) : (a ++ b).cps.toList = a.cps.toList ++ b.cps.toList := by
  show (a.cps ++ b.cps).toList = _
  simp
theorem len_cps (z : Str) : z.length = z.cps.toList.length := by
  show z.cps.size = _
  simp
theorem str_ext {a b : Str} (h : a.cps.toList = b.cps.toList) : a = b := by
  cases a
  cases b
  simp at h
  simp [h]
/-- the k-th name, its signs -/
def nmC (st : List Nat) (at_ : Nat) (first step : Int) (b : Bool) (k : Nat) : List Nat := if b = true then st.take at_ ++ ltr (first + k * step) :: st.drop (at_ + 1) else List.replicate (k % 4) (ltr first) ++ [ltr (first + k * step)]
def nmS (st : List Nat) (at_ : Nat) (first step : Int) (b : Bool) (k : Nat) : Str := ⟨(nmC st at_ first step b k).toArray⟩
theorem step_inj : ∀ (t : Fin 8) (f : Fin 26) (i j : Fin 26), (f.1 + i.1 * [1, 3, 5, 7, 9, 11, 15, 17].getD t.1 0) % 26 = (f.1 + j.1 * [1, 3, 5, 7, 9, 11, 15, 17].getD t.1 0) % 26 → i = j := by decide +kernel
theorem nmC_inj {st : List Nat} {at_ : Nat} {first step : Int} {b : Bool} {i j : Nat} (ha : at_ < st.length) (hf : 0 ≤ first ∧ first < 26) (hs : ∃ t : Fin 8, step = ([1, 3, 5, 7, 9, 11, 15, 17].getD t.1 0 : Nat)) (hi : i < 26) (hj : j < 26) (h : nmC st at_ first step b i = nmC st at_ first step b j) : i = j := by
  have hl : ltr (first + i * step) = ltr (first + j * step) := by
    unfold nmC at h
    split at h
    · have := congrArg (fun l : List Nat => l[at_]?) h
      rw [List.getElem?_append_right (by simp; omega), List.getElem?_append_right (by simp; omega)] at this
      have e : at_ - (st.take at_).length = 0 := by
        rw [List.length_take]
        omega
      rw [e] at this
      simpa using this
    · have := congrArg List.getLast? h
      simpa using this
  obtain ⟨t, ht⟩ := hs
  obtain ⟨f, rfl⟩ := Int.eq_ofNat_of_zero_le hf.1
  have q := step_inj t ⟨f, by omega⟩ ⟨i, hi⟩ ⟨j, hj⟩
  simp only at q
  subst ht
  generalize [1, 3, 5, 7, 9, 11, 15, 17].getD t.1 0 = s at q hl
  unfold ltr at hl
  have e : ∀ k : Nat, ((f : Int) + (k : Int) * (s : Int)) % 26 = (((f + k * s) % 26 : Nat) : Int) := fun k => by push_cast; rfl
  rw [e i, e j] at hl
  have := q (by omega)
  exact congrArg Fin.val this
theorem nmS_cps (st : List Nat) (at_ : Nat) (first step : Int) (b : Bool) (k : Nat) : (nmS st at_ first step b k).cps.toList = nmC st at_ first step b k := rfl
theorem nmC_good {st : List Nat} {at_ : Nat} {first step : Int} {b : Bool} {k : Nat} (ha : at_ < st.length) (hl : st.length ≤ 8) (hr : ∀ c ∈ st, 97 ≤ c ∧ c ≤ 122) : Gn (nmS st at_ first step b k) := by
  have e : (nmS st at_ first step b k).length = (nmC st at_ first step b k).length := by
    show (nmC st at_ first step b k).toArray.size = _
    simp
  unfold Gn
  rw [e, nmS_cps]
  unfold nmC
  split
  · refine ⟨fun c hc => ?_, by simp; omega, by simp; omega⟩
    rcases List.mem_append.mp hc with h | h
    · exact hr c (List.mem_of_mem_take h)
    · rcases List.mem_cons.mp h with e | h
      · rw [e]
        exact ltr_rng _
      · exact hr c (List.mem_of_mem_drop h)
  · refine ⟨fun c hc => ?_, by simp, by simp; omega⟩
    rcases List.mem_append.mp hc with h | h
    · rw [List.eq_of_mem_replicate h]
      exact ltr_rng _
    · rw [List.mem_singleton.mp h]
      exact ltr_rng _
theorem nodup_mapOn {α β : Type} {f : α → β} : ∀ {l : List α}, l.Nodup → (∀ a ∈ l, ∀ b ∈ l, f a = f b → a = b) → (l.map f).Nodup
  | [], _, _ => .nil
  | x :: l, nd, h => by
    obtain ⟨n1, n2⟩ := List.nodup_cons.mp nd
    refine List.nodup_cons.mpr ⟨fun hm => ?_, nodup_mapOn n2 fun a ha b hb => h a (List.mem_cons_of_mem _ ha) b (List.mem_cons_of_mem _ hb)⟩
    obtain ⟨y, hy, e⟩ := List.mem_map.mp hm
    exact n1 (by rw [← h y (List.mem_cons_of_mem _ hy) x List.mem_cons_self e]; exact hy)
theorem w_names (n : Int) (many : Nat) (hm : many ≤ 26) : ∃ ys : List Str, ys.length = many ∧ ys.Nodup ∧ (∀ y ∈ ys, Gn y) ∧ callF (tabT tab) w (m + 2) f__law_names [.int n, .int (many : Int)] = .ok (.lst true (ys.map PV.str)) := by
  have t0 := Int.emod_nonneg (n / 26) (show (8 : Int) ≠ 0 by decide)
  have t1 := Int.emod_lt_of_pos (n / 26) (show (0 : Int) < 8 by decide)
  obtain ⟨F, hF⟩ : ∃ F : Int, n % 26 = F := ⟨_, rfl⟩
  have f0 := Int.emod_nonneg n (show (26 : Int) ≠ 0 by decide)
  have f1 := Int.emod_lt_of_pos n (show (0 : Int) < 26 by decide)
  rw [hF] at f0 f1
  have F26 : F % 26 = F := Int.emod_eq_of_lt f0 f1
  have z0 := Int.emod_nonneg (n / 208) (show (8 : Int) ≠ 0 by decide)
  have z1 := Int.emod_lt_of_pos (n / 208) (show (0 : Int) < 8 by decide)
  obtain ⟨t, ht⟩ := Int.eq_ofNat_of_zero_le t0
  obtain ⟨z, hz⟩ := Int.eq_ofNat_of_zero_le z0
  have tl : t < 8 := by omega
  have zl : z < 8 := by omega
  obtain ⟨at_, hat⟩ := Int.eq_ofNat_of_zero_le (Int.emod_nonneg (n / 1664) (show (1 + (z : Int)) ≠ 0 by omega))
  have hal : at_ < 1 + z := by
    have := Int.emod_lt_of_pos (n / 1664) (show (0 : Int) < 1 + (z : Int) by omega)
    omega
  obtain ⟨st, hst⟩ : ∃ st : List Nat, st = (List.range (1 + z)).map fun k : Nat => ltr (mixV n (20 + k)) := ⟨_, rfl⟩
  have stl : st.length = 1 + z := by rw [hst]; simp
  have str_ : ∀ c ∈ st, 97 ≤ c ∧ c ≤ 122 := fun c hc => by
    rw [hst] at hc
    obtain ⟨k, _, rfl⟩ := List.mem_map.mp hc
    exact ltr_rng _
  obtain ⟨sp, hsp⟩ : ∃ sp : Int, sp = ([1, 3, 5, 7, 9, 11, 15, 17].getD t 0 : Nat) := ⟨_, rfl⟩
  have spb : 0 ≤ sp ∧ sp ≤ 17 := by
    have : ∀ t : Fin 8, [1, 3, 5, 7, 9, 11, 15, 17].getD t.1 0 ≤ 17 := by decide
    have := this ⟨t, tl⟩
    simp only at this
    rw [hsp]
    omega
  have e1 : idxop (.lst false [.int 1, .int 3, .int 5, .int 7, .int 9, .int 11, .int 15, .int 17]) (.int (n / 26 % 8)) = .ok (.int sp) := by
    rw [ht, hsp]
    have : ∀ t : Fin 8, L2.atI [PV.int 1, .int 3, .int 5, .int 7, .int 9, .int 11, .int 15, .int 17] (t.1 : Int) = some (.int ([1, 3, 5, 7, 9, 11, 15, 17].getD t.1 0 : Nat)) := fun t => by
      match t with
      | ⟨0, _⟩ => rfl
      | ⟨1, _⟩ => rfl
      | ⟨2, _⟩ => rfl
      | ⟨3, _⟩ => rfl
      | ⟨4, _⟩ => rfl
      | ⟨5, _⟩ => rfl
      | ⟨6, _⟩ => rfl
      | ⟨7, _⟩ => rfl
      | ⟨k + 8, h⟩ => exact absurd h (by omega)
    exact ix_at (this ⟨t, tl⟩)
  have e2 : binop .mod (.int (n / 1664)) (.int (1 + (z : Int))) = .ok (.int (at_ : Int)) := by rw [b_mod (by omega), hat]
  let ys0 : List Str := (List.range (1 + z)).map fun k : Nat => ⟨#[ltr (mixV n (20 + k))]⟩
  have hs1 : (ys0.map fun y : Str => y.length).sum + ys0.length * (Str.ofString "").length ≤ most := by
    have e : (ys0.map fun y : Str => y.length) = (List.range (1 + z)).map fun _ => 1 := by
      simp only [ys0, List.map_map]
      rfl
    have e2 : (Str.ofString "").length = 0 := by decide
    have e3 : ∀ l : List Nat, (l.map fun _ => 1).sum = l.length := fun l => by induction l with | nil => rfl | cons a l ih => rw [List.map_cons, List.sum_cons, ih, List.length_cons]; omega
    rw [e, e2, e3]
    simp
    unfold most
    omega
  obtain ⟨S, hS⟩ : ∃ S : Str, S = PySem.Txt.join (Str.ofString "") ys0 := ⟨_, rfl⟩
  have Sc : S.cps.toList = st := by
    rw [hS, join_cps, hst]
    simp only [ys0, List.map_map]
    have : ((fun x : Str => x.cps.toList) ∘ fun k : Nat => (⟨#[ltr (mixV n (20 + k))]⟩ : Str)) = fun k : Nat => [ltr (mixV n (20 + k))] := rfl
    rw [this]
    induction List.range (1 + z) with
    | nil => rfl
    | cons a l ih => simp only [List.map_cons, List.flatten_cons, ih]; rfl
  have Sl : S.length = 1 + z := by rw [len_cps, Sc, stl]
  have j1 : ∀ o, joinV (.str (Str.ofString "")) (.lst o (ys0.map PV.str)) = .ok (.str S) := fun o => by rw [join_strs hs1, hS]
  have lc : ∀ (e : PEnv → Res PV) (env : PEnv), (∀ k, k < 1 + z → e (env.set 8 (some (.int (k : Int)))) = .ok (.str ⟨#[ltr (mixV n (20 + k))]⟩)) → lcL [8] (fun _ => .ok true) e env (rngI 0 (1 + (z : Int))) [] = .ok (ys0.map PV.str) := fun e env h => by
    have := lcR (fun k => PV.str ⟨#[ltr (mixV n (20 + k))]⟩) h (by unfold most; omega)
    push_cast at this
    rw [this]
    simp [ys0, Function.comp_def]
  have r1 : rngV [.int (1 + (z : Int))] = .ok (rngI 0 (1 + (z : Int))) := by
    have := rng1 (n := 1 + z) (by omega)
    push_cast at this
    exact this
  have r2 := rng1 (n := many) (by omega)
  refine ⟨(List.range many).map (nmS st at_ F sp (decide (n / 13312 % 2 = 0))), by simp, ?_, fun y hy => ?_, ?_⟩
  · refine nodup_mapOn List.nodup_range fun i hi j hj h => ?_
    rw [List.mem_range] at hi hj
    exact nmC_inj (st := st) (at_ := at_) (first := F) (step := sp) (b := decide (n / 13312 % 2 = 0)) (i := i) (j := j) (by omega) ⟨f0, f1⟩ ⟨⟨t, tl⟩, hsp⟩ (by omega) (by omega) (by rw [← nmS_cps, ← nmS_cps, h])
  · obtain ⟨k, _, rfl⟩ := List.mem_map.mp hy
    exact nmC_good (by omega) (by omega) str_
  · rw [t__law_names]
    simp only [b__law_names, runB]
    have s1 : slcop (.str S) none (some (at_ : Int)) = .ok (.str (L2.cutS S none (some (at_ : Int)))) := slc_str (by rw [Sl]; unfold most; omega)
    have s2 : slcop (.str S) (some ((at_ : Int) + 1)) none = .ok (.str (L2.cutS S (some ((at_ : Int) + 1)) none)) := slc_str (by rw [Sl]; unfold most; omega)
    have l1 : (L2.cutS S none (some (at_ : Int))).cps.toList = st.take at_ := by rw [cutS_toL (by omega), Sc]
    have l2 : (L2.cutS S (some ((at_ : Int) + 1)) none).cps.toList = st.drop (at_ + 1) := by
      have := cutS_fromL (z := S) (k := at_ + 1) (by omega)
      push_cast at this
      rw [this, Sc]
    have n1 : (L2.cutS S none (some (at_ : Int))).length ≤ 8 := by rw [len_cps, l1, List.length_take]; omega
    have n2 : (L2.cutS S (some ((at_ : Int) + 1)) none).length ≤ 8 := by rw [len_cps, l2, List.length_drop]; omega
    generalize L2.cutS S none (some (at_ : Int)) = A at s1 l1 n1
    generalize L2.cutS S (some ((at_ : Int) + 1)) none = Z at s2 l2 n2
    have c1 : ∀ c : Nat, (⟨#[c]⟩ : Str).length = 1 := fun c => rfl
    obtain ⟨env', h1, p8, p10, rfl⟩ := forL_rng (t := [8]) (b := fun env => evSs (callF (tabT tab) w (m + 1)) w env l__law_names_0) (fun k env => ∃ p8 p10 : Option PV, env = [some (.int n), some (.int (many : Int)), some (.str abc), some (.int F), some (.int sp), some (.int (1 + (z : Int))), some (.int (at_ : Int)), some (.str S), p8, some (.lst true (((List.range k).map (nmS st at_ F sp (decide (n / 13312 % 2 = 0)))).map PV.str)), p10]) (n := many)
      (env := [some (.int n), some (.int (many : Int)), some (.str abc), some (.int F), some (.int sp), some (.int (1 + (z : Int))), some (.int (at_ : Int)), some (.str S), none, some (.lst true []), none]) ⟨none, none, rfl⟩ (fun k hk env ⟨p8, p10, e⟩ => by
        subst e
        have hmk : k < most := by unfold most; omega
        have ek : binop .mul (.int (k : Int)) (.int sp) = .ok (.int ((k : Int) * sp)) := b_mul (.inl (by omega))
        have ix := abc_ix (F + (k : Int) * sp)
        have ad1 : binop .add (.str A) (.str ⟨#[ltr (F + (k : Int) * sp)]⟩) = .ok (.str (A ++ ⟨#[ltr (F + (k : Int) * sp)]⟩)) := b_addS (by rw [c1]; unfold most; omega)
        have ad2 : binop .add (.str (A ++ ⟨#[ltr (F + (k : Int) * sp)]⟩)) (.str Z) = .ok (.str (A ++ ⟨#[ltr (F + (k : Int) * sp)]⟩ ++ Z)) := b_addS (by rw [len_app, c1]; unfold most; omega)
        have ix2 := abc_ix F
        rw [F26] at ix2
        have k4 : (k : Int) % 4 = ((k % 4 : Nat) : Int) := by push_cast; rfl
        have mu : binop .mul (.str ⟨#[ltr F]⟩) (.int ((k : Int) % 4)) = .ok (.str (repS ⟨#[ltr F]⟩ ((k : Int) % 4))) := if_pos (by
          rw [Bool.and_eq_true, decide_eq_true_eq, decide_eq_true_eq, c1]
          exact ⟨rfl, by decide, by omega, by omega⟩)
        have rl : (repS ⟨#[ltr F]⟩ ((k : Int) % 4)).cps.toList = List.replicate (k % 4) (ltr F) := by
          show (((List.replicate ((k : Int) % 4).toNat [ltr F]).flatten).toArray).toList = _
          rw [k4, Int.toNat_natCast]
          induction k % 4 with
          | zero => rfl
          | succ j ih => simpa [List.replicate_succ] using ih
        have rl2 : (repS ⟨#[ltr F]⟩ ((k : Int) % 4)).length ≤ 4 := by rw [len_cps, rl, List.length_replicate]; omega
        have ad3 : binop .add (.str (repS ⟨#[ltr F]⟩ ((k : Int) % 4))) (.str ⟨#[ltr (F + (k : Int) * sp)]⟩) = .ok (.str (repS ⟨#[ltr F]⟩ ((k : Int) % 4) ++ ⟨#[ltr (F + (k : Int) * sp)]⟩)) := b_addS (by rw [c1]; unfold most; omega)
        refine ⟨_, bindT1, [some (.int n), some (.int (many : Int)), some (.str abc), some (.int F), some (.int sp), some (.int (1 + (z : Int))), some (.int (at_ : Int)), some (.str S), some (.int (k : Int)), some (.lst true (((List.range (k + 1)).map (nmS st at_ F sp (decide (n / 13312 % 2 = 0)))).map PV.str)), some (.str ⟨#[ltr (F + (k : Int) * sp)]⟩)], .inl ?_, _, _, rfl⟩
        rw [List.range_succ, List.map_append, List.map_append, List.map_singleton, List.map_singleton]
        have len : ((List.map PV.str (List.map (nmS st at_ F sp (decide (n / 13312 % 2 = 0))) (List.range k)))).length < most := by simpa using hmk
        generalize List.map PV.str (List.map (nmS st at_ F sp (decide (n / 13312 % 2 = 0))) (List.range k)) = L at len ⊢
        simp only [l__law_names_0]
        by_cases q : n / 13312 % 2 = 0
        · have en : nmS st at_ F sp (decide (n / 13312 % 2 = 0)) k = A ++ ⟨#[ltr (F + (k : Int) * sp)]⟩ ++ Z := str_ext (by
            rw [nmS_cps, app_cps, app_cps, l1, l2]
            unfold nmC
            rw [if_pos (decide_eq_true q)]
            simp)
          rw [en]
          simp [ek, ix, q, s1, s2, ad1, ad2, hasL, kept, len]
        · have en : nmS st at_ F sp (decide (n / 13312 % 2 = 0)) k = repS ⟨#[ltr F]⟩ ((k : Int) % 4) ++ ⟨#[ltr (F + (k : Int) * sp)]⟩ := str_ext (by
            rw [nmS_cps, app_cps, rl]
            unfold nmC
            rw [if_neg (by simpa using q)])
          rw [en]
          simp [ek, ix, q, ix2, mu, ad3, hasL, kept, len])
    simp [e1, e2, r1, hF, hz]
    rw [lc _ _ (fun k hk => by simp [w_mix, abc_ix])]
    simp [evE_meth, mthOk, mthV, j1, r2, h1]
end BW.Law

namespace BW.Law
open PySem
variable {m w : Nat}
theorem w_bits_of (n : Nat) (x : Int) (h : n ≤ 1000) : callF (tabT tab) w (m + 1) f_bits_of [.int (n : Int), .int x] = .ok (.lst true ((bitsL n x).map PV.int)) := by
  rw [t_bits_of]
  simp only [b_bits_of, runB]
  obtain ⟨env', h1, p, rfl⟩ := forL_rng (t := [3]) (b := fun env => evSs (callF (tabT tab) w m) w env l_bits_of_0) (fun i env => ∃ p : Option PV, env = [some (.int n), some (.int (x / 2 ^ i)), some (.lst true ((bitsL i x).map PV.int)), p]) (n := n) (env := [some (.int n), some (.int x), some (.lst true []), none]) ⟨none, by simp [bitsL]⟩ (fun i hi env ⟨p, e⟩ => by
    subst e
    have hm : i < most := by unfold most; omega
    refine ⟨_, bindT1, [some (.int n), some (.int (x / 2 ^ (i + 1))), some (.lst true ((bitsL (i + 1) x).map PV.int)), some (.int (i : Int))], .inl ?_, _, rfl⟩
    have e2 : x / 2 ^ i / 2 = x / 2 ^ (i + 1) := by
      rw [Int.pow_succ]
      exact Int.ediv_ediv_of_nonneg (Int.le_of_lt (pow_pos2 i))
    simp only [l_bits_of_0]
    simp [hasL, kept, hm, bitsL_snoc, e2])
  simp [rng1 (show n ≤ 1000000 by omega), h1]
theorem w_and_mark (a b : Int) : callF (tabT tab) w (m + 1) f_and_mark [.int a, .int b] = .ok (.int (mAnd a b)) := by
  rw [t_and_mark]
  simp only [b_and_mark, runB]
  unfold mAnd
  by_cases h1 : a = 0
  · simp [h1]
  · by_cases h2 : b = 0
    · simp [h2]
    · simp [h1, h2]
theorem w_or_mark (a b : Int) : callF (tabT tab) w (m + 1) f_or_mark [.int a, .int b] = .ok (.int (mOr a b)) := by
  rw [t_or_mark]
  simp only [b_or_mark, runB]
  unfold mOr
  by_cases h1 : a = 1
  · simp [h1]
  · by_cases h2 : b = 1
    · simp [h2]
    · simp [h1, h2]
theorem w_xor_mark (a b : Int) : callF (tabT tab) w (m + 1) f_xor_mark [.int a, .int b] = .ok (.int (mXor a b)) := by
  rw [t_xor_mark]
  simp only [b_xor_mark, runB]
  unfold mXor
  by_cases h1 : a = 2
  · simp [h1]
  · by_cases h2 : b = 2
    · simp [h2]
    · by_cases h3 : a = b
      · simp [h1, h2, h3, biV, bi1, intV]
      · simp [h1, h2, h3, biV, bi1, intV]
theorem w_carried {a b c : Int} (ha : isM a) (hb : isM b) (hc : isM c) : callF (tabT tab) w (m + 1) f_carried [.lst false [.int a, .int b, .int c]] = .ok (.int (mCar a b c)) := by
  rw [t_carried]
  rcases ha with rfl | rfl | rfl <;> rcases hb with rfl | rfl | rfl <;> rcases hc with rfl | rfl | rfl <;> rfl
theorem w_turned {o : Bool} {xs : List Int} (hx : ∀ x ∈ xs, isM x) (hl : xs.length ≤ 1000) : callF (tabT tab) w (m + 1) f_turned [.lst o (xs.map PV.int)] = .ok (.lst true ((xs.map mNot).map PV.int)) := by
  rw [t_turned]
  simp only [b_turned, runB]
  simp
  rw [lcL_ints (g := mNot) (fun x h => by
    rcases hx x h with rfl | rfl | rfl <;> simp [mNot]) (by unfold most; omega)]
  simp
theorem mSum_snoc : ∀ {xs ys : List Int} {x y c : Int}, xs.length = ys.length → mSum (xs ++ [x]) (ys ++ [y]) c = ((mSum xs ys c).1 ++ [mXor (mXor x y) (mSum xs ys c).2], mCar x y (mSum xs ys c).2)
  | [], [], x, y, c, _ => rfl
  | [], _ :: _, _, _, _, h => by cases h
  | _ :: _, [], _, _, _, h => by cases h
  | a :: xs, b :: ys, x, y, c, h => by
    simp only [List.cons_append, mSum]
    rw [mSum_snoc (by simpa using h)]
theorem take_snoc {xs : List Int} {k : Nat} (h : k < xs.length) : xs.take (k + 1) = xs.take k ++ [xs.getD k 0] := by
  rw [List.take_succ_eq_append_getElem h, List.getD_eq_getElem?_getD, List.getElem?_eq_getElem h]
  rfl
theorem getD_mem {xs : List Int} {k : Nat} (h : k < xs.length) : xs.getD k 0 ∈ xs := by
  rw [List.getD_eq_getElem?_getD, List.getElem?_eq_getElem h]
  exact List.getElem_mem h
theorem w_summed {o o' : Bool} {xs ys : List Int} {c : Int} (hx : ∀ x ∈ xs, isM x) (hy : ∀ y ∈ ys, isM y) (hc : isM c) (he : xs.length = ys.length) (hl : xs.length ≤ 1000) : callF (tabT tab) w (m + 2) f_summed [.lst o (xs.map PV.int), .lst o' (ys.map PV.int), .int c] = .ok (.tup [.lst true ((mSum xs ys c).1.map PV.int), .int (mSum xs ys c).2]) := by
  rw [t_summed]
  simp only [b_summed, runB]
  obtain ⟨env', h1, p, rfl⟩ := forL_rng (t := [4]) (b := fun env => evSs (callF (tabT tab) w (m + 1)) w env l_summed_0) (fun k env => ∃ p : Option PV, env = [some (.lst o (xs.map PV.int)), some (.lst o' (ys.map PV.int)), some (.int (mSum (xs.take k) (ys.take k) c).2), some (.lst true ((mSum (xs.take k) (ys.take k) c).1.map PV.int)), p]) (n := xs.length) (env := [some (.lst o (xs.map PV.int)), some (.lst o' (ys.map PV.int)), some (.int c), some (.lst true []), none]) ⟨none, rfl⟩ (fun k hk env ⟨p, e⟩ => by
    subst e
    have hk2 : k < ys.length := by omega
    have q := isM_sum (xs := xs.take k) (ys := ys.take k) (c := c) (fun x h => hx x (List.mem_of_mem_take h)) (fun y h => hy y (List.mem_of_mem_take h)) hc
    have lk : (mSum (xs.take k) (ys.take k) c).1.length < most := by
      rw [mSum_len (by simp; omega), List.length_take]
      unfold most
      omega
    refine ⟨_, bindT1, [some (.lst o (xs.map PV.int)), some (.lst o' (ys.map PV.int)), some (.int (mSum (xs.take (k + 1)) (ys.take (k + 1)) c).2), some (.lst true ((mSum (xs.take (k + 1)) (ys.take (k + 1)) c).1.map PV.int)), some (.int (k : Int))], .inl ?_, _, rfl⟩
    rw [take_snoc hk, take_snoc hk2, mSum_snoc (by simp; omega)]
    generalize mSum (xs.take k) (ys.take k) c = S at q lk ⊢
    have cw := w_carried (w := w) (m := m) (hx _ (getD_mem hk)) (hy _ (getD_mem hk2)) q.2
    simp only [l_summed_0]
    simp [-List.getD_eq_getElem?_getD, ix_ints hk, ix_ints hk2, w_xor_mark, hasL, kept, lk, cw])
  simp [rng1 (show xs.length ≤ 1000000 by omega), h1]
  rw [he]
  simp
theorem w_same_mark {o o' : Bool} {xs ys : List Int} (he : xs.length = ys.length) (hl : xs.length ≤ 1000) : callF (tabT tab) w (m + 2) f_same_mark [.lst o (xs.map PV.int), .lst o' (ys.map PV.int)] = .ok (.int (mSame xs ys)) := by
  rw [t_same_mark]
  simp only [b_same_mark, runB]
  have lc : ∀ (e : PEnv → Res PV) (env : PEnv), (∀ k, k < xs.length → e (env.set 3 (some (.int (k : Int)))) = .ok (.int (mXor (xs.getD k 0) (ys.getD k 0)))) → lcL [3] (fun _ => .ok true) e env (rngI 0 (xs.length : Int)) [] = .ok ((List.zipWith mXor xs ys).map PV.int) := fun e env h => by
    rw [lcR (fun k => .int (mXor (xs.getD k 0) (ys.getD k 0))) h (by unfold most; omega), ← zip_range xs ys he]
    simp [Function.comp_def]
  have fz : ∀ v : Int, (inop false (.int v) (.lst false ((List.zipWith mXor xs ys).map PV.int))) = .ok (.bl (decide (v ∈ List.zipWith mXor xs ys))) := fun v => by
    have fl : ∀ zs : List Int, (zs.map PV.int).all flat = true := fun zs => by induction zs with | nil => rfl | cons z zs ih => simpa using ih
    have fi : ∀ zs : List Int, fin (.int v) (zs.map PV.int) = decide (v ∈ zs) := fun zs => by
      induction zs with
      | nil => rfl
      | cons z zs ih =>
        rw [List.map_cons, fin_cons, feq_int, ih]
        by_cases q : z = v
        · simp [q]
        · have q2 : ¬ v = z := fun e => q e.symm
          simp [q, q2]
    show (if (flat (.int v) && ((List.zipWith mXor xs ys).map PV.int).all flat) = true then Res.ok (PV.bl (fin (.int v) ((List.zipWith mXor xs ys).map PV.int))) else _) = _
    rw [if_pos (by rw [fl]; rfl), fi]
  have cin : ∀ v : Int, cmpop .isin (.int v) (.lst false ((List.zipWith mXor xs ys).map PV.int)) = .ok (.bl (decide (v ∈ List.zipWith mXor xs ys))) := fz
  unfold mSame
  generalize List.zipWith mXor xs ys = Z at lc cin ⊢
  simp [rng1 (show xs.length ≤ 1000000 by omega)]
  rw [lc _ _ (fun k hk => by
    have hk2 : k < ys.length := by omega
    simp [-List.getD_eq_getElem?_getD, ix_ints hk, ix_ints hk2, w_xor_mark])]
  by_cases h1 : 1 ∈ Z
  · simp [cin, h1]
  · by_cases h2 : 2 ∈ Z
    · simp [cin, h1, h2]
    · simp [cin, h1, h2]
theorem w_picked {o o' : Bool} {xs ys : List Int} {c : Int} (hc : isM c) (he : xs.length = ys.length) (hl : xs.length ≤ 1000) : ∃ o2 : Bool, callF (tabT tab) w (m + 1) f_picked [.int c, .lst o (xs.map PV.int), .lst o' (ys.map PV.int)] = .ok (.lst o2 ((mPick c xs ys).map PV.int)) := by
  rw [t_picked]
  simp only [b_picked, runB]
  have lc : ∀ (e : PEnv → Res PV) (env : PEnv), (∀ k, k < xs.length → e (env.set 3 (some (.int (k : Int)))) = .ok (.int ((fun a b => if a = b then a else 2) (xs.getD k 0) (ys.getD k 0)))) → lcL [3] (fun _ => .ok true) e env (rngI 0 (xs.length : Int)) [] = .ok ((List.zipWith (fun a b => if a = b then a else 2) xs ys).map PV.int) := fun e env h => by
    rw [lcR (fun k => .int ((fun a b => if a = b then a else 2) (xs.getD k 0) (ys.getD k 0))) h (by unfold most; omega), ← zip_range xs ys he]
    simp [Function.comp_def]
  unfold mPick
  rcases hc with rfl | rfl | rfl
  · exact ⟨o', by simp⟩
  · exact ⟨o, by simp⟩
  · refine ⟨true, ?_⟩
    rw [if_neg (by decide), if_neg (by decide)]
    generalize List.zipWith (fun a b : Int => if a = b then a else 2) xs ys = Z at lc ⊢
    simp [rng1 (show xs.length ≤ 1000000 by omega)]
    rw [lc _ _ (fun k hk => by
      have hk2 : k < ys.length := by omega
      by_cases q : xs.getD k 0 = ys.getD k 0
      · simp [-List.getD_eq_getElem?_getD, ix_ints hk, ix_ints hk2, q, biV, bi1, intV]
      · simp [-List.getD_eq_getElem?_getD, ix_ints hk, ix_ints hk2, q, biV, bi1, intV])]
    simp
end BW.Law

namespace BW.Law
open PySem
variable {m w : Nat}
theorem w_two_dims {f : F2} (hf : f ≠ .join) {o o' : Bool} {xs ys : List Int} (hx : ∀ x ∈ xs, isM x) (hy : ∀ y ∈ ys, isM y) (he : xs.length = ys.length) (hl : xs.length ≤ 1000) : callF (tabT tab) w (m + 3) f_two_dims [.str f.s, .lst o (xs.map PV.int), .lst o' (ys.map PV.int)] = .ok (.lst true ((f.dim xs ys).map PV.int)) := by
  rw [t_two_dims]
  simp only [b_two_dims, runB]
  have lc : ∀ (g : Int → Int → Int) (e : PEnv → Res PV) (env : PEnv), (∀ k, k < xs.length → e (env.set 3 (some (.int (k : Int)))) = .ok (.int (g (xs.getD k 0) (ys.getD k 0)))) → lcL [3] (fun _ => .ok true) e env (rngI 0 (xs.length : Int)) [] = .ok ((List.zipWith g xs ys).map PV.int) := fun g e env h => by
    rw [lcR (fun k => .int (g (xs.getD k 0) (ys.getD k 0))) h (by unfold most; omega), ← zip_range xs ys he]
    simp [Function.comp_def]
  have r1 := rng1 (show xs.length ≤ 1000000 by omega)
  have hn : ∀ y ∈ ys.map mNot, isM y := fun y hy' => by
    obtain ⟨z, hz, rfl⟩ := List.mem_map.mp hy'
    exact isM_not (hy z hz)
  have tn : ∀ p : Bool, callF (tabT tab) w (m + 2) f_turned [.lst p (ys.map PV.int)] = .ok (.lst true ((ys.map mNot).map PV.int)) := fun p => w_turned (m := m + 1) hy (by omega)
  have sm : ∀ (zs : List Int) (c : Int) (p q : Bool), (∀ y ∈ zs, isM y) → isM c → xs.length = zs.length → callF (tabT tab) w (m + 2) f_summed [.lst p (xs.map PV.int), .lst q (zs.map PV.int), .int c] = .ok (.tup [.lst true ((mSum xs zs c).1.map PV.int), .int (mSum xs zs c).2]) := fun zs c p q h1 h2 h3 => w_summed hx h1 h2 h3 hl
  have sa := w_same_mark (w := w) (m := m) (o := false) (o' := false) he hl
  have ar : ∀ {g : Int → Int → Int} (k : Nat) (_ : k < xs.length), k < ys.length := fun k h => by omega
  cases f with
  | and =>
    simp only [F2.dim]
    have lc := lc mAnd
    generalize List.zipWith mAnd xs ys = Z at lc ⊢
    simp [F2.s, r1]
    rw [lc _ _ (fun k hk => by simp [-List.getD_eq_getElem?_getD, ix_ints hk, ix_ints (show k < ys.length by omega), w_and_mark])]
    simp
  | or =>
    simp only [F2.dim]
    have lc := lc mOr
    generalize List.zipWith mOr xs ys = Z at lc ⊢
    simp [F2.s, r1]
    rw [lc _ _ (fun k hk => by simp [-List.getD_eq_getElem?_getD, ix_ints hk, ix_ints (show k < ys.length by omega), w_or_mark])]
    simp
  | xor =>
    simp only [F2.dim]
    have lc := lc mXor
    generalize List.zipWith mXor xs ys = Z at lc ⊢
    simp [F2.s, r1]
    rw [lc _ _ (fun k hk => by simp [-List.getD_eq_getElem?_getD, ix_ints hk, ix_ints (show k < ys.length by omega), w_xor_mark])]
    simp
  | plus =>
    simp only [F2.dim]
    simp [F2.s, fun p q => sm ys 0 p q hy (.inl rfl) he, mvI]
  | minus =>
    simp only [F2.dim]
    have s1 := fun p q => sm _ 1 p q hn (.inr (.inl rfl)) (by simpa using he)
    generalize ys.map mNot = Y at tn s1 ⊢
    simp [F2.s, tn, s1, mvI]
  | less =>
    simp only [F2.dim]
    have s1 := fun p q => sm _ 1 p q hn (.inr (.inl rfl)) (by simpa using he)
    have q := (isM_sum hx hn (.inr (.inl rfl)) (c := 1)).2
    generalize ys.map mNot = Y at tn s1 q ⊢
    have t2 := w_turned (w := w) (m := m + 1) (o := true) (xs := [(mSum xs Y 1).2]) (fun x hx => by rw [List.mem_singleton.mp hx]; exact q) (by simp)
    simp at t2
    simp [F2.s, tn, s1, t2]
  | same =>
    simp only [F2.dim]
    simp [F2.s, sa]
  | join => exact absurd rfl hf
section
variable {B D : Dc} {E L O : Dm}
theorem w_pickedO {xs ys : List Int} {c : Int} (hc : isM c) (he : xs.length = ys.length) (hl : xs.length ≤ 1000) : callF (tabT tab) w (m + 1) f_picked [.int c, .lst true (xs.map PV.int), .lst true (ys.map PV.int)] = .ok (.lst true ((mPick c xs ys).map PV.int)) := by
  rw [t_picked]
  simp only [b_picked, runB]
  have lc : ∀ (e : PEnv → Res PV) (env : PEnv), (∀ k, k < xs.length → e (env.set 3 (some (.int (k : Int)))) = .ok (.int ((fun a b => if a = b then a else 2) (xs.getD k 0) (ys.getD k 0)))) → lcL [3] (fun _ => .ok true) e env (rngI 0 (xs.length : Int)) [] = .ok ((List.zipWith (fun a b => if a = b then a else 2) xs ys).map PV.int) := fun e env h => by
    rw [lcR (fun k => .int ((fun a b => if a = b then a else 2) (xs.getD k 0) (ys.getD k 0))) h (by unfold most; omega), ← zip_range xs ys he]
    simp [Function.comp_def]
  unfold mPick
  rcases hc with rfl | rfl | rfl
  · simp
  · simp
  · rw [if_neg (by decide), if_neg (by decide)]
    generalize List.zipWith (fun a b : Int => if a = b then a else 2) xs ys = Z at lc ⊢
    simp [rng1 (show xs.length ≤ 1000000 by omega)]
    rw [lc _ _ (fun k hk => by
      have hk2 : k < ys.length := by omega
      by_cases q : xs.getD k 0 = ys.getD k 0
      · simp [-List.getD_eq_getElem?_getD, ix_ints hk, ix_ints hk2, q, biV, bi1, intV]
      · simp [-List.getD_eq_getElem?_getD, ix_ints hk, ix_ints hk2, q, biV, bi1, intV])]
    simp
theorem w_dim (hB : Wd B) (hD : Wd D) : ∀ (n : Nat) (t : Tm), t.ok B D → Mk B D E L O t → t.deep ≤ n → callF (tabT tab) w (n + 4) f_dim [t.pv, dMM false false E, dMM false false L, dMM false false O] = .ok (.lst true ((t.dim E L O).map PV.int))
  | 0, t, _, _, h => absurd t.deep_pos (by omega)
  | k + 1, t, ok, M, h => by
    rw [t_dim]
    simp only [b_dim, runB]
    have sl : ∀ z ∈ t.sub, z.ok B D → callF (tabT tab) w (k + 4) f_dim [z.pv, dMM false false E, dMM false false L, dMM false false O] = .ok (.lst true ((z.dim E L O).map PV.int)) := fun z hz oz => w_dim hB hD k z oz (M.sub hz) (by have := sub_lt hz; omega)
    have is : ∀ {z : Tm}, z ∈ t.sub → z.ok B D → (z.dim E L O).length = (z.wid B D).toNat ∧ (∀ x ∈ z.dim E L O, isM x) ∧ (z.dim E L O).length ≤ 1000 ∧ 1 ≤ (z.dim E L O).length := fun hz oz => by
      obtain ⟨h1, h2⟩ := Tm.dim_is hB hD oz (M.sub hz)
      have := Tm.wid_le hB hD oz
      exact ⟨h1, h2, by omega, by omega⟩
    cases t with
    | num a x =>
      have ha := ok.1
      have hb := ok.2.1
      obtain ⟨n, rfl⟩ := Int.eq_ofNat_of_zero_le (show 0 ≤ a by omega)
      simp [Tm.dim, w_bits_of (w := w) (m := k + 3) n x (by omega)]
    | box z =>
      obtain ⟨a, ha⟩ := Option.isSome_iff_exists.mp ok
      obtain ⟨xs, e, l, mm⟩ := M.b z (by simp [Tm.nms]) a ha
      simp [Tm.dim, e, ix_dMM e]
    | late z =>
      obtain ⟨a, ha⟩ := Option.isSome_iff_exists.mp ok
      obtain ⟨xs, e, l, mm⟩ := M.l z (by simp [Tm.nms]) a ha
      simp [Tm.dim, e, ix_dMM e]
    | door z =>
      obtain ⟨a, ha⟩ := Option.isSome_iff_exists.mp ok
      obtain ⟨xs, e, l, mm⟩ := M.d z (by simp [Tm.nms]) a ha
      simp [Tm.dim, e, ix_dMM e]
    | not t =>
      have e1 := sl t (by simp [Tm.sub]) ok
      obtain ⟨_, mt, lt, _⟩ := is (z := t) (by simp [Tm.sub]) ok
      have tn := w_turned (w := w) (m := k + 3) (o := true) mt lt
      simp only [Tm.dim]
      simp at tn
      simp [e1, tn]
    | part t lo many =>
      have e1 := sl t (by simp [Tm.sub]) ok.1
      obtain ⟨lt, _, _, _⟩ := is (z := t) (by simp [Tm.sub]) ok.1
      have hp := ok.2
      have c := cut_mid (xs := (t.dim E L O).map PV.int) (lo := lo) (many := many) (by omega) (by omega) (by simp [lt]; omega)
      simp only [Tm.dim]
      rw [List.map_take, List.map_drop, ← c]
      simp [e1]
    | two f t u =>
      have e1 := sl t (by simp [Tm.sub]) ok.1
      have e2 := sl u (by simp [Tm.sub]) ok.2.1
      obtain ⟨lt, mt, lt1, _⟩ := is (z := t) (by simp [Tm.sub]) ok.1
      obtain ⟨lu, mu, lu1, _⟩ := is (z := u) (by simp [Tm.sub]) ok.2.1
      by_cases hj : f = .join
      · subst hj
        simp only [Tm.dim, F2.dim]
        have ad : binop .add (.lst false ((u.dim E L O).map PV.int)) (.lst false ((t.dim E L O).map PV.int)) = .ok (.lst true ((u.dim E L O ++ t.dim E L O).map PV.int)) := by
          rw [b_addL (by unfold most; simp; omega)]
          simp
        simp at ad
        simp [F2.s, e1, e2, ad]
      · have hw := ok.2.2
        rw [if_neg hj] at hw
        have e3 := w_two_dims (w := w) (m := k + 1) hj (o := true) (o' := true) mt mu (by rw [lt, lu, hw]) lt1
        simp only [Tm.dim]
        have nj : ¬ f.s = ("join" : Str) := by cases f <;> simp [F2.s] at hj ⊢
        simp [e1, e2, e3, nj]
    | pick c t u =>
      have e0 := sl c (by simp [Tm.sub]) ok.1
      have e1 := sl t (by simp [Tm.sub]) ok.2.1
      have e2 := sl u (by simp [Tm.sub]) ok.2.2.1
      obtain ⟨lc, mc, _, lc0⟩ := is (z := c) (by simp [Tm.sub]) ok.1
      obtain ⟨lt, mt, lt1, _⟩ := is (z := t) (by simp [Tm.sub]) ok.2.1
      obtain ⟨lu, mu, lu1, _⟩ := is (z := u) (by simp [Tm.sub]) ok.2.2.1
      have i0 : idxop (.lst false ((c.dim E L O).map PV.int)) (.int 0) = .ok (.int ((c.dim E L O).headD 0)) := by
        have := ix_ints (o := false) (xs := c.dim E L O) (k := 0) (by omega)
        rw [show ((0 : Nat) : Int) = 0 from rfl] at this
        rw [this]
        cases c.dim E L O <;> rfl
      have mh : isM ((c.dim E L O).headD 0) := by
        cases q : c.dim E L O with
        | nil => exact .inl rfl
        | cons x xs => exact mc x (by rw [q]; exact List.mem_cons_self)
      have e3 := w_pickedO (w := w) (m := k + 3) (xs := t.dim E L O) (ys := u.dim E L O) mh (by rw [lt, lu, ok.2.2.2.2]) lt1
      simp only [Tm.dim]
      generalize (c.dim E L O).headD 0 = hd at i0 e3 ⊢
      simp [e0, e1, e2, i0, e3]
end
end BW.Law

namespace BW.Law
open PySem
variable {m w : Nat}
def tb3 (f : Int → Int → Int) : PV := .tup [.tup [.int (f 0 0), .int (f 0 1), .int (f 0 2)], .tup [.int (f 1 0), .int (f 1 1), .int (f 1 2)], .tup [.int (f 2 0), .int (f 2 1), .int (f 2 2)]]
theorem tb3_ix {f : Int → Int → Int} {a b : Int} (ha : isM a) (hb : isM b) : ∃ r, idxop (tb3 f) (.int a) = .ok r ∧ idxop (frz r) (.int b) = .ok (.int (f a b)) ∧ frz r = r := by
  rcases ha with rfl | rfl | rfl <;> rcases hb with rfl | rfl | rfl <;> exact ⟨_, rfl, rfl, rfl⟩
def mBoth (a b : Int) : Int := mAnd a b
theorem tabs : tb3 mAnd = .tup [.tup [.int 0, .int 0, .int 0], .tup [.int 0, .int 1, .int 2], .tup [.int 0, .int 2, .int 2]] ∧ tb3 mOr = .tup [.tup [.int 0, .int 1, .int 2], .tup [.int 1, .int 1, .int 1], .tup [.int 2, .int 1, .int 2]] ∧ tb3 mXor = .tup [.tup [.int 0, .int 1, .int 2], .tup [.int 1, .int 0, .int 2], .tup [.int 2, .int 2, .int 2]] := ⟨rfl, rfl, rfl⟩
theorem car_eq {a b c : Int} (ha : isM a) (hb : isM b) (hc : isM c) : mOr (mAnd a b) (mAnd c (mOr a b)) = mCar a b c := by
  rcases ha with rfl | rfl | rfl <;> rcases hb with rfl | rfl | rfl <;> rcases hc with rfl | rfl | rfl <;> rfl
theorem w_lsum {o o' : Bool} {xs ys : List Int} {c : Int} (hx : ∀ x ∈ xs, isM x) (hy : ∀ y ∈ ys, isM y) (hc : isM c) (he : xs.length = ys.length) (hl : xs.length ≤ 1000) : callF (tabT tab) w (m + 1) f__law_sum [.lst o (xs.map PV.int), .lst o' (ys.map PV.int), .int c] = .ok (.lst true (((mSum xs ys c).1 ++ [(mSum xs ys c).2]).map PV.int)) := by
  rw [t__law_sum]
  simp only [b__law_sum, runB]
  obtain ⟨t1, t2, t3⟩ := tabs
  obtain ⟨env', h1, p, pa, pb, rfl⟩ := forL_rng (t := [7]) (b := fun env => evSs (callF (tabT tab) w m) w env l__law_sum_0) (fun k env => ∃ p pa pb : Option PV, env = [some (.lst o (xs.map PV.int)), some (.lst o' (ys.map PV.int)), some (.int (mSum (xs.take k) (ys.take k) c).2), some (tb3 mAnd), some (tb3 mOr), some (tb3 mXor), some (.lst true ((mSum (xs.take k) (ys.take k) c).1.map PV.int)), p, pa, pb]) (n := xs.length) (env := [some (.lst o (xs.map PV.int)), some (.lst o' (ys.map PV.int)), some (.int c), some (tb3 mAnd), some (tb3 mOr), some (tb3 mXor), some (.lst true []), none, none, none]) ⟨none, none, none, rfl⟩ (fun k hk env ⟨p, pa, pb, e⟩ => by
    subst e
    have hk2 : k < ys.length := by omega
    have q := isM_sum (xs := xs.take k) (ys := ys.take k) (c := c) (fun x h => hx x (List.mem_of_mem_take h)) (fun y h => hy y (List.mem_of_mem_take h)) hc
    have lk : (mSum (xs.take k) (ys.take k) c).1.length < most := by
      rw [mSum_len (by simp; omega), List.length_take]
      unfold most
      omega
    refine ⟨_, bindT1, [some (.lst o (xs.map PV.int)), some (.lst o' (ys.map PV.int)), some (.int (mSum (xs.take (k + 1)) (ys.take (k + 1)) c).2), some (tb3 mAnd), some (tb3 mOr), some (tb3 mXor), some (.lst true ((mSum (xs.take (k + 1)) (ys.take (k + 1)) c).1.map PV.int)), some (.int (k : Int)), some (.int (xs.getD k 0)), some (.int (ys.getD k 0))], .inl ?_, _, _, _, rfl⟩
    rw [take_snoc hk, take_snoc hk2, mSum_snoc (by simp; omega)]
    have ha := hx _ (getD_mem hk)
    have hb := hy _ (getD_mem hk2)
    have ia := ix_ints (o := false) hk
    have ib := ix_ints (o := false) hk2
    generalize mSum (xs.take k) (ys.take k) c = S at q lk ⊢
    generalize xs.getD k 0 = a at ha ia ⊢
    generalize ys.getD k 0 = b at hb ib ⊢
    have hq := q.2
    obtain ⟨r1, r1a, r1b, r1f⟩ := tb3_ix (f := mXor) ha hb
    obtain ⟨r2, r2a, r2b, r2f⟩ := tb3_ix (f := mXor) (isM_xor ha hb) hq
    obtain ⟨r3, r3a, r3b, r3f⟩ := tb3_ix (f := mAnd) ha hb
    obtain ⟨r4, r4a, r4b, r4f⟩ := tb3_ix (f := mOr) ha hb
    obtain ⟨r5, r5a, r5b, r5f⟩ := tb3_ix (f := mAnd) hq (isM_or ha hb)
    obtain ⟨r6, r6a, r6b, r6f⟩ := tb3_ix (f := mOr) (isM_and ha hb) (isM_and hq (isM_or ha hb))
    rw [← car_eq ha hb hq]
    have fx : ∀ g, frz (tb3 g) = tb3 g := fun g => by simp [tb3]
    simp only [l__law_sum_0]
    simp [ia, ib, fx, r1a, r1b, r2a, r2b, r3a, r3b, r4a, r4b, r5a, r5b, r6a, r6b, hasL, kept, lk])
  rw [t1, t2, t3] at h1
  have ln : (mSum xs ys c).1.length ≤ 1000 := by rw [mSum_len he]; exact hl
  have ad : binop .add (.lst false ((mSum xs ys c).1.map PV.int)) (.lst false [.int (mSum xs ys c).2]) = .ok (.lst true (((mSum xs ys c).1 ++ [(mSum xs ys c).2]).map PV.int)) := by
    rw [b_addL (by unfold most; simp; omega)]
    simp
  simp at ad
  simp [rng1 (show xs.length ≤ 1000000 by omega), h1]
  rw [he]
  simp [ad]
theorem mem_zip {g : Int → Int → Int} {xs ys : List Int} (he : xs.length = ys.length) {v : Int} : v ∈ List.zipWith g xs ys ↔ ∃ k, k < xs.length ∧ g (xs.getD k 0) (ys.getD k 0) = v := by
  rw [← zip_range xs ys he, List.mem_map]
  constructor
  · rintro ⟨k, hk, e⟩
    exact ⟨k, List.mem_range.mp hk, e⟩
  · rintro ⟨k, hk, e⟩
    exact ⟨k, List.mem_range.mpr hk, e⟩
theorem mem_at {xs : List Int} {v : Int} : v ∈ xs ↔ ∃ k, k < xs.length ∧ xs.getD k 0 = v := by
  rw [List.mem_iff_getElem]
  constructor
  · rintro ⟨k, hk, e⟩
    exact ⟨k, hk, by rw [List.getD_eq_getElem?_getD, List.getElem?_eq_getElem hk]; exact e⟩
  · rintro ⟨k, hk, e⟩
    rw [List.getD_eq_getElem?_getD, List.getElem?_eq_getElem hk] at e
    exact ⟨k, hk, e⟩
theorem mXor_1 {a b : Int} (ha : isM a) (hb : isM b) : mXor a b = 1 ↔ (a = 0 ∧ b = 1) ∨ (a = 1 ∧ b = 0) := by
  rcases ha with rfl | rfl | rfl <;> rcases hb with rfl | rfl | rfl <;> decide
theorem mXor_2 {a b : Int} (ha : isM a) (hb : isM b) : mXor a b = 2 ↔ a = 2 ∨ b = 2 := by
  rcases ha with rfl | rfl | rfl <;> rcases hb with rfl | rfl | rfl <;> decide
theorem w_ltwo {f : F2} (hf : f ≠ .join) {o o' : Bool} {xs ys : List Int} (hx : ∀ x ∈ xs, isM x) (hy : ∀ y ∈ ys, isM y) (he : xs.length = ys.length) (hl : xs.length ≤ 1000) : callF (tabT tab) w (m + 2) f__law_two [.str f.s, .lst o (xs.map PV.int), .lst o' (ys.map PV.int)] = .ok (.lst true ((f.dim xs ys).map PV.int)) := by
  rw [t__law_two]
  simp only [b__law_two, runB]
  obtain ⟨t1, t2, t3⟩ := tabs
  have lc : ∀ (g : Int → Int → Int) (e : PEnv → Res PV) (env : PEnv), (∀ k, k < xs.length → e (env.set 3 (some (.int (k : Int)))) = .ok (.int (g (xs.getD k 0) (ys.getD k 0)))) → lcL [3] (fun _ => .ok true) e env (rngI 0 (xs.length : Int)) [] = .ok ((List.zipWith g xs ys).map PV.int) := fun g e env h => by
    rw [lcR (fun k => .int (g (xs.getD k 0) (ys.getD k 0))) h (by unfold most; omega), ← zip_range xs ys he]
    simp [Function.comp_def]
  have r1 := rng1 (show xs.length ≤ 1000000 by omega)
  have hn : ∀ y ∈ ys.map mNot, isM y := fun y hy' => by
    obtain ⟨z, hz, rfl⟩ := List.mem_map.mp hy'
    exact isM_not (hy z hz)
  have ix3 : ∀ (g : Int → Int → Int) (k : Nat), k < xs.length → ∃ r, idxop (tb3 g) (.int (xs.getD k 0)) = .ok r ∧ idxop (frz r) (.int (ys.getD k 0)) = .ok (.int (g (xs.getD k 0) (ys.getD k 0))) ∧ frz r = r := fun g k hk => tb3_ix (hx _ (getD_mem hk)) (hy _ (getD_mem (by omega)))
  have lt : ∀ (e : PEnv → Res PV) (env : PEnv), (∀ y ∈ ys, e (env.set 5 (some (.int y))) = .ok (.int (mNot y))) → lcL [5] (fun _ => .ok true) e env (ys.map PV.int) [] = .ok ((ys.map mNot).map PV.int) := fun e env h => lcL_ints h (by unfold most; omega)
  have n102 : ∀ y, isM y → idxop (.tup [.int 1, .int 0, .int 2]) (.int y) = .ok (.int (mNot y)) := fun y h => by rcases h with rfl | rfl | rfl <;> rfl
  have sm : ∀ (zs : List Int) (c : Int) (p q : Bool), (∀ y ∈ zs, isM y) → isM c → xs.length = zs.length → callF (tabT tab) w (m + 1) f__law_sum [.lst p (xs.map PV.int), .lst q (zs.map PV.int), .int c] = .ok (.lst true (((mSum xs zs c).1 ++ [(mSum xs zs c).2]).map PV.int)) := fun zs c p q h1 h2 h3 => w_lsum hx h1 h2 h3 hl
  have dl : ∀ (l : List Int) (a : Int), cutP ((l ++ [a]).map PV.int) none (some (-1)) = l.map PV.int := fun l a => by
    rw [cut_m1, List.map_append]
    simp
  cases f with
  | and =>
    simp only [F2.dim]
    have lc := lc mAnd
    generalize List.zipWith mAnd xs ys = Z at lc ⊢
    simp [F2.s, r1, ← t1]
    rw [lc _ _ (fun k hk => by
      obtain ⟨r, ra, rb, rf⟩ := ix3 mAnd k hk
      have fx : frz (tb3 mAnd) = tb3 mAnd := by simp [tb3]
      simp [-List.getD_eq_getElem?_getD, ← t1, fx, ix_ints hk, ix_ints (show k < ys.length by omega), ra, rb])]
    simp
  | or =>
    simp only [F2.dim]
    have lc := lc mOr
    generalize List.zipWith mOr xs ys = Z at lc ⊢
    simp [F2.s, r1, ← t2]
    rw [lc _ _ (fun k hk => by
      obtain ⟨r, ra, rb, rf⟩ := ix3 mOr k hk
      have fx : frz (tb3 mOr) = tb3 mOr := by simp [tb3]
      simp [-List.getD_eq_getElem?_getD, ← t2, fx, ix_ints hk, ix_ints (show k < ys.length by omega), ra, rb])]
    simp
  | xor =>
    simp only [F2.dim]
    have lc := lc mXor
    generalize List.zipWith mXor xs ys = Z at lc ⊢
    simp [F2.s, r1, ← t3]
    rw [lc _ _ (fun k hk => by
      obtain ⟨r, ra, rb, rf⟩ := ix3 mXor k hk
      have fx : frz (tb3 mXor) = tb3 mXor := by simp [tb3]
      simp [-List.getD_eq_getElem?_getD, ← t3, fx, ix_ints hk, ix_ints (show k < ys.length by omega), ra, rb])]
    simp
  | plus =>
    simp only [F2.dim]
    have d := dl (mSum xs ys 0).1 (mSum xs ys 0).2
    have s1 := sm ys 0 false false hy (.inl rfl) he
    generalize (mSum xs ys 0).1 ++ [(mSum xs ys 0).2] = S at s1 d
    simp [F2.s, s1, d]
  | minus =>
    simp only [F2.dim]
    have d := dl (mSum xs (ys.map mNot) 1).1 (mSum xs (ys.map mNot) 1).2
    have s1 := sm (ys.map mNot) 1 false false hn (.inr (.inl rfl)) (by simpa using he)
    generalize (mSum xs (ys.map mNot) 1).1 ++ [(mSum xs (ys.map mNot) 1).2] = S at s1 d
    generalize ys.map mNot = Y at lt s1 d ⊢
    simp [F2.s]
    rw [lt _ _ (fun y h => by simp [n102 y (hy y h)])]
    simp [s1]
    rw [← cutP_map', d]
  | less =>
    simp only [F2.dim]
    have q := (isM_sum hx hn (.inr (.inl rfl)) (c := 1)).2
    have s1 := sm (ys.map mNot) 1 false false hn (.inr (.inl rfl)) (by simpa using he)
    have i1 : idxop (.lst false (((mSum xs (ys.map mNot) 1).1 ++ [(mSum xs (ys.map mNot) 1).2]).map PV.int)) (.int (-1)) = .ok (.int (mSum xs (ys.map mNot) 1).2) := ix_m1
    generalize (mSum xs (ys.map mNot) 1).1 ++ [(mSum xs (ys.map mNot) 1).2] = S at s1 i1
    generalize (mSum xs (ys.map mNot) 1).2 = c at q i1 ⊢
    generalize ys.map mNot = Y at lt s1 ⊢
    simp [F2.s]
    rw [lt _ _ (fun y h => by simp [n102 y (hy y h)])]
    simp [s1, i1, n102 c q]
  | same =>
    simp only [F2.dim]
    have s1 := sm (ys.map mNot) 1 false false hn (.inr (.inl rfl)) (by simpa using he)
    generalize (mSum xs (ys.map mNot) 1).1 ++ [(mSum xs (ys.map mNot) 1).2] = S at s1
    have lf : ∀ (c : PEnv → Res Bool) (e : PEnv → Res PV) (env : PEnv), (∀ k, k < xs.length → c (env.set 3 (some (.int (k : Int)))) = .ok (!decide (xs.getD k 0 = ys.getD k 0)) ∧ ((!decide (xs.getD k 0 = ys.getD k 0)) = true → e (env.set 3 (some (.int (k : Int)))) = .ok (pI (xs.getD k 0, ys.getD k 0)))) →
        lcL [3] c e env (rngI 0 (xs.length : Int)) [] = .ok ((((List.range xs.length).filter fun k => !decide (xs.getD k 0 = ys.getD k 0)).map fun k => (xs.getD k 0, ys.getD k 0)).map pI) := fun c e env h => by
      rw [lcRF (fun k => !decide (xs.getD k 0 = ys.getD k 0)) (fun k => pI (xs.getD k 0, ys.getD k 0)) h (by unfold most; omega), List.map_map]
      rfl
    have mu : ∀ a b : Int, a ≠ b → ((a, b) ∈ (((List.range xs.length).filter fun k => !decide (xs.getD k 0 = ys.getD k 0)).map fun k => (xs.getD k 0, ys.getD k 0)) ↔ ∃ k, k < xs.length ∧ xs.getD k 0 = a ∧ ys.getD k 0 = b) := fun a b ne => by
      rw [List.mem_map]
      constructor
      · rintro ⟨k, hk, e⟩
        injection e with e1 e2
        exact ⟨k, List.mem_range.mp (List.mem_filter.mp hk).1, e1, e2⟩
      · rintro ⟨k, hk, e1, e2⟩
        refine ⟨k, List.mem_filter.mpr ⟨List.mem_range.mpr hk, ?_⟩, by rw [e1, e2]⟩
        rw [e1, e2]
        simpa using ne
    have m01 := mu 0 1 (by decide)
    have m10 := mu 1 0 (by decide)
    generalize (((List.range xs.length).filter fun k => !decide (xs.getD k 0 = ys.getD k 0)).map fun k => (xs.getD k 0, ys.getD k 0)) = U at lf m01 m10
    have p1 : 1 ∈ List.zipWith mXor xs ys ↔ (0, 1) ∈ U ∨ (1, 0) ∈ U := by
      rw [mem_zip he, m01, m10]
      constructor
      · rintro ⟨k, hk, e⟩
        rcases (mXor_1 (hx _ (getD_mem hk)) (hy _ (getD_mem (by omega)))).mp e with ⟨e1, e2⟩ | ⟨e1, e2⟩
        · exact .inl ⟨k, hk, e1, e2⟩
        · exact .inr ⟨k, hk, e1, e2⟩
      · rintro (⟨k, hk, e1, e2⟩ | ⟨k, hk, e1, e2⟩)
        · exact ⟨k, hk, (mXor_1 (hx _ (getD_mem hk)) (hy _ (getD_mem (by omega)))).mpr (.inl ⟨e1, e2⟩)⟩
        · exact ⟨k, hk, (mXor_1 (hx _ (getD_mem hk)) (hy _ (getD_mem (by omega)))).mpr (.inr ⟨e1, e2⟩)⟩
    have p2 : 2 ∈ List.zipWith mXor xs ys ↔ 2 ∈ xs ∨ 2 ∈ ys := by
      rw [mem_zip he, mem_at (xs := xs), mem_at (xs := ys)]
      constructor
      · rintro ⟨k, hk, e⟩
        rcases (mXor_2 (hx _ (getD_mem hk)) (hy _ (getD_mem (by omega)))).mp e with e1 | e1
        · exact .inl ⟨k, hk, e1⟩
        · exact .inr ⟨k, by omega, e1⟩
      · rintro (⟨k, hk, e1⟩ | ⟨k, hk, e1⟩)
        · exact ⟨k, hk, (mXor_2 (hx _ (getD_mem hk)) (hy _ (getD_mem (by omega)))).mpr (.inl e1)⟩
        · exact ⟨k, by omega, (mXor_2 (hx _ (getD_mem (by omega))) (hy _ (getD_mem hk))).mpr (.inr e1)⟩
    have i01 : cmpop .isin (.tup [.int 0, .int 1]) (.lst false (U.map pI)) = .ok (.bl (decide ((0, 1) ∈ U))) := pI_in (0, 1) U false
    have i10 : cmpop .isin (.tup [.int 1, .int 0]) (.lst false (U.map pI)) = .ok (.bl (decide ((1, 0) ∈ U))) := pI_in (1, 0) U false
    have fU : frzs (U.map pI) = U.map pI := frzs_map (fun p => by simp [pI]) U
    have cU : clss (U.map pI) = true := clss_map (fun p => by simp [pI]) U
    generalize ys.map mNot = Y at lt s1 ⊢
    unfold mSame
    simp only [p1, p2]
    simp [F2.s]
    rw [lt _ _ (fun y h => by simp [n102 y (hy y h)])]
    simp [s1, r1]
    rw [lf _ _ _ (fun k hk => by simp [-List.getD_eq_getElem?_getD, ix_ints hk, ix_ints (show k < ys.length by omega), pI])]
    have i12 : ∀ b : Bool, idxop (.lst false [.int 1, .int 2]) (.int (if b = true then 1 else 0)) = .ok (.int (if b = true then 2 else 1)) := fun b => by cases b <;> rfl
    have bi : ∀ b : Bool, biV .int [.bl b] = .ok (.int (if b = true then 1 else 0)) := fun b => rfl
    by_cases q1 : (0, 1) ∈ U
    · simp [fU, cU, i01, q1]
    · by_cases q2 : (1, 0) ∈ U
      · simp [fU, cU, i01, i10, q1, q2]
      · by_cases q3 : 2 ∈ xs
        · simp [fU, cU, i01, i10, q1, q2, q3, bi]
        · by_cases q4 : 2 ∈ ys
          · simp [fU, cU, i01, i10, q1, q2, q3, q4, bi]
          · simp [fU, cU, i01, i10, q1, q2, q3, q4, bi]
  | join => exact absurd rfl hf
end BW.Law

namespace BW.Law
open PySem
variable {m w : Nat}
def mk1 (c a b : Int) : Int := if c = 1 then a else if c = 0 then b else if a = b then a else 2
theorem w_lmark {c : Int} (hc : isM c) (a b : Int) : callF (tabT tab) w (m + 1) f__law_mark [.int c, .int a, .int b] = .ok (.int (mk1 c a b)) := by
  rw [t__law_mark]
  simp only [b__law_mark, runB]
  unfold mk1
  rcases hc with rfl | rfl | rfl
  · simp
  · simp
  · by_cases q : a = b
    · simp [q]
    · simp [q]
theorem mk1_pick {c : Int} : ∀ {xs ys : List Int}, xs.length = ys.length → List.zipWith (mk1 c) xs ys = mPick c xs ys := fun {xs ys} he => by
  unfold mPick
  by_cases h1 : c = 1
  · rw [if_pos h1]
    induction xs generalizing ys with
    | nil => simp
    | cons x xs ih =>
      cases ys with
      | nil => cases he
      | cons y ys =>
        rw [List.zipWith_cons_cons, ih (by simpa using he)]
        simp [mk1, h1]
  · rw [if_neg h1]
    by_cases h0 : c = 0
    · rw [if_pos h0]
      induction xs generalizing ys with
      | nil =>
        cases ys with
        | nil => rfl
        | cons _ _ => cases he
      | cons x xs ih =>
        cases ys with
        | nil => cases he
        | cons y ys =>
          rw [List.zipWith_cons_cons, ih (by simpa using he)]
          simp [mk1, h0]
    · rw [if_neg h0]
      have : mk1 c = fun a b => if a = b then a else 2 := by
        funext a b
        unfold mk1
        rw [if_neg h1, if_neg h0]
      rw [this]
end BW.Law

-- levels 256 40
-- measure 8000
-- ifs law _law_told
-- moved dim two_dims
-- lem ascr
-- lem bcell
-- lem bnames
-- lem dim
-- lem dimO
-- lem btwo
-- lem mk1
namespace BW.Law
open PySem
variable {m w : Nat}
theorem w_lmarks (n : Int) (a : Nat) (ha : a ≤ 64) : ∃ xs : List Int, xs.length = a ∧ (∀ x ∈ xs, isM x) ∧ callF (tabT tab) w (m + 2) f__law_marks [.int n, .int (a : Int)] = .ok (.lst true (xs.map PV.int)) := by
  rw [t__law_marks]
  simp only [b__law_marks, runB]
  have mx := fun k => w_mix (w := w) (m := m) n k
  have lc : ∀ (g : Nat → Int) (e : PEnv → Res PV) (env : PEnv), (∀ k, k < a → e (env.set 3 (some (.int (k : Int)))) = .ok (.int (g k))) → lcL [3] (fun _ => .ok true) e env (rngI 0 (a : Int)) [] = .ok (((List.range a).map g).map PV.int) := fun g e env h => by
    rw [lcR (fun k => .int (g k)) h (by unfold most; omega), List.map_map]
    rfl
  have r1 := rng1 (n := a) (by omega)
  have fin : ∀ g : Nat → Int, (∀ k, isM (g k)) → ((List.range a).map g).length = a ∧ ∀ x ∈ (List.range a).map g, isM x := fun g hg => ⟨by simp, fun x hx => by
    obtain ⟨k, _, rfl⟩ := List.mem_map.mp hx
    exact hg k⟩
  by_cases q : n % 4 = 0
  · have f := fin (fun k => mixV n (k : Int) % 2) fun k => by unfold isM; omega
    have lc := lc fun k => mixV n (k : Int) % 2
    refine ⟨_, f.1, f.2, ?_⟩
    generalize (List.range a).map (fun k : Nat => mixV n (k : Int) % 2) = Z at lc ⊢
    simp [q, r1]
    rw [lc _ _ fun k hk => by simp [mx]]
    simp
  · by_cases q2 : n % 4 = 1 ∧ n / 4 % 4 = 1
    · have f := fin (fun _ => 2) fun k => by unfold isM; omega
      have lc := lc fun _ => 2
      refine ⟨_, f.1, f.2, ?_⟩
      generalize (List.range a).map (fun _ : Nat => (2 : Int)) = Z at lc ⊢
      simp [q2.1, q2.2, r1]
      rw [lc _ _ fun k hk => by simp]
      simp
    · have f := fin (fun k => mixV n (k : Int) % 3) fun k => by unfold isM; omega
      have lc := lc fun k => mixV n (k : Int) % 3
      refine ⟨_, f.1, f.2, ?_⟩
      generalize (List.range a).map (fun k : Nat => mixV n (k : Int) % 3) = Z at lc ⊢
      have dd : (decide (n % 4 = 1) && decide (n / 4 % 4 = 1)) = false := by
        rw [Bool.and_eq_false_iff, decide_eq_false_iff_not, decide_eq_false_iff_not]
        omega
      simp [q, dd, r1]
      rw [lc _ _ fun k hk => by simp [mx]]
      simp
theorem c_neInts {xs : List Int} {o o' : Bool} : cmpop .ne (.lst o (xs.map PV.int)) (.lst o' (xs.map PV.int)) = .ok (.bl false) := by
  have e : eqok (.lst o (xs.map PV.int)) (.lst o' (xs.map PV.int)) = true := by
    show (okDs 63 (xs.map PV.int) && okDs 63 (xs.map PV.int)) = true
    rw [okDs_ints]
    rfl
  have p : peq (.lst o (xs.map PV.int)) (.lst o' (xs.map PV.int)) = true := peq_rf (x := .lst o (xs.map PV.int))
  rw [c_ne e, p]
  rfl
theorem w_ltold {xs : List Int} {o o' : Bool} : callF (tabT tab) w (m + 1) f__law_told [.lst o (xs.map PV.int), .lst o' (xs.map PV.int)] = .ok (.bl true) := by
  rw [t__law_told]
  simp only [b__law_told, runB]
  have ne := c_neInts (xs := xs) (o := false) (o' := false)
  have lp : ∀ (zs : List Int) (A B C : Option PV), ∃ C', forL [2] (fun env => evSs (callF (tabT tab) w m) w env l__law_told_0) (zs.map PV.int) [A, B, C] = .fl (.next [A, B, C']) := fun zs => by
    induction zs with
    | nil => intro A B C; exact ⟨C, by simp⟩
    | cons z zs ih =>
      intro A B C
      obtain ⟨C', q⟩ := ih A B (some (.int z))
      refine ⟨C', ?_⟩
      rw [List.map_cons, forL_step (env2 := [A, B, some (.int z)])]
      · exact q
      · simp only [l__law_told_0, i__law_told_1]
        simp
  obtain ⟨C', q⟩ := lp xs (some (.lst false (xs.map PV.int))) (some (.lst o' (xs.map PV.int))) none
  obtain ⟨C2, q2⟩ := lp xs (some (.lst true (xs.map PV.int))) (some (.lst o' (xs.map PV.int))) none
  cases o <;> simp [i__law_told_0, ne, q, q2]
/-! ### the law -/
section
variable {zb zd : Str} {r0 r1 r2 : List Int}
def trm (zb zd : Str) : Nat → Tm
  | 0 => .box zb
  | 1 => .late zb
  | _ => .door zd
def rowN (r0 r1 r2 : List Int) : Nat → List Int
  | 0 => r0
  | 1 => r1
  | _ => r2
def trV (o : Bool) (zb zd : Str) : PV := .lst o [(Tm.box zb).pv, (Tm.late zb).pv, (Tm.door zd).pv]
def rowV (o : Bool) (r0 r1 r2 : List Int) : PV := .lst o [.lst o (r0.map PV.int), .lst o (r1.map PV.int), .lst o (r2.map PV.int)]
/-- a term, its marks -/
abbrev En := Tm × Bool × List Int
def enV (p : En) : PV := .tup [p.1.pv, .lst p.2.1 (p.2.2.map PV.int)]
structure Okk (n : Nat) (zb zd : Str) (r0 r1 r2 : List Int) (p : En) : Prop where
  ok : p.1.ok [(zb, (n : Int))] [(zd, (n : Int))]
  dd : p.1.deep ≤ 6
  di : p.1.dim [(zb, r0)] [(zb, r1)] [(zd, r2)] = p.2.2
theorem frz_trV {o : Bool} : frz (trV o zb zd) = trV false zb zd := by simp [trV]
theorem frz_rowV {o : Bool} : frz (rowV o r0 r1 r2) = rowV false r0 r1 r2 := by simp [rowV]
theorem ix_trV {o : Bool} {k : Nat} (h : k < 3) : idxop (trV o zb zd) (.int (k : Int)) = .ok (trm zb zd k).pv := by
  have : k = 0 ∨ k = 1 ∨ k = 2 := by omega
  rcases this with rfl | rfl | rfl <;> simp [trV, trm]
theorem ix_rowV {o : Bool} {k : Nat} (h : k < 3) : idxop (rowV o r0 r1 r2) (.int (k : Int)) = .ok (.lst false ((rowN r0 r1 r2 k).map PV.int)) := by
  have : k = 0 ∨ k = 1 ∨ k = 2 := by omega
  rcases this with rfl | rfl | rfl <;> simp [rowV, rowN]
variable {n : Nat}
theorem trm_ok {k : Nat} : (trm zb zd k).ok [(zb, (n : Int))] [(zd, (n : Int))] := by
  match k with
  | 0 => simp [trm, Tm.ok, dG]
  | 1 => simp [trm, Tm.ok, dG]
  | k + 2 => simp [trm, Tm.ok, dG]
theorem trm_wid {k : Nat} : (trm zb zd k).wid [(zb, (n : Int))] [(zd, (n : Int))] = n := by
  match k with
  | 0 => simp [trm, Tm.wid, dG]
  | 1 => simp [trm, Tm.wid, dG]
  | k + 2 => simp [trm, Tm.wid, dG]
theorem trm_dim {k : Nat} : (trm zb zd k).dim [(zb, r0)] [(zb, r1)] [(zd, r2)] = rowN r0 r1 r2 k := by
  match k with
  | 0 => simp [trm, rowN, Tm.dim, mG]
  | 1 => simp [trm, rowN, Tm.dim, mG]
  | k + 2 => simp [trm, rowN, Tm.dim, mG]
theorem trm_deep {k : Nat} : (trm zb zd k).deep = 1 := by
  match k with
  | 0 => rfl
  | 1 => rfl
  | k + 2 => rfl
end
theorem c_eqOne {z : Str} {xs : List Int} : cmpop .eq (.dct false [.inr z] [.lst false (xs.map PV.int)]) (.dct false [.inr z] [.lst false (xs.map PV.int)]) = .ok (.bl true) := by
  refine c_eqX rfl ?_
  have e : eqG 7 (.lst false (xs.map PV.int)) (.lst false (xs.map PV.int)) = some true := by
    have q : eqok (.lst false (xs.map PV.int)) (.lst false (xs.map PV.int)) = true := by
      show (okDs 63 (xs.map PV.int) && okDs 63 (xs.map PV.int)) = true
      rw [okDs_ints]
      rfl
    show (if eqok (.lst false (xs.map PV.int)) (.lst false (xs.map PV.int)) = true then some (peq (.lst false (xs.map PV.int)) (.lst false (xs.map PV.int))) else _) = _
    rw [if_pos q, peq_rf]
  show (allO [match (if (Sum.inr z : DKey) = .inr z then some (PV.lst false (xs.map PV.int)) else none) with
    | some y => eqG 7 (.lst false (xs.map PV.int)) y
    | none => some false]).map (fun b => decide (1 = 1) && b) = _
  rw [if_pos rfl]
  simp only [e]
  rfl
theorem c_eqD1 {z : Str} {xs : List Int} : cmpop .eq (dMM false false [(z, xs)]) (.dct false [.inr z] [.lst false (xs.map PV.int)]) = .ok (.bl true) := c_eqOne
theorem dsp1 {z : Str} {o : Bool} {xs : List Int} : dspV [.str z, .lst o (xs.map PV.int)] = .ok (.dct true [.inr z] [.lst o (xs.map PV.int)]) := by simp [dspV, prsD, keyV]
theorem bitsR : ∀ (n : Nat) (v : Int), bitsL n v = (List.range n).map fun k : Nat => v / 2 ^ k % 2
  | 0, v => rfl
  | n + 1, v => by rw [bitsL_snoc, List.range_succ, List.map_append, bitsR n v]; rfl
theorem enV_frz (D : List En) : frzs (D.map enV) = D.map fun p => enV (p.1, false, p.2.2) := by
  induction D with
  | nil => rfl
  | cons p D ih =>
    rw [List.map_cons, frzs_cons, ih]
    simp [enV]
section
variable {zb zd : Str} {r0 r1 r2 : List Int} {n : Nat}
theorem rowN_len (h0 : r0.length = n) (h1 : r1.length = n) (h2 : r2.length = n) (k : Nat) : (rowN r0 r1 r2 k).length = n := by
  match k with
  | 0 => exact h0
  | 1 => exact h1
  | k + 2 => exact h2
theorem rowN_is (h0 : ∀ x ∈ r0, isM x) (h1 : ∀ x ∈ r1, isM x) (h2 : ∀ x ∈ r2, isM x) (k : Nat) : ∀ x ∈ rowN r0 r1 r2 k, isM x := by
  match k with
  | 0 => exact h0
  | 1 => exact h1
  | k + 2 => exact h2
theorem law_forms (l0 : r0.length = n) (l1 : r1.length = n) (l2 : r2.length = n) (m0 : ∀ x ∈ r0, isM x) (m1 : ∀ x ∈ r1, isM x) (m2 : ∀ x ∈ r2, isM x) (n64 : n ≤ 64) {k k' : Nat} (hk : k < 3) (hk' : k' < 3) (ek : ((k : Int) + 1) % 3 = (k' : Int)) (A B C Z1 Z2 E7 E8 E9 W11 x13 : Option PV) (o5 o10 : Bool) :
    ∀ (fs : List F2), (∀ f ∈ fs, f ≠ .join) → ∀ (D : List En) (x14 : Option PV), (∀ p ∈ D, Okk n zb zd r0 r1 r2 p) → D.length + fs.length ≤ 1000 → ∃ (D' : List En) (x14' : Option PV), (∀ p ∈ D', Okk n zb zd r0 r1 r2 p) ∧ D'.length = D.length + fs.length ∧
      forL [14] (fun env => evSs (callF (tabT tab) w (m + 2)) w env l_law_0) (fs.map fun f => PV.str f.s) [A, B, C, Z1, Z2, some (rowV o5 r0 r1 r2), some (.int (k : Int)), E7, E8, E9, some (trV o10 zb zd), W11, some (.lst true (D.map enV)), x13, x14, none, none, none, none, none, none, none] = .fl (.next [A, B, C, Z1, Z2, some (rowV o5 r0 r1 r2), some (.int (k : Int)), E7, E8, E9, some (trV o10 zb zd), W11, some (.lst true (D'.map enV)), x13, x14', none, none, none, none, none, none, none]) := fun fs => by
  induction fs with
  | nil => intro _ D x14 hD _; exact ⟨D, x14, hD, rfl, by simp⟩
  | cons f fs ih =>
    intro hf D x14 hD hl
    simp only [List.length_cons] at hl
    have hj := hf f List.mem_cons_self
    have ln := rowN_len l0 l1 l2
    have mn := rowN_is m0 m1 m2
    have good : Okk n zb zd r0 r1 r2 (.two f (trm zb zd k) (trm zb zd k'), true, f.dim (rowN r0 r1 r2 k) (rowN r0 r1 r2 k')) := ⟨⟨trm_ok, trm_ok, by rw [if_neg hj, trm_wid, trm_wid]⟩, by simp [Tm.deep, trm_deep], by simp [Tm.dim, trm_dim]⟩
    obtain ⟨D', x14', h1, h2, q⟩ := ih (fun g hg => hf g (List.mem_cons_of_mem _ hg)) (D ++ [(.two f (trm zb zd k) (trm zb zd k'), true, f.dim (rowN r0 r1 r2 k) (rowN r0 r1 r2 k'))]) (some (.str f.s)) (fun p hp => by
      rcases List.mem_append.mp hp with hp | hp
      · exact hD p hp
      · rw [List.mem_singleton.mp hp]; exact good) (by rw [List.length_append]; simp; omega)
    refine ⟨D', x14', h1, by rw [h2, List.length_append]; simp; omega, ?_⟩
    have et := w_ltwo (w := w) (m := m) hj (o := false) (o' := false) (mn k) (mn k') (by rw [ln, ln]) (by rw [ln]; omega)
    have i1 := ix_trV (zb := zb) (zd := zd) (o := false) hk
    have i2 := ix_trV (zb := zb) (zd := zd) (o := false) hk'
    have i3 := ix_rowV (r0 := r0) (r1 := r1) (r2 := r2) (o := false) hk
    have i4 := ix_rowV (r0 := r0) (r1 := r1) (r2 := r2) (o := false) hk'
    have hm : D.length < most := by unfold most; omega
    have pe : enV (.two f (trm zb zd k) (trm zb zd k'), true, f.dim (rowN r0 r1 r2 k) (rowN r0 r1 r2 k')) = .tup [.tup [.str f.s, (trm zb zd k).pv, (trm zb zd k').pv], .lst true ((f.dim (rowN r0 r1 r2 k) (rowN r0 r1 r2 k')).map PV.int)] := rfl
    rw [List.map_append, List.map_cons, List.map_nil, pe] at q
    rw [List.map_cons, forL_step (env2 := [A, B, C, Z1, Z2, some (rowV o5 r0 r1 r2), some (.int (k : Int)), E7, E8, E9, some (trV o10 zb zd), W11, some (.lst true (D.map enV ++ [.tup [.tup [.str f.s, (trm zb zd k).pv, (trm zb zd k').pv], .lst true ((f.dim (rowN r0 r1 r2 k) (rowN r0 r1 r2 k')).map PV.int)]])), x13, some (.str f.s), none, none, none, none, none, none, none])]
    · exact q
    · generalize f.dim (rowN r0 r1 r2 k) (rowN r0 r1 r2 k') = Z at et
      simp only [l_law_0]
      simp [frz_rowV, frz_trV, i1, i2, i3, i4, ek, et, hasL, kept, hm]
def fs7 : List F2 := [.and, .or, .xor, .plus, .minus, .less, .same]
theorem law_three (l0 : r0.length = n) (l1 : r1.length = n) (l2 : r2.length = n) (m0 : ∀ x ∈ r0, isM x) (m1 : ∀ x ∈ r1, isM x) (m2 : ∀ x ∈ r2, isM x) (n64 : n ≤ 64) (A B C Z1 Z2 E7 E8 E9 W11 : Option PV) :
    ∀ (ks : List Nat), (∀ k ∈ ks, k < 3) → ∀ (D : List En) (o5 o10 : Bool) (x6 x13 x14 : Option PV), (∀ p ∈ D, Okk n zb zd r0 r1 r2 p) → D.length + 9 * ks.length ≤ 900 → ∃ (D' : List En) (o5' o10' : Bool) (x6' x13' x14' : Option PV), (∀ p ∈ D', Okk n zb zd r0 r1 r2 p) ∧ D'.length = D.length + 9 * ks.length ∧
      forL [6] (fun env => evSs (callF (tabT tab) w (m + 2)) w env l_law_1) (ks.map fun k : Nat => PV.int (k : Int)) [A, B, C, Z1, Z2, some (rowV o5 r0 r1 r2), x6, E7, E8, E9, some (trV o10 zb zd), W11, some (.lst true (D.map enV)), x13, x14, none, none, none, none, none, none, none] = .fl (.next [A, B, C, Z1, Z2, some (rowV o5' r0 r1 r2), x6', E7, E8, E9, some (trV o10' zb zd), W11, some (.lst true (D'.map enV)), x13', x14', none, none, none, none, none, none, none]) := fun ks => by
  induction ks with
  | nil => intro _ D o5 o10 x6 x13 x14 hD _; exact ⟨D, o5, o10, x6, x13, x14, hD, rfl, by simp⟩
  | cons k ks ih =>
    intro hks D o5 o10 x6 x13 x14 hD hl
    simp only [List.length_cons] at hl
    have hk := hks k List.mem_cons_self
    obtain ⟨k', ek, hk'⟩ : ∃ k' : Nat, ((k : Int) + 1) % 3 = (k' : Int) ∧ k' < 3 := by
      obtain ⟨j, hj⟩ := Int.eq_ofNat_of_zero_le (show 0 ≤ ((k : Int) + 1) % 3 by omega)
      exact ⟨j, hj, by omega⟩
    have ln := rowN_len l0 l1 l2
    have mn := rowN_is m0 m1 m2
    have g1 : Okk n zb zd r0 r1 r2 (trm zb zd k, false, rowN r0 r1 r2 k) := ⟨trm_ok, by simp [trm_deep], trm_dim⟩
    have g2 : Okk n zb zd r0 r1 r2 (.not (trm zb zd k), true, (rowN r0 r1 r2 k).map mNot) := ⟨trm_ok, by simp [Tm.deep, trm_deep], by simp [Tm.dim, trm_dim]⟩
    obtain ⟨D1, y14, h1, h2, q1⟩ := law_forms (w := w) (m := m) (zb := zb) (zd := zd) l0 l1 l2 m0 m1 m2 n64 hk hk' ek A B C Z1 Z2 E7 E8 E9 W11 x13 false false fs7 (by decide) (D ++ [(trm zb zd k, false, rowN r0 r1 r2 k)] ++ [(.not (trm zb zd k), true, (rowN r0 r1 r2 k).map mNot)]) x14 (fun p hp => by
      rcases List.mem_append.mp hp with hp | hp
      · rcases List.mem_append.mp hp with hp | hp
        · exact hD p hp
        · rw [List.mem_singleton.mp hp]; exact g1
      · rw [List.mem_singleton.mp hp]; exact g2) (by rw [List.length_append, List.length_append]; simp [fs7]; omega)
    have l9 : D1.length = D.length + 9 := by
      rw [h2, List.length_append, List.length_append]
      simp [fs7]
    obtain ⟨D', o5', o10', x6', x13', x14', h3, h4, q2⟩ := ih (fun j hj => hks j (List.mem_cons_of_mem _ hj)) D1 false false (some (.int (k : Int))) x13 y14 h1 (by omega)
    refine ⟨D', o5', o10', x6', x13', x14', h3, by rw [h4, l9]; simp; omega, ?_⟩
    have i1 := ix_trV (zb := zb) (zd := zd) (o := false) hk
    have i3 := ix_rowV (r0 := r0) (r1 := r1) (r2 := r2) (o := false) hk
    have hm : D.length < most := by unfold most; omega
    have hm1 : D.length + 1 < most := by unfold most; omega
    have lt : ∀ (e : PEnv → Res PV) (env : PEnv), (∀ y ∈ rowN r0 r1 r2 k, e (env.set 13 (some (.int y))) = .ok (.int (mNot y))) → lcL [13] (fun _ => .ok true) e env ((rowN r0 r1 r2 k).map PV.int) [] = .ok (((rowN r0 r1 r2 k).map mNot).map PV.int) := fun e env h => lcL_ints h (by rw [ln]; unfold most; omega)
    have n102 : ∀ y, isM y → idxop (.tup [.int 1, .int 0, .int 2]) (.int y) = .ok (.int (mNot y)) := fun y h => by rcases h with rfl | rfl | rfl <;> rfl
    have e1 : enV (trm zb zd k, false, rowN r0 r1 r2 k) = .tup [(trm zb zd k).pv, .lst false ((rowN r0 r1 r2 k).map PV.int)] := rfl
    have e2 : enV (.not (trm zb zd k), true, (rowN r0 r1 r2 k).map mNot) = .tup [.tup [.str "not", (trm zb zd k).pv], .lst true (((rowN r0 r1 r2 k).map mNot).map PV.int)] := rfl
    rw [List.map_append, List.map_append, List.map_cons, List.map_nil, List.map_cons, List.map_nil, e1, e2] at q1
    have f7 : (fs7.map fun f => PV.str f.s) = [.str "and", .str "or", .str "xor", .str "plus", .str "minus", .str "less", .str "same"] := rfl
    rw [f7] at q1
    rw [List.map_cons, forL_step (env2 := [A, B, C, Z1, Z2, some (rowV false r0 r1 r2), some (.int (k : Int)), E7, E8, E9, some (trV false zb zd), W11, some (.lst true (D1.map enV)), x13, y14, none, none, none, none, none, none, none])]
    · exact q2
    · simp only [l_law_1]
      have mnk := mn k
      generalize rowN r0 r1 r2 k = R at *
      generalize R.map mNot = Z at *
      simp [frz_rowV, frz_trV, i1, i3, hasL, kept, hm, frzV]
      rw [lt _ _ (fun y hy => by simp [n102 y (mnk y hy)])]
      simp at q1
      simp [hasL, kept, hm1, q1]
/-- all is told as due -/
theorem law_all (hr : Mrk [(zb, (n : Int))] [(zb, r0)]) (hl : Mrk [(zb, (n : Int))] [(zb, r1)]) (hd : Mrk [(zd, (n : Int))] [(zd, r2)]) (n1 : 1 ≤ n) (n64 : n ≤ 64) (A B C Z1 Z2 E5 E6 E10 W11 E12 x13 x14 E15 E16 E17 E18 : Option PV) :
    ∀ (D : List En), (∀ p ∈ D, Okk n zb zd r0 r1 r2 p) → ∀ (x19 x20 x21 : Option PV), ∃ x19' x20' x21', forL [20, 19] (fun env => evSs (callF (tabT tab) w (m + 11)) w env l_law_2) (D.map fun p => enV (p.1, false, p.2.2)) [A, B, C, Z1, Z2, E5, E6, some (dMM true true [(zb, r0)]), some (dMM true true [(zb, r1)]), some (dMM true true [(zd, r2)]), E10, W11, E12, x13, x14, E15, E16, E17, E18, x19, x20, x21] = .fl (.next [A, B, C, Z1, Z2, E5, E6, some (dMM true true [(zb, r0)]), some (dMM true true [(zb, r1)]), some (dMM true true [(zd, r2)]), E10, W11, E12, x13, x14, E15, E16, E17, E18, x19', x20', x21']) := fun D => by
  induction D with
  | nil => intro _ x19 x20 x21; exact ⟨x19, x20, x21, by simp⟩
  | cons p D ih =>
    intro hD x19 x20 x21
    obtain ⟨t, o, xs⟩ := p
    obtain ⟨ok, dd, di⟩ := hD _ List.mem_cons_self
    simp only at ok dd di
    have wB : Wd [(zb, (n : Int))] := fun p hp => by rw [List.mem_singleton.mp hp]; exact ⟨by omega, by omega⟩
    have wD : Wd [(zd, (n : Int))] := fun p hp => by rw [List.mem_singleton.mp hp]; exact ⟨by omega, by omega⟩
    have M := Mk.of hr hl hd t
    have e1 := w_dim (w := w) wB wD (m + 7) t ok M (by omega)
    rw [di] at e1
    have e1 : callF (tabT tab) w (m + 11) f_dim [t.pv, dMM false false [(zb, r0)], dMM false false [(zb, r1)], dMM false false [(zd, r2)]] = .ok (.lst true (xs.map PV.int)) := e1
    have lx : xs.length < most := by
      have := (Tm.dim_is wB wD ok M).1
      rw [di] at this
      have := Tm.wid_le wB wD ok
      unfold most
      omega
    have e2 := w_ltold (w := w) (m := m + 10) (xs := xs) (o := false) (o' := false)
    obtain ⟨x19', x20', x21', q⟩ := ih (fun p hp => hD p (List.mem_cons_of_mem _ hp)) (some (.lst false (xs.map PV.int))) (some t.pv) (some (.lst true (xs.map PV.int ++ [.int 1])))
    refine ⟨x19', x20', x21', ?_⟩
    have en : enV (t, false, xs) = .tup [t.pv, .lst false (xs.map PV.int)] := rfl
    have fd : ∀ (z : Str) (r : List Int), frz (dMM true true [(z, r)]) = dMM false false [(z, r)] := fun z r => frz_dMM
    rw [List.map_cons, en]
    show RS.of (bindT [20, 19] (.tup [t.pv, .lst false (xs.map PV.int)]) _) _ _ = _
    have bT : ∀ env : PEnv, bindT [20, 19] (.tup [t.pv, .lst false (xs.map PV.int)]) env = .ok ((env.set 20 (some t.pv)).set 19 (some (.lst false (xs.map PV.int)))) := fun env => rfl
    rw [bT, RS.of_ok]
    simp only [l_law_2, i_law_0]
    simp [fd, e1, e2, hasL, kept, lx]
    exact q
end
theorem plain (ns : List Int) (h : ns.length ≤ 63) : callF (tabT tab) 256 40 f_law [.scr (ns.map PV.int)] = .ok (.bl true) := by
  rw [t_law]
  simp only [b_law, runB]
  have mx := fun n s => w_mix (w := 256) (m := 38) n s
  have cell := fun (k : Nat) (hk : k ≤ 1000000) => w_cell (w := 256) (m := 38) ns k hk
  obtain ⟨c0, _, _, e0⟩ := cell 0 (by decide)
  obtain ⟨c1, _, _, e1⟩ := cell 1 (by decide)
  obtain ⟨c2, _, _, e2⟩ := cell 2 (by decide)
  obtain ⟨c3, _, _, e3⟩ := cell 3 (by decide)
  obtain ⟨c4, _, _, e4⟩ := cell 4 (by decide)
  obtain ⟨c5, _, _, e5⟩ := cell 5 (by decide)
  obtain ⟨c6, _, _, e6⟩ := cell 6 (by decide)
  obtain ⟨c7, _, _, e7⟩ := cell 7 (by decide)
  simp at e0 e1 e2 e3 e4 e5 e6 e7
  obtain ⟨sz, hsz⟩ : ∃ q, mixV c0 1 = q := ⟨_, rfl⟩
  have g0 := mix_rng c0 1
  rw [hsz] at g0
  obtain ⟨v, hv, ev⟩ := at_map (f := PV.int) (xs := [1 + sz / 2 % 5, 1 + sz / 2 % 64]) (i := sz % 2) (by omega) (by simp; omega)
  have iv : idxop (.lst false [.int (1 + sz / 2 % 5), .int (1 + sz / 2 % 64)]) (.int (sz % 2)) = .ok (.int v) := ix_at ev
  have vr : 1 ≤ v ∧ v ≤ 64 := by simp at hv; omega
  clear hv ev
  obtain ⟨n, rfl⟩ : ∃ n : Nat, v = n := ⟨v.toNat, by omega⟩
  obtain ⟨ys, yl, nd, gn, en⟩ := w_names (w := 256) (m := 37) (mixV c1 2) 2 (by decide)
  obtain ⟨zb, zd, rfl⟩ : ∃ a b, ys = [a, b] := by
    match ys, yl with
    | [a, b], _ => exact ⟨a, b, rfl⟩
  simp at en
  obtain ⟨r0, l0, m0, k0⟩ := w_lmarks (w := 256) (m := 37) (mixV c2 3) n (by omega)
  obtain ⟨r1, l1, m1, k1⟩ := w_lmarks (w := 256) (m := 37) (mixV c3 3) n (by omega)
  obtain ⟨r2, l2, m2, k2⟩ := w_lmarks (w := 256) (m := 37) (mixV c4 3) n (by omega)
  obtain ⟨wd, w0, w1, ew⟩ := w_bword (w := 256) (m := 37) (mixV c5 4) n (by omega)
  have q3 : rngV [.int 3] = .ok (rngI 0 3) := rng1 (n := 3) (by decide)
  have qn := rng1 (n := n) (by omega)
  have lr : ∀ (e : PEnv → Res PV) (env : PEnv), (∀ k, k < 3 → e (env.set 6 (some (.int ((k : Nat) : Int)))) = .ok (.lst true ((rowN r0 r1 r2 k).map PV.int))) → lcL [6] (fun _ => .ok true) e env (rngI 0 3) [] = .ok [.lst true (r0.map PV.int), .lst true (r1.map PV.int), .lst true (r2.map PV.int)] := fun e env hh => by
    show lcL [6] (fun _ => .ok true) e env (rngI 0 ((3 : Nat) : Int)) [] = _
    rw [lcR (fun k => .lst true ((rowN r0 r1 r2 k).map PV.int)) hh (by unfold most; decide)]
    rfl
  have ln : ∀ (e : PEnv → Res PV) (env : PEnv), (∀ k, k < n → e (env.set 6 (some (.int ((k : Nat) : Int)))) = .ok (.int (wd / 2 ^ k % 2))) → lcL [6] (fun _ => .ok true) e env (rngI 0 (n : Int)) [] = .ok ((bitsL n wd).map PV.int) := fun e env hh => by
    rw [lcR (fun k => .int (wd / 2 ^ k % 2)) hh (by unfold most; omega), bitsR, List.map_map]
    rfl
  have band : ∀ k : Nat, Builtin.bitAnd (wd / 2 ^ k) 1 = wd / 2 ^ k % 2 := fun k => by
    have p := pow_pos2 k
    have nn : 0 ≤ wd / 2 ^ k := Int.ediv_nonneg w0 (by omega)
    rw [bAnd_nat nn (by decide)]
    show (((wd / 2 ^ k).toNat &&& 1 : Nat) : Int) = _
    rw [Nat.and_one_is_mod]
    omega
  have g1 : Okk n zb zd r0 r1 r2 (.num n wd, true, bitsL n wd) := ⟨⟨by omega, by omega, w0, by simpa using w1⟩, by simp [Tm.deep], by simp [Tm.dim]⟩
  obtain ⟨D, o5, o10, x6, x13, x14, hD, lD, qL⟩ := law_three (w := 256) (m := 37) (zb := zb) (zd := zd) l0 l1 l2 m0 m1 m2 (by omega) (some (.scr (ns.map PV.int))) (some (.int sz)) (some (.int n)) (some (.str zb)) (some (.str zd)) (some (dMM true true [(zb, r0)])) (some (dMM true true [(zb, r1)])) (some (dMM true true [(zd, r2)])) (some (.int wd)) (List.range 3) (fun k hk => List.mem_range.mp hk) [(.num n wd, true, bitsL n wd)] true true none none none (fun p hp => by rw [List.mem_singleton.mp hp]; exact g1) (by simp)
  rw [← rngI_map] at qL
  have lD : D.length = 28 := lD
  -- a part
  obtain ⟨lo, hlo, lo1⟩ : ∃ lo : Nat, mixV c6 5 % (n : Int) = lo ∧ lo < n := by
    obtain ⟨j, hj⟩ := Int.eq_ofNat_of_zero_le (Int.emod_nonneg (mixV c6 5) (show (n : Int) ≠ 0 by omega))
    have := Int.emod_lt_of_pos (mixV c6 5) (show (0 : Int) < n by omega)
    exact ⟨j, hj, by omega⟩
  obtain ⟨my, hmy, my0, my1⟩ : ∃ my : Nat, 1 + mixV c7 6 % ((n : Int) - (lo : Int)) = my ∧ 1 ≤ my ∧ lo + my ≤ n := by
    have a := Int.emod_nonneg (mixV c7 6) (show (n : Int) - (lo : Int) ≠ 0 by omega)
    have b := Int.emod_lt_of_pos (mixV c7 6) (show (0 : Int) < (n : Int) - (lo : Int) by omega)
    obtain ⟨j, hj⟩ := Int.eq_ofNat_of_zero_le (show 0 ≤ 1 + mixV c7 6 % ((n : Int) - (lo : Int)) by omega)
    exact ⟨j, hj, by omega, by omega⟩
  obtain ⟨hf, hhf, hf0, hf1⟩ : ∃ hf : Nat, (if (32 : Int) < (my : Int) then (32 : Int) else my) = hf ∧ 1 ≤ hf ∧ hf ≤ my ∧ hf ≤ 32 := by
    by_cases q : (32 : Int) < (my : Int)
    · exact ⟨32, by rw [if_pos q]; rfl, by decide, by omega, by omega⟩
    · exact ⟨my, by rw [if_neg q], my0, by omega, by omega⟩
  have mdl : binop .mod (.int (mixV c6 5)) (.int (n : Int)) = .ok (.int (lo : Int)) := by rw [b_mod (by omega), hlo]
  have mdm : binop .mod (.int (mixV c7 6)) (.int ((n : Int) - (lo : Int))) = .ok (.int (mixV c7 6 % ((n : Int) - (lo : Int)))) := b_mod (by omega)
  have cm : ∀ (r : List Int) (k : Nat), r.length = n → lo + k ≤ n → cutP r (some (lo : Int)) (some ((lo : Int) + (k : Int))) = (r.drop lo).take k := fun r k hr hk => by
    rw [cut_mid (by omega) (by omega) (by omega)]
    simp
  obtain ⟨P0, hP0⟩ : ∃ P0, (r0.drop lo).take my = P0 := ⟨_, rfl⟩
  obtain ⟨P1, hP1⟩ : ∃ P1, (r1.drop lo).take hf = P1 := ⟨_, rfl⟩
  obtain ⟨P2, hP2⟩ : ∃ P2, (r2.drop lo).take hf = P2 := ⟨_, rfl⟩
  obtain ⟨P3, hP3⟩ : ∃ P3, mPick (r1.getD lo 0) r2 r0 = P3 := ⟨_, rfl⟩
  have c0' := (cm r0 my l0 my1).trans hP0
  have c1' := (cm r1 hf l1 (by omega)).trans hP1
  have c2' := (cm r2 hf l2 (by omega)).trans hP2
  have ad : binop .add (.lst false (P1.map PV.int)) (.lst false (P2.map PV.int)) = .ok (.lst true ((P1 ++ P2).map PV.int)) := by
    rw [b_addL (by unfold most; simp [← hP1, ← hP2]; omega), frzs_ints, frzs_ints, ← List.map_append]
  have cM : isM (r1.getD lo 0) := m1 _ (getD_mem (by omega))
  have lmk := fun a b => w_lmark (w := 256) (m := 38) cM a b
  have lz : ∀ (e : PEnv → Res PV) (env : PEnv), (∀ k, k < n → e (env.set 6 (some (.int ((k : Nat) : Int)))) = .ok (.int (mk1 (r1.getD lo 0) (r2.getD k 0) (r0.getD k 0)))) → lcL [6] (fun _ => .ok true) e env (rngI 0 (n : Int)) [] = .ok (P3.map PV.int) := fun e env hh => by
    rw [← hP3, lcR (fun k => .int (mk1 (r1.getD lo 0) (r2.getD k 0) (r0.getD k 0))) hh (by unfold most; omega), ← mk1_pick (by rw [l2, l0])]
    have := zip_range (g := mk1 (r1.getD lo 0)) r2 r0 (by rw [l2, l0])
    rw [l2] at this
    rw [← this, List.map_map]
    rfl
  have p1 : Okk n zb zd r0 r1 r2 (.part (.box zb) lo my, true, P0) := ⟨⟨by simp [Tm.ok, dG], by omega, by omega, by simp [Tm.wid, dG]; omega⟩, by simp [Tm.deep], by rw [← hP0]; simp [Tm.dim, mG]⟩
  have p2 : Okk n zb zd r0 r1 r2 (.two .join (.part (.door zd) lo hf) (.part (.late zb) lo hf), true, P1 ++ P2) := ⟨⟨⟨by simp [Tm.ok, dG], by omega, by omega, by simp [Tm.wid, dG]; omega⟩, ⟨by simp [Tm.ok, dG], by omega, by omega, by simp [Tm.wid, dG]; omega⟩, by simp [Tm.wid]; omega⟩, by simp [Tm.deep], by rw [← hP1, ← hP2]; simp [Tm.dim, mG, F2.dim]⟩
  have hd1 : ((r1.drop lo).take 1).headD 0 = r1.getD lo 0 := by
    rw [List.getD_eq_getElem?_getD, List.getElem?_eq_getElem (by omega), List.drop_eq_getElem_cons (by omega)]
    rfl
  have p3 : Okk n zb zd r0 r1 r2 (.pick (.part (.late zb) lo 1) (.door zd) (.box zb), false, P3) := ⟨⟨⟨by simp [Tm.ok, dG], by omega, by omega, by simp [Tm.wid, dG]; omega⟩, by simp [Tm.ok, dG], by simp [Tm.ok, dG], rfl, by simp [Tm.wid, dG]⟩, by
    simp only [Tm.deep]
    decide, by
    rw [← hP3, ← hd1]
    simp [Tm.dim, mG]⟩
  have hr : Mrk [(zb, (n : Int))] [(zb, r0)] := ⟨fun z a hz => by
    simp only [dG] at hz
    split at hz
    · rename_i e
      cases hz
      exact ⟨r0, by simp [mG, e], by simpa using l0, m0⟩
    · cases hz⟩
  have hl : Mrk [(zb, (n : Int))] [(zb, r1)] := ⟨fun z a hz => by
    simp only [dG] at hz
    split at hz
    · rename_i e
      cases hz
      exact ⟨r1, by simp [mG, e], by simpa using l1, m1⟩
    · cases hz⟩
  have hd : Mrk [(zd, (n : Int))] [(zd, r2)] := ⟨fun z a hz => by
    simp only [dG] at hz
    split at hz
    · rename_i e
      cases hz
      exact ⟨r2, by simp [mG, e], by simpa using l2, m2⟩
    · cases hz⟩
  have DM : ∀ (z : Str) (r : List Int), PV.dct true [.inr z] [.lst true (r.map PV.int)] = dMM true true [(z, r)] := fun z r => rfl
  have cDM : ∀ (z : Str) (r : List Int), cls (dMM true true [(z, r)]) = true := fun z r => by simp [dMM, lsV]
  have RV : PV.lst true [.lst true (r0.map PV.int), .lst true (r1.map PV.int), .lst true (r2.map PV.int)] = rowV true r0 r1 r2 := rfl
  have cRV : cls (rowV true r0 r1 r2) = true := by simp [rowV]
  have TV : PV.lst true [.tup [.str "box", .str zb], .tup [.str "late", .str zb], .tup [.str "door", .str zd]] = trV true zb zd := rfl
  have cTV : cls (trV true zb zd) = true := by simp [trV]
  have eN : PV.tup [.tup [.str "num", .int n, .int wd], .lst true ((bitsL n wd).map PV.int)] = enV (.num n wd, true, bitsL n wd) := rfl
  have cN : cls (enV (.num n wd, true, bitsL n wd)) = true := by simp [enV]
  have ir := fun (o : Bool) (k : Nat) (hk : k < 3) => ix_rowV (r0 := r0) (r1 := r1) (r2 := r2) (o := o) hk
  have ir0 := ir false 0 (by decide)
  have ir1 := ir false 1 (by decide)
  have ir2 := ir false 2 (by decide)
  have it := fun (o : Bool) (k : Nat) (hk : k < 3) => ix_trV (zb := zb) (zd := zd) (o := o) hk
  have it0 := it false 0 (by decide)
  have it1 := it false 1 (by decide)
  have it2 := it false 2 (by decide)
  simp only [rowN, trm] at ir0 ir1 ir2 it0 it1 it2
  push_cast at ir0 ir1 ir2 it0 it1 it2
  simp [e0, mx, hsz, iv, e1, en, bindT, q3]
  rw [lr _ _ (fun k hk => by
    have : k = 0 ∨ k = 1 ∨ k = 2 := by omega
    rcases this with rfl | rfl | rfl
    · simp [e2, mx, k0, rowN]
    · simp [e3, mx, k1, rowN]
    · simp [e4, mx, k2, rowN])]
  simp [RV, frz_rowV, cRV, TV, frz_trV, cTV, ir0, ir1, ir2, it0, it1, it2, dsp1, DM, cDM, e5, mx, ew, qn]
  rw [ln _ _ (fun k hk => by simp [band])]
  simp only [List.map_cons, List.map_nil] at qL
  generalize hNum : enV (.num n wd, true, bitsL n wd) = NUM at *
  have qL : forL [6] (fun env => evSs (callF (tabT tab) 256 39) 256 env l_law_1) (rngI 0 3) _ = _ := qL
  have hm0 : D.length < most := by unfold most; omega
  have hm1 : D.length + 1 < most := by unfold most; omega
  have hm2 : D.length + 2 < most := by unfold most; omega
  have i5 : idxop (.lst false (r1.map PV.int)) (.int (lo : Int)) = .ok (.int (r1.getD lo 0)) := ix_ints (by omega)
  generalize r1.getD lo 0 = cc at i5 lmk lz
  simp [eN, cN, q3, qL, e6, e7, mx, mdl, mdm, hmy, hlo, frz_rowV, cRV, frz_trV, cTV, ir0, ir1, ir2, it0, it1, it2, hasL, kept, c0', c1', c2', hhf, ad, hm0, hm1, qn]
  rw [lz _ _ (fun k hk => by
    have j2 := ix_ints (o := false) (xs := r2) (k := k) (by omega)
    have j0 := ix_ints (o := false) (xs := r0) (k := k) (by omega)
    simp [-List.getD_eq_getElem?_getD, frz_rowV, ir0, ir1, ir2, i5, j2, j0, lmk])]
  have fE := enV_frz D
  have fE2 : frzs (D.map fun p => enV (p.1, false, p.2.2)) = D.map fun p => enV (p.1, false, p.2.2) := frzs_map (fun p => by simp [enV]) D
  have q := fun E5 E6 E10 E12 E15 E16 E17 E18 x19 => law_all (w := 256) (m := 28) (zb := zb) (zd := zd) hr hl hd (by omega) (by omega) (some (.scr (ns.map PV.int))) (some (.int sz)) (some (.int n)) (some (.str zb)) (some (.str zd)) E5 E6 E10 (some (.int wd)) E12 x13 x14 E15 E16 E17 E18 (D ++ [(.part (.box zb) lo my, true, P0), (.two .join (.part (.door zd) lo hf) (.part (.late zb) lo hf), true, P1 ++ P2), (.pick (.part (.late zb) lo 1) (.door zd) (.box zb), false, P3)]) (fun p hp => by
    rcases List.mem_append.mp hp with hp | hp
    · exact hD p hp
    · simp only [List.mem_cons, List.not_mem_nil, or_false] at hp
      rcases hp with rfl | rfl | rfl
      · exact p1
      · exact p2
      · exact p3) x19 none none
  have e3' : ([(.part (.box zb) lo my, true, P0), (.two .join (.part (.door zd) lo hf) (.part (.late zb) lo hf), true, P1 ++ P2), (.pick (.part (.late zb) lo 1) (.door zd) (.box zb), false, P3)] : List En).map (fun p => enV (p.1, false, p.2.2)) = [PV.tup [.tup [.str "part", (Tm.box zb).pv, .int lo, .int my], .lst false (P0.map PV.int)], .tup [.tup [.str "join", .tup [.str "part", (Tm.door zd).pv, .int lo, .int hf], .tup [.str "part", (Tm.late zb).pv, .int lo, .int hf]], .lst false ((P1 ++ P2).map PV.int)], .tup [.tup [.str "pick", .tup [.str "part", (Tm.late zb).pv, .int lo, .int 1], (Tm.door zd).pv, (Tm.box zb).pv], .lst false (P3.map PV.int)]] := rfl
  simp only [List.map_append, e3'] at q
  have fa : ∀ xs ys : List PV, frzs (xs ++ ys) = frzs xs ++ frzs ys := fun xs ys => by
    induction xs with
    | nil => rfl
    | cons x xs ih => rw [List.cons_append, frzs_cons, ih, frzs_cons, List.cons_append]
  have f12 : frzs (P1.map PV.int ++ P2.map PV.int) = P1.map PV.int ++ P2.map PV.int := by rw [fa, frzs_ints, frzs_ints]
  have fd : ∀ (z : Str) (r : List Int), frz (dMM true true [(z, r)]) = dMM false false [(z, r)] := fun z r => frz_dMM
  simp [frz_rowV, frz_trV, ir0, ir1, ir2, it0, it1, it2, hasL, kept, hm2, frzV, fa, fE, fE2, f12]
  obtain ⟨x19', x20', x21', q⟩ := q _ _ _ _ _ _ _ _ _
  rw [q]
  simp [frz_rowV, ir0, ir1, ir2, fd, dsp1, c_eqD1]
end BW.Law

open PySem PySem.W PySem.Calls PyProof.Rows
theorem PySem.Challenge.cw_beatwright_k21_half_known_worths_holds : PySem.Challenge.rw_beatwright_k21_half_known_worths.Holds := by
  w_on; o_law
  refine HandSHeadRun.head_any (r := OpenLaw.row PySem.Challenge.rw_beatwright_k21_half_known_worths) (q := view (OpenLaw.row PySem.Challenge.rw_beatwright_k21_half_known_worths).prog [23]) (H := BW.Law.hk) (ob := BW.Law.ob) (M := 8000) (loose := BW.Law.lo) (d := HandSHeadRun.topDef (OpenLaw.row PySem.Challenge.rw_beatwright_k21_half_known_worths).prog 23) (kwd := []) BW.Law.ob_eq
    (by kernel_rfl) (fun s => by kernel_rfl) BW.Law.run (by kernel_rfl) (by kernel_rfl) (by kernel_rfl) (by rfl) (by first | assumption | decide +kernel) (by decide +kernel) ⟨rfl, rfl, rfl, rfl, rfl, by decide +kernel⟩ ?hw ?hc
  case hw => w_witness2
  case hc =>
    have h := BW.end_of (l := PySem.Challenge.rw_beatwright_k21_half_known_worths) (n := 63) (k := 40) (w := 256) (i := BW.Law.f_law) (tab := BW.Law.tab) (ecs := BW.Law.ecs) (gl := BW.Law.gls) (D := BW.Law.d_law) (m := 0) (q := view (OpenLaw.row PySem.Challenge.rw_beatwright_k21_half_known_worths).prog [23]) (loose := BW.Law.lo) (XP := XL (view (OpenLaw.row PySem.Challenge.rw_beatwright_k21_half_known_worths).prog [23]) []) (d := HandSHeadRun.topDef (OpenLaw.row PySem.Challenge.rw_beatwright_k21_half_known_worths).prog 23) rfl (by decide) (by kernel_rfl) ⟨rfl, by decide, by decide⟩ rfl (by kernel_rfl) rfl BW.Law.tab_okay fun ns hl => BW.Law.plain ns hl
    rw [BW.Law.fn_eq, BW.Law.fa_eq] at h
    exact h

