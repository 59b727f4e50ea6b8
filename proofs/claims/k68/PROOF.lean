import PyProof.Rows.All
import Wide.All
import OpenK.AllK
import Wide.FinOn
import HandS.ForMost
import HandS.ForExc
import KE.DataMinMax
import KE.SortData
import KE.DataCmp
import HandS.Deep
import HandS.TupAny
import HandS.TupLe
import HandS.IsInst
import HandS.Zip
import HandS.Walk
import HandS.Style
import HandS.Flow
import HandS.TryMany
import HandS.ExcIs
import HandS.SetFor
import HandS.Strs
import KE.GoesEnum
import PyProof.Rows.InDataRows
import HandS.Conv
import PyProof.TupleOfStr
import PyProof.CallStr
import PyProof.Rows.StrRev
import PySem.Challenge.RW_planwhole_k68_jobs_that_come_again
set_option Elab.async false
set_option linter.all false
set_option hygiene false
local macro_rules | `(tactic| walk_at "1") => `(tactic| first
  | refine wp_bind ?_
  | refine wp_ok ?_
  | refine wp_exn ?_
  | refine wp_opt ⟨_, rfl, ?_⟩
  | refine wp_true rfl ?_
  | refine wp_false rfl ?_
  | refine wp_and ?_
  | refine wp_or ?_
  | refine and_t rfl ?_
  | refine and_f rfl ?_
  | refine or_t rfl ?_
  | refine or_f rfl ?_)
local macro_rules | `(tactic| walk_at "w") => `(tactic| repeat (first
  | ((fail_if_success (with_reducible refine is_loop ?_)); walk_at "wp1")
  | refine wp_caught ?_
  | refine wp_nm rfl (by walk_at "nsT") ?_
  | refine wp_tp ?_
  | refine wp_tps ?_
  | refine wp_ta (by walk_at "lenT") (by walk_at "lenT") (by walk_at "lineT") ?_
  | refine wp_la (by walk_at "lenT") (by walk_at "lenT") (by walk_at "lineT") ?_
  | refine wp_rng1 (by omega) ?_
  | refine wp_rng2 (by omega) (by omega) (by omega) ?_))
local macro_rules | `(tactic| walk_at "i") => `(tactic| first | exact rfl | exact enum_gt _ | exact enum_gr _ | exact enum_g _ _ _ | exact rng_upto _ | exact rng_int _ _)
local macro_rules | `(tactic| walk_at "e") => `(tactic| first
  | with_reducible refine wp_inT ?_
  | with_reducible refine wp_inF ?_
  | with_reducible refine wp_ninT ?_
  | with_reducible refine wp_ninF ?_
  | with_reducible refine wp_sumL ?_
  | with_reducible refine wp_cmp (eqL_nil _ _) ?_
  | with_reducible refine wp_cmp (neL_nil _ _) ?_
  | with_reducible refine wp_cmp (in_intT _ _) ?_
  | with_reducible refine wp_cmp (in_intL _ _) ?_
  | with_reducible refine wp_cmp (nin_intT _ _) ?_
  | with_reducible refine wp_cmp (nin_intL _ _) ?_)
local macro_rules | `(tactic| walk_at "x") => `(tactic| repeat (first
  | walk_at "we"
  | ((fail_if_success (with_reducible refine is_loop ?_)); walk_at "wp1")
  | refine wp_nm rfl (by walk_at "nsT") ?_
  | refine wp_tp ?_
  | refine wp_tps ?_
  | refine wp_ta (by walk_at "lenT") (by walk_at "lenT") (by walk_at "lineT") ?_
  | refine wp_la (by walk_at "lenT") (by walk_at "lenT") (by walk_at "lineT") ?_
  | refine wp_rng1 (by omega) ?_
  | refine wp_rng2 (by omega) (by omega) (by omega) ?_
  | refine wp_caught ?_
  | (unfold evIX; refine wp_bind ?_)))
local macro_rules | `(tactic| walk_at "wp1") => `(tactic| walk_at "1")
local macro_rules | `(tactic| walk_at "wpT") => `(tactic| repeat walk_at "wp1")
local macro_rules | `(tactic| walk_at "lenT") => `(tactic| repeat' first | exact len_nil | exact len_one | exact len_two | apply len_app | apply len_cut | apply len_rev | assumption)
local macro_rules | `(tactic| walk_at "lineT") => `(tactic| (have := sizeLine_eq; omega))
local macro_rules | `(tactic| walk_at "wq") => `(tactic| repeat (first | walk_at "wp1" | refine wp_ta (by walk_at "lenT") (by walk_at "lenT") (by walk_at "lineT") ?_ | refine wp_la (by walk_at "lenT") (by walk_at "lenT") (by walk_at "lineT") ?_))
local macro_rules | `(tactic| walk_at "tgT") => `(tactic| repeat' first | exact TG.nil | apply TG.cut | apply TG.rev | apply TG.app | apply TG.one | assumption)
local macro_rules | `(tactic| walk_at "nsT") => `(tactic| first | assumption | (intro h; cases h))
local macro_rules | `(tactic| walk_at "wk") => `(tactic| walk_at "w")
local macro_rules | `(tactic| walk_at "itT") => `(tactic| walk_at "i")
local macro_rules | `(tactic| walk_at "we") => `(tactic| walk_at "e")
local macro_rules | `(tactic| walk_at "wx") => `(tactic| walk_at "x")
set_option hygiene true
set_option maxRecDepth 100000
/-! A pure reading of a small Python: values are PyData, lists by value. -/
namespace Pv
open PySem PySem.W

inductive Ex where
  | unfit | wide
  deriving DecidableEq

/-- a run's end: a value and the cells of the drawing state; an error; nothing is said -/
inductive R (α : Type) where
  | ok (a : α) (ls : List PyData)
  | exn (x : Ex) (ls : List PyData)
  | stuck
abbrev M (α : Type) := List PyData → R α
def M.pure {α : Type} (a : α) : M α := fun ls => .ok a ls
def M.bind {α β : Type} (m : M α) (f : α → M β) : M β := fun ls =>
  match m ls with
  | .ok a ls' => f a ls'
  | .exn x ls' => .exn x ls'
  | .stuck => .stuck
def M.stuck {α : Type} : M α := fun _ => .stuck
def M.raise {α : Type} (x : Ex) : M α := fun ls => .exn x ls
/-- an option as a run -/
def M.opt {α : Type} : Option α → M α
  | some a => M.pure a
  | none => M.stuck
def M.guard (b : Bool) : M Unit := if b = true then M.pure () else M.stuck
instance : Monad M where
  pure := M.pure
  bind := M.bind

theorem M.pure_bind {α β : Type} (a : α) (f : α → M β) : M.bind (M.pure a) f = f a := rfl
theorem M.bind_assoc {α β γ : Type} (m : M α) (f : α → M β) (g : β → M γ) : M.bind (M.bind m f) g = M.bind m fun a => M.bind (f a) g := by
  funext ls
  unfold M.bind
  cases m ls <;> rfl
theorem M.bind_pure {α : Type} (m : M α) : M.bind m M.pure = m := by
  funext ls
  unfold M.bind
  cases m ls <;> rfl

/-- what a name holds: nothing; a value that is never changed; an own list or dict; the drawing state -/
inductive Slot where
  | no | fz (d : PyData) | ow (d : PyData) | st
abbrev Env := List Slot

inductive Ty where
  | int | bool | str | tuple | list
  deriving DecidableEq
def Ty.name : Ty → String
  | .int => "int" | .bool => "bool" | .str => "str" | .tuple => "tuple" | .list => "list"
inductive F1 where
  | len | list | tuple | sorted | sum | min | max | abs | int | str | lenset | sortedset | join
  deriving DecidableEq
inductive F2 where
  | min | max
  deriving DecidableEq

mutual
inductive Tg where
  | nm (i : Nat)
  | tp (ts : Tgs)
inductive Tgs where
  | nil
  | cons (t : Tg) (ts : Tgs)
end

mutual
inductive E where
  | var (i : Nat)
  | bor (i : Nat)
  | gint (n : Nat) (c : Int)
  | cst (d : PyData)
  | bin (op : Operator) (a b : E)
  | neg (a : E)
  | not (a : E)
  | and (a b : E)
  | or (a b : E)
  | cmp (op : CmpOp) (a b : E)
  | chn (op op' : CmpOp) (a b c : E)
  | ite (c a b : E)
  | isi (a : E) (t : Ty)
  | isi2 (a : E) (t u : Ty)
  | fn1 (f : F1) (a : E)
  | fn2 (f : F2) (a b : E)
  | cnt (a b : E)
  | own (f : Nat) (st : Option Nat) (es : Es)
  | idx (a i : E)
  | sid (i : Nat) (x : E)
  | slc (a : E) (lo hi : O)
  | rev (a : E)
  | tup (es : Es)
  | lst (es : Es)
  | dct
  | lof (it : It)
  | tof (it : It)
  | lc (vs : List Nat) (t : Tg) (it : It) (c : O) (e : E)
  | lc2 (vs vs1 : List Nat) (t : Tg) (it : It) (c : O) (t1 : Tg) (it1 : It) (c1 : O) (e : E)
inductive Es where
  | nil
  | cons (e : E) (es : Es)
inductive O where
  | none
  | some (e : E)
inductive It where
  | seq (e : E)
  | rng1 (a : E)
  | rng2 (a b : E)
  | rng3 (a b c : E)
  | enum (a : E)
  | zip (a b : E)
  | zip3 (a b c : E)
end

/-! ### operations on values -/
def truth : PyData → Option Bool
  | .none => some false
  | .bool b => some b
  | .int i => some (i != 0)
  | .str z => if z.length ≤ sizeLine then some (z.length != 0) else none
  | .list xs => some (!xs.isEmpty)
  | .tuple xs => some (!xs.isEmpty)
  | .dict kvs => some (!kvs.isEmpty)
def small (i : Int) : Bool := decide (i.natAbs < 18446744073709551616)
def binop : Operator → PyData → PyData → Option PyData
  | .Add, .int i, .int j => some (.int (i + j))
  | .Add, .str x, .str y => if x.length + y.length ≤ sizeLine then some (.str (x ++ y)) else none
  | .Add, .tuple x, .tuple y => if x.length + y.length ≤ sizeLine then some (.tuple (x ++ y)) else none
  | .Add, .list x, .list y => if x.length + y.length ≤ sizeLine then some (.list (x ++ y)) else none
  | .Sub, .int i, .int j => some (.int (i - j))
  | .Mult, .int i, .int j => if small i || small j then some (.int (i * j)) else none
  | .FloorDiv, .int i, .int j => if 0 < j ∧ j < 1073741824 then some (.int (i / j)) else none
  | .Mod, .int i, .int j => if 0 < j then some (.int (i % j)) else none
  | .Pow, .int i, .int j => if 0 ≤ j ∧ j ≤ 1000000 ∧ i.natAbs < 2 ^ 64 then some (.int (i ^ j.toNat)) else none
  | _, _, _ => none
def isInt : PyData → Bool
  | .int _ => true
  | _ => false
def cmpop : CmpOp → PyData → PyData → Option Bool
  | .Eq, x, y => if SeqAt.shaped x && SeqAt.shaped y then some (PyData.eqv x y) else none
  | .NotEq, x, y => if SeqAt.shaped x && SeqAt.shaped y then some (!PyData.eqv x y) else none
  | .Lt, .int i, .int j => some (decide (i < j))
  | .LtE, .int i, .int j => some (decide (i ≤ j))
  | .Gt, .int i, .int j => some (decide (j < i))
  | .GtE, .int i, .int j => some (decide (j ≤ i))
  | .Is, x, .none => some (match x with | .none => true | _ => false)
  | .IsNot, x, .none => some (match x with | .none => false | _ => true)
  | .Is, .bool a, .bool b => some (a == b)
  | .IsNot, .bool a, .bool b => some (a != b)
  | .In, x, .list ys => if SeqAt.shaped x && SeqAt.shaped (.list ys) then some (ys.any fun z => PyData.eqv z x) else none
  | .NotIn, x, .list ys => if SeqAt.shaped x && SeqAt.shaped (.list ys) then some (!ys.any fun z => PyData.eqv z x) else none
  | .In, x, .tuple ys => if SeqAt.shaped x && SeqAt.shaped (.list ys) then some (ys.any fun z => PyData.eqv z x) else none
  | .NotIn, x, .tuple ys => if SeqAt.shaped x && SeqAt.shaped (.list ys) then some (!ys.any fun z => PyData.eqv z x) else none
  | _, _, _ => none
def isTy : Ty → PyData → Bool
  | .int, .int _ => true
  | .int, .bool _ => true
  | .bool, .bool _ => true
  | .str, .str _ => true
  | .tuple, .tuple _ => true
  | .list, .list _ => true
  | _, _ => false
def seqOf : PyData → Option (List PyData)
  | .list xs => some xs
  | .tuple xs => some xs
  | _ => none
def intOf : PyData → Option Int
  | .int i => some i
  | _ => none
def intsOf : List PyData → Option (List Int)
  | [] => some []
  | .int i :: r => (intsOf r).map (i :: ·)
  | _ :: _ => none
def strsOf : List PyData → Option (List Str)
  | [] => some []
  | .str i :: r => (strsOf r).map (i :: ·)
  | _ :: _ => none
def index (d : PyData) (i : Int) : Option PyData :=
  match d with
  | .list xs => L2.atI xs i
  | .tuple xs => L2.atI xs i
  | .str z => if z.length ≤ sizeLine then (L2.atI z.cps.toList i).map fun c => .str ⟨#[c]⟩ else none
  | _ => none
def cut {α : Type} (xs : List α) (lo hi : Option Int) : List α :=
  (xs.drop (HT.sIx xs.length 0 lo)).take (HT.sIx xs.length xs.length hi - HT.sIx xs.length 0 lo)
def slice (d : PyData) (lo hi : Option Int) : Option PyData :=
  match d with
  | .list xs => some (.list (cut xs lo hi))
  | .tuple xs => some (.tuple (cut xs lo hi))
  | .str z => if z.length ≤ sizeLine then some (.str ⟨(cut z.cps.toList lo hi).toArray⟩) else none
  | _ => none
def reversed (d : PyData) : Option PyData :=
  match d with
  | .list xs => some (.list xs.reverse)
  | .tuple xs => some (.tuple xs.reverse)
  | .str z => if z.length ≤ sizeLine then some (.str ⟨z.cps.toList.reverse.toArray⟩) else none
  | _ => none

def ded : List Int → List Int → List Int
  | acc, [] => acc
  | acc, n :: ns => ded (if acc.any (· == n) then acc else acc ++ [n]) ns
def allAlike (ds : List PyData) : Bool := ds.all fun d => ds.all fun e => alike d e
def isTup1 : PyData → Bool
  | .tuple (_ :: _) => true
  | _ => false
def noTup : PyData → Bool
  | .none => false
  | .tuple _ => false
  | _ => true
def notNone : PyData → Bool
  | .none => false
  | _ => true
def deep (ds : List PyData) : Bool := decide (PyData.depthAll ds ≤ 64)
def sorts (ds : List PyData) : Option (List PyData) :=
  if allAlike ds && (ds.all isTup1 || ds.all noTup) && deep ds then some (ds.mergeSort (dataLe false fun d => d)) else none
def least (ds : List PyData) : Option PyData :=
  match ds with
  | [] => none
  | x :: xs => if allAlike (x :: xs) && (x :: xs).all notNone && deep (x :: xs) then some (minD x xs) else none
def most (ds : List PyData) : Option PyData :=
  match ds with
  | [] => none
  | x :: xs => if allAlike (x :: xs) && (x :: xs).all notNone && deep (x :: xs) then some (maxD x xs) else none
def f1 : F1 → PyData → Option PyData
  | .len, .list xs => some (.int xs.length)
  | .len, .tuple xs => some (.int xs.length)
  | .len, .dict kvs => some (.int kvs.length)
  | .len, .str z => if z.length ≤ sizeLine then some (.int z.length) else none
  | .list, d => (seqOf d).map .list
  | .tuple, .str z => if z.cps.size ≤ sizeLine then some (.tuple (z.cps.toList.map fun c => .str ⟨#[c]⟩)) else none
  | .tuple, d => (seqOf d).map .tuple
  | .sorted, d => (seqOf d).bind fun xs => (sorts xs).map .list
  | .sum, d => (seqOf d).bind fun xs => (intsOf xs).map fun ns => .int ns.sum
  | .min, d => (seqOf d).bind least
  | .max, d => (seqOf d).bind most
  | .abs, .int i => some (.int (if i < 0 then -i else i))
  | .int, .int i => some (.int i)
  | .int, .bool b => some (.int (if b then 1 else 0))
  | .str, .int i => if i.natAbs.log2 < 1920 then some (.str (toString i)) else none
  | .str, .none => some (.str "None")
  | .lenset, d => (seqOf d).bind fun xs => (intsOf xs).bind fun ns => if ns.length ≤ 4000 then some (.int (ded [] ns).length) else none
  | .sortedset, d => (seqOf d).bind fun xs => (intsOf xs).bind fun ns => if ns.length ≤ 4000 ∧ (ded [] ns).length < 64 then some (.list (((ded [] ns).mergeSort fun a b => decide (a ≤ b)).map .int)) else none
  | .join, d => (seqOf d).bind fun xs => (strsOf xs).bind fun ss => if (ss.map (·.length)).sum + ss.length * (0 : Nat) ≤ 16777216 then some (.str (Txt.join (Str.mk #[]) ss)) else none
  | _, _ => none
def f2 : F2 → PyData → PyData → Option PyData
  | .max, .int i, .int j => some (.int (if j > i then j else i))
  | .min, .int i, .int j => some (.int (if j < i then j else i))
  | .max, .tuple xs, .tuple ys => most [.tuple xs, .tuple ys]
  | _, _, _ => none
/-- list.count of a whole number -/
def isL : PyData → Bool
  | .list _ => true
  | _ => false
def cntOf : PyData → PyData → Option PyData
  | .list xs, .int k => (intsOf xs).map fun ns => .int (ns.count k : Nat)
  | _, _ => none
def chop (i : Int) : Bool := decide (i.natAbs < 4611686018427387904)
def few (n : Nat) : Bool := decide (n ≤ 1000000)
def rng (lo : Int) (n : Nat) : List PyData := (List.range n).map fun (k : Nat) => .int (lo + (k : Int))
def rngs (lo hi c : Int) : Option (List PyData) :=
  if c ≠ 0 ∧ c.natAbs < 1073741824 ∧ Builtin.Range.small lo hi c = true ∧ 0 ≤ Builtin.Range.rangeSize lo hi c ∧ Builtin.Range.rangeSize lo hi c ≤ 1000000 then
    some ((List.range (Builtin.Range.rangeSize lo hi c).toNat).map fun (k : Nat) => .int (lo + (k : Int) * c))
  else none
def enums : Nat → List PyData → List PyData
  | _, [] => []
  | k, x :: xs => .tuple [.int (k : Nat), x] :: enums (k + 1) xs
def zips : List PyData → List PyData → List PyData
  | x :: xs, y :: ys => .tuple [x, y] :: zips xs ys
  | _, _ => []
/-- two lists, or two tuples, side by side -/
def zipOf : PyData → PyData → Option (List PyData)
  | .list xs, .list ys => if decide (xs.length ≤ 1000000) = true then some (zips xs ys) else none
  | .tuple xs, .tuple ys => if decide (xs.length ≤ 1000000) = true then some (zips xs ys) else none
  | _, _ => none
def zips3 : List PyData → List PyData → List PyData → List PyData
  | x :: xs, y :: ys, z :: zs => .tuple [x, y, z] :: zips3 xs ys zs
  | _, _, _ => []

/-! ### targets -/
mutual
def bindT : Tg → PyData → Env → Option Env
  | .nm i, d, ρ => match ρ[i]? with
    | some .st => none
    | some _ => some (ρ.set i (.fz d))
    | none => none
  | .tp ts, .tuple ds, ρ => bindTs ts ds ρ
  | .tp _, _, _ => none
def bindTs : Tgs → List PyData → Env → Option Env
  | .nil, [], ρ => some ρ
  | .cons t ts, d :: ds, ρ => (bindT t d ρ).bind fun ρ' => bindTs ts ds ρ'
  | _, _, _ => none
end
def wipeE (ρ : Env) : List Nat → Env
  | [] => ρ
  | v :: vs => (wipeE ρ vs).set v .no

/-! ### expressions -/
/-- one list comprehension: f gives an item's element, or none where a test fails; nothing may be raised within -/
def loopC (f : PyData → M (Option PyData)) : List PyData → List PyData → M (List PyData)
  | [], acc => M.pure acc
  | x :: xs, acc => fun ls => match f x ls with
    | .ok (some d) ls' => loopC f xs (acc ++ [d]) ls'
    | .ok none ls' => loopC f xs acc ls'
    | _ => .stuck
def loopC2 (f : List PyData → PyData → M (List PyData)) : List PyData → List PyData → M (List PyData)
  | [], acc => M.pure acc
  | x :: xs, acc => fun ls => match f acc x ls with
    | .ok acc' ls' => loopC2 f xs acc' ls'
    | _ => .stuck

section
variable (Φ : Nat → List PyData → M PyData)
def isBor : E → Bool
  | .bor _ => true
  | _ => false
/-- and, or: the first that decides -/
@[irreducible] def andor (w : Bool) (a b : M PyData) : M PyData :=
  M.bind a fun x => M.bind (M.opt (truth x)) fun t => if t = w then b else M.pure x
/-- the state is handed on -/
def stOk (ρ : Env) : Option Nat → M Unit
  | none => M.pure ()
  | some i => match ρ[i]? with
    | some .st => M.pure ()
    | _ => M.stuck
/-- a value that is kept by something: not an own list as it stands -/
def kV (e : E) (m : M PyData) : M PyData := if isBor e = true then M.stuck else m
mutual
def evX : E → Env → M PyData
  | .var i, ρ => match ρ[i]? with
    | some (.fz d) => M.pure d
    | _ => M.stuck
  | .bor i, ρ => match ρ[i]? with
    | some (.fz d) => M.pure d
    | some (.ow d) => M.pure d
    | _ => M.stuck
  | .gint _ c, ρ => M.pure (.int c)
  | .cst d, ρ => M.pure d
  | .bin op a b, ρ => M.bind (kV a (evX a ρ)) fun x => M.bind (kV b (evX b ρ)) fun y => M.opt (binop op x y)
  | .neg a, ρ => M.bind (kV a (evX a ρ)) fun x => M.opt ((intOf x).map fun i => .int (-i))
  | .not a, ρ => M.bind (evX a ρ) fun x => M.opt ((truth x).map fun b => .bool (!b))
  | .and a b, ρ => andor true (kV a (evX a ρ)) (kV b (evX b ρ))
  | .or a b, ρ => andor false (kV a (evX a ρ)) (kV b (evX b ρ))
  | .cmp op a b, ρ => M.bind (evX a ρ) fun x => M.bind (evX b ρ) fun y => M.opt ((cmpop op x y).map .bool)
  | .chn op op' a b c, ρ => M.bind (evX a ρ) fun x => M.bind (evX b ρ) fun y => M.bind (M.opt (cmpop op x y)) fun k =>
      if k = true then M.bind (evX c ρ) fun z => M.opt ((cmpop op' y z).map .bool) else M.pure (.bool false)
  | .ite c a b, ρ => M.bind (evX c ρ) fun x => M.bind (M.opt (truth x)) fun t => if t = true then kV a (evX a ρ) else kV b (evX b ρ)
  | .isi a t, ρ => M.bind (evX a ρ) fun x => M.pure (.bool (isTy t x))
  | .isi2 a t u, ρ => M.bind (evX a ρ) fun x => M.pure (.bool (isTy t x || isTy u x))
  | .fn1 f a, ρ => M.bind (evX a ρ) fun x => M.opt (f1 f x)
  | .fn2 f a b, ρ => M.bind (kV a (evX a ρ)) fun x => M.bind (kV b (evX b ρ)) fun y => M.opt (f2 f x y)
  | .cnt a b, ρ => M.bind (evX a ρ) fun x => M.bind (M.guard (isL x)) fun _ => M.bind (kV b (evX b ρ)) fun y => M.opt (cntOf x y)
  | .own f st es, ρ => M.bind (stOk ρ st) fun _ => M.bind (evsX es ρ) fun xs => Φ f xs
  | .idx a i, ρ => M.bind (evX a ρ) fun x => M.bind (kV i (evX i ρ)) fun y => M.opt ((intOf y).bind fun k => index x k)
  | .sid i x, ρ => match ρ[i]? with
    | some .st => M.bind (kV x (evX x ρ)) fun y => fun ls => M.opt ((intOf y).bind fun k => L2.atI ls k) ls
    | _ => M.stuck
  | .slc a lo hi, ρ => M.bind (evX a ρ) fun x => M.bind (evOX lo ρ) fun l => M.bind (evOX hi ρ) fun h => M.opt (slice x l h)
  | .rev a, ρ => M.bind (evX a ρ) fun x => M.opt (reversed x)
  | .tup es, ρ => M.bind (evsX es ρ) fun xs => M.pure (.tuple xs)
  | .lst es, ρ => M.bind (evsX es ρ) fun xs => M.pure (.list xs)
  | .dct, ρ => M.pure (.dict [])
  | .lof it, ρ => M.bind (evIX it ρ) fun xs => M.pure (.list xs)
  | .tof it, ρ => M.bind (evIX it ρ) fun xs => M.pure (.tuple xs)
  | .lc vs t it c e, ρ => M.bind (evIX it ρ) fun xs => M.bind (loopC (fun x =>
      M.bind (M.opt (bindT t x (wipeE ρ vs))) fun ρ' => M.bind (evTX c ρ') fun k =>
        if k = true then M.bind (kV e (evX e ρ')) fun d => M.pure (some d) else M.pure none) xs []) fun ds => M.pure (.list ds)
  | .lc2 vs vs1 t it c t1 it1 c1 e, ρ => M.bind (evIX it ρ) fun xs => M.bind (loopC2 (fun acc x =>
      M.bind (M.opt (bindT t x (wipeE ρ vs))) fun ρ' => M.bind (evTX c ρ') fun k =>
        if k = true then M.bind (evIX it1 ρ') fun ys => M.bind (M.guard (decide (acc.length + ys.length ≤ 1000000))) fun _ => loopC (fun y =>
          M.bind (M.opt (bindT t1 y (wipeE ρ' vs1))) fun ρ2 => M.bind (evTX c1 ρ2) fun k1 =>
            if k1 = true then M.bind (kV e (evX e ρ2)) fun d => M.pure (some d) else M.pure none) ys acc
        else M.pure acc) xs []) fun ds => M.pure (.list ds)
def evsX : Es → Env → M (List PyData)
  | .nil, ρ => M.pure []
  | .cons e es, ρ => M.bind (kV e (evX e ρ)) fun x => M.bind (evsX es ρ) fun xs => M.pure (x :: xs)
def evOX : O → Env → M (Option Int)
  | .none, ρ => M.pure none
  | .some e, ρ => M.bind (kV e (evX e ρ)) fun x => M.opt ((intOf x).map some)
/-- a test; none stands for true -/
def evTX : O → Env → M Bool
  | .none, ρ => M.pure true
  | .some e, ρ => M.bind (evX e ρ) fun x => M.opt (truth x)
def evIX : It → Env → M (List PyData)
  | .seq a, ρ => M.bind (evX a ρ) fun x => M.opt (seqOf x)
  | .rng1 a, ρ => M.bind (kV a (evX a ρ)) fun x => M.opt ((intOf x).bind fun n => if chop n && few n.toNat then some (rng 0 n.toNat) else none)
  | .rng2 a b, ρ => M.bind (kV a (evX a ρ)) fun x => M.bind (kV b (evX b ρ)) fun y => M.opt ((intOf x).bind fun i => (intOf y).bind fun j => if chop i && chop j && few (j - i).toNat then some (rng i (j - i).toNat) else none)
  | .rng3 a b c, ρ => M.bind (kV a (evX a ρ)) fun x => M.bind (kV b (evX b ρ)) fun y => M.bind (kV c (evX c ρ)) fun z => M.opt ((intOf x).bind fun i => (intOf y).bind fun j => (intOf z).bind fun k => rngs i j k)
  | .enum a, ρ => M.bind (evX a ρ) fun x => M.opt ((seqOf x).map (enums 0))
  | .zip a b, ρ => M.bind (evX a ρ) fun x => M.bind (evX b ρ) fun y => M.opt (zipOf x y)
  | .zip3 a b c, ρ => M.bind (evX a ρ) fun x => M.bind (evX b ρ) fun y => M.bind (evX c ρ) fun z => M.opt ((seqOf x).bind fun xs => (seqOf y).bind fun ys => (seqOf z).map fun zs => zips3 xs ys zs)
end
abbrev ev (ρ : Env) (e : E) : M PyData := evX Φ e ρ
/-- an expression whose value is kept by something: not an own list as it stands -/
def evV (ρ : Env) (e : E) : M PyData := if isBor e = true then M.stuck else ev Φ ρ e
abbrev evs (ρ : Env) (e : Es) : M (List PyData) := evsX Φ e ρ
abbrev evO (ρ : Env) (e : O) : M (Option Int) := evOX Φ e ρ
abbrev evT (ρ : Env) (e : O) : M Bool := evTX Φ e ρ
abbrev evI (ρ : Env) (e : It) : M (List PyData) := evIX Φ e ρ
end
end Pv
namespace Pv
example (Φ) (ρ : Env) (op a b) : ev Φ ρ (.bin op a b) = M.bind (evV Φ ρ a) fun x => M.bind (evV Φ ρ b) fun y => M.opt (binop op x y) := rfl
example (Φ) (ρ : Env) (e es) : evs Φ ρ (.cons e es) = M.bind (evV Φ ρ e) fun x => M.bind (evs Φ ρ es) fun xs => M.pure (x :: xs) := rfl
end Pv

set_option maxRecDepth 100000
/-! Statements of the small Python, read as runs. -/
namespace Pv
open PySem PySem.W
mutual
inductive S where
  | asg (t : Tg) (e : E)
  | asgF (i : Nat) (e : E)
  | mv (i j : Nat)
  | setX (i : Nat) (x e : E)
  | augX (i : Nat) (op : Operator) (x e : E)
  | aug (i : Nat) (op : Operator) (e : E)
  | app (i : Nat) (e : E)
  | popX (t : Tg) (j : Nat) (x : O)
  | appPop (i j : Nat) (x : O)
  | remI (i : Nat) (e : E)
  | exp (e : E)
  | ite (c : E) (a b : Ss)
  | whl (c : E) (b : Ss)
  | for (t : Tg) (it : It) (b : Ss)
  | ret (e : E)
  | brk
  | cnt
  | rais (x : Ex)
  | pass
  | fr (is : List Nat) (s : S)
  | tryR (i : Nat) (e : E)
  | tryC (i : Nat) (c a b : E)
inductive Ss where
  | nil
  | cons (s : S) (ss : Ss)
end
inductive Fl where
  | nx (ρ : Env)
  | ret (d : PyData)
  | brk (ρ : Env)
  | cnt (ρ : Env)
/-- an own list's (or the state's) cells -/
def cells (i : Nat) (ρ : Env) : M (List PyData) :=
  match ρ[i]? with
  | some (.ow (.list xs)) => M.pure xs
  | some .st => fun ls => .ok ls ls
  | _ => M.stuck
/-- .. stored -/
def keep (i : Nat) (ρ : Env) (xs : List PyData) : M Env :=
  match ρ[i]? with
  | some (.ow (.list _)) => M.pure (ρ.set i (.ow (.list xs)))
  | some .st => fun _ => .ok ρ xs
  | _ => M.stuck
/-- an own list's cells, the state left out -/
def mine (i : Nat) (ρ : Env) : M (List PyData) :=
  match ρ[i]? with
  | some (.ow (.list xs)) => M.pure xs
  | _ => M.stuck
/-- the name has a list to be changed -/
def hasC (i : Nat) (ρ : Env) : M Unit :=
  match ρ[i]? with
  | some (.ow (.list _)) => M.pure ()
  | some .st => M.pure ()
  | _ => M.stuck
/-- the name holds nothing -/
def isNo (i : Nat) (ρ : Env) : M Unit :=
  match ρ[i]? with
  | some .no => M.pure ()
  | _ => M.stuck
def setAt (xs : List PyData) (k : Int) (d : PyData) : Option (List PyData) := (L2.ixN xs.length k).map fun j => xs.set j d
def frzE (ρ : Env) : List Nat → Env
  | [] => ρ
  | i :: is => match (frzE ρ is)[i]? with
    | some (.ow (.list xs)) => (frzE ρ is).set i (.fz (.list xs))
    | _ => frzE ρ is
/-- x op= y of whole numbers -/
def inop : Operator → PyData → PyData → Option PyData
  | .Add, .int i, .int j => some (.int (i + j))
  | .Sub, .int i, .int j => some (.int (i - j))
  | _, _, _ => none
def notSt (i : Nat) (ρ : Env) : M Unit :=
  match ρ[i]? with
  | some .st => M.stuck
  | none => M.stuck
  | _ => M.pure ()
/-- list.pop: the place, the item, what is left -/
def popAt (xs : List PyData) : Option Int → Option (PyData × List PyData)
  | none => (xs[xs.length - 1]?).map fun y => (y, xs.dropLast)
  | some i => if chop i then (seqIndex? i xs.length).bind fun k => (xs[k]?).map fun y => (y, xs.eraseIdx k) else none
/-- list.remove of a whole number -/
def remAt (xs : List PyData) (k : Int) : Option (List PyData) :=
  (intsOf xs).bind fun ns => (ns.findIdx? (· == k)).map fun j => xs.eraseIdx j
def loopF (f : PyData → Env → M Fl) : List PyData → Env → M Fl
  | [], ρ => M.pure (.nx ρ)
  | x :: xs, ρ => M.bind (f x ρ) fun r => match r with
    | .nx ρ' => loopF f xs ρ'
    | .cnt ρ' => loopF f xs ρ'
    | .brk ρ' => M.pure (.nx ρ')
    | .ret d => M.pure (.ret d)
def loopW (c : Env → M Bool) (f : Env → M Fl) : Nat → Env → M Fl
  | 0, _ => M.stuck
  | n + 1, ρ => M.bind (c ρ) fun k => if k = true then M.bind (f ρ) fun r => match r with
      | .nx ρ' => loopW c f n ρ'
      | .cnt ρ' => loopW c f n ρ'
      | .brk ρ' => M.pure (.nx ρ')
      | .ret d => M.pure (.ret d)
    else M.pure (.nx ρ)
/-- try: m, the two errors of the program caught -/
def M.caught {α : Type} (m : M α) (f : Ex → M α) : M α := fun ls =>
  match m ls with
  | .exn x ls' => f x ls'
  | r => r
section
variable (Φ : Nat → List PyData → M PyData) (fuel : Nat)
mutual
def ex : S → Env → M Fl
  | .asg t e, ρ => M.bind (evV Φ ρ e) fun d => M.bind (M.opt (bindT t d ρ)) fun ρ' => M.pure (.nx ρ')
  | .asgF i e, ρ => M.bind (evV Φ ρ e) fun d => M.bind (notSt i ρ) fun _ => M.pure (.nx (ρ.set i (.ow d)))
  | .mv i j, ρ => match ρ[j]? with
    | some (.ow d) => M.bind (notSt i ρ) fun _ => if i = j then M.stuck else M.pure (.nx ((ρ.set i (.ow d)).set j .no))
    | _ => M.stuck
  | .setX i x e, ρ => M.bind (evV Φ ρ e) fun d => M.bind (hasC i ρ) fun _ => M.bind (evV Φ ρ x) fun k => M.bind (cells i ρ) fun xs =>
      M.bind (M.opt ((intOf k).bind fun n => setAt xs n d)) fun ys => M.bind (keep i ρ ys) fun ρ' => M.pure (.nx ρ')
  | .augX i op x e, ρ => M.bind (hasC i ρ) fun _ => M.bind (evV Φ ρ x) fun k => M.bind (cells i ρ) fun xs => M.bind (M.opt ((intOf k).bind fun n => L2.atI xs n)) fun o =>
      M.bind (evV Φ ρ e) fun d => M.bind (M.opt (inop op o d)) fun v => M.bind (cells i ρ) fun xs' =>
      M.bind (M.opt ((intOf k).bind fun n => setAt xs' n v)) fun ys => M.bind (keep i ρ ys) fun ρ' => M.pure (.nx ρ')
  | .aug i op e, ρ => M.bind (ev Φ ρ (.var i)) fun o => M.bind (evV Φ ρ e) fun d => M.bind (M.opt (inop op o d)) fun v => M.pure (.nx (ρ.set i (.fz v)))
  | .app i e, ρ => M.bind (hasC i ρ) fun _ => M.bind (evV Φ ρ e) fun d => M.bind (mine i ρ) fun xs => M.bind (M.guard (decide (xs.length < sizeLine))) fun _ => M.pure (.nx (ρ.set i (.ow (.list (xs ++ [d])))))
  | .popX t j x, ρ => M.bind (hasC j ρ) fun _ => M.bind (evO Φ ρ x) fun k => M.bind (mine j ρ) fun xs => M.bind (M.opt (popAt xs k)) fun p =>
      M.bind (M.opt (bindT t p.1 (ρ.set j (.ow (.list p.2))))) fun ρ' => M.pure (.nx ρ')
  | .appPop i j x, ρ => M.bind (hasC i ρ) fun _ => M.bind (hasC j ρ) fun _ => M.bind (evO Φ ρ x) fun k => M.bind (mine j ρ) fun xs => M.bind (M.opt (popAt xs k)) fun p =>
      M.bind (mine i (ρ.set j (.ow (.list p.2)))) fun ys => M.bind (M.guard (decide (ys.length < sizeLine))) fun _ =>
      if i = j then M.stuck else M.pure (.nx ((ρ.set j (.ow (.list p.2))).set i (.ow (.list (ys ++ [p.1])))))
  | .remI i e, ρ => M.bind (hasC i ρ) fun _ => M.bind (evV Φ ρ e) fun d => M.bind (mine i ρ) fun xs => M.bind (M.opt ((intOf d).bind fun k => remAt xs k)) fun ys => M.pure (.nx (ρ.set i (.ow (.list ys))))
  | .exp e, ρ => M.bind (ev Φ ρ e) fun _ => M.pure (.nx ρ)
  | .ite c a b, ρ => M.bind (evT Φ ρ (.some c)) fun k => if k = true then exs a ρ else exs b ρ
  | .whl c b, ρ => loopW (fun ρ => evT Φ ρ (.some c)) (fun ρ => exs b ρ) fuel ρ
  | .for t it b, ρ => M.bind (evI Φ ρ it) fun xs => loopF (fun x ρ => M.bind (M.opt (bindT t x ρ)) fun ρ' => exs b ρ') xs ρ
  | .ret e, ρ => M.bind (evV Φ ρ e) fun d => M.pure (.ret d)
  | .brk, ρ => M.pure (.brk ρ)
  | .cnt, ρ => M.pure (.cnt ρ)
  | .rais x, _ => M.raise x
  | .pass, ρ => M.pure (.nx ρ)
  | .fr is s, ρ => ex s (frzE ρ is)
  | .tryR i e, ρ => M.bind (isNo i ρ) fun _ => M.caught (M.bind (evV Φ ρ e) fun d => M.pure (.ret d)) fun _ => M.pure (.ret (.tuple []))
  | .tryC i c a b, ρ => M.bind (isNo i ρ) fun _ => M.caught (M.bind (evT Φ ρ (.some c)) fun k => M.bind (if k = true then ev Φ ρ a else ev Φ ρ b) fun _ => M.pure (.ret (.bool false))) fun x =>
      match x with
      | .unfit => M.pure (.nx ρ)
      | .wide => M.raise .wide
def exs : Ss → Env → M Fl
  | .nil, ρ => M.pure (.nx ρ)
  | .cons s ss, ρ => M.bind (ex s ρ) fun r => match r with
    | .nx ρ' => exs ss ρ'
    | r => M.pure r
end
/-- a def's body: the parameters' values, then nothing in the other names -/
def runB (n : Nat) (b : Ss) (st : Bool) (ds : List PyData) : M PyData :=
  M.bind (exs Φ fuel b ((if st = true then [Slot.st] else []) ++ ds.map Slot.fz ++ List.replicate (n - (if st = true then 1 else 0) - ds.length) Slot.no)) fun r => match r with
    | .nx _ => M.pure .none
    | .ret d => M.pure d
    | _ => M.stuck
end
/-- a def of the text: its names (parameters first), whether its first parameter is the state, how many others, its body -/
structure Df where
  n : Nat
  st : Bool
  ar : Nat
  body : Ss
/-- the defs, to a depth of calls -/
def run (D : Nat → Option Df) (fuel : Nat) : Nat → Nat → List PyData → M PyData
  | 0, _, _ => M.stuck
  | l + 1, f, ds => match D f with
    | none => M.stuck
    | some d => if ds.length = d.ar then runB (run D fuel l) fuel d.n d.body d.st ds else M.stuck
end Pv

set_option maxRecDepth 100000
/-! What stands in the abstract heap for a datum; the state of a body; pending runs. -/
namespace Pv
open PySem PySem.W L2

mutual
/-- v stands for the datum in the part G of the heap that is never changed -/
inductive Rep (G : Hp) : V → PyData → Prop
  | non : Rep G .non .none
  | bl (b : Bool) : Rep G (.bl b) (.bool b)
  | int (i : Int) : Rep G (.int i) (.int i)
  | str (x : Str) : Rep G (.str x) (.str x)
  | lst {a : Addr} {vs : List V} {ds : List PyData} : G a = some (.lst vs) → Reps G vs ds → Rep G (.ref a) (.list ds)
  | tup {a : Addr} {vs : List V} {ds : List PyData} : G a = some (.tup vs) → Reps G vs ds → Rep G (.ref a) (.tuple ds)
  | dct {a : Addr} : G a = some (.dK []) → Rep G (.ref a) (.dict [])
inductive Reps (G : Hp) : List V → List PyData → Prop
  | nil : Reps G [] []
  | cons {v : V} {vs : List V} {d : PyData} {ds : List PyData} : Rep G v d → Reps G vs ds → Reps G (v :: vs) (d :: ds)
end

theorem Same.upd {H : Hp} {p : Addr} {o : HO} (n : H p = none) : Same H (upd H p o) := fun b x e => by
  rw [upd_ne (ne_of_none e n)]
  exact e

mutual
theorem Rep.mono {G G' : Hp} (h : Same G G') : ∀ {v : V} {d : PyData}, Rep G v d → Rep G' v d
  | _, _, .non => .non
  | _, _, .bl b => .bl b
  | _, _, .int b => .int b
  | _, _, .str b => .str b
  | _, _, .lst e r => .lst (h _ _ e) (Reps.mono h r)
  | _, _, .tup e r => .tup (h _ _ e) (Reps.mono h r)
  | _, _, .dct e => .dct (h _ _ e)
theorem Reps.mono {G G' : Hp} (h : Same G G') : ∀ {v : List V} {d : List PyData}, Reps G v d → Reps G' v d
  | _, _, .nil => .nil
  | _, _, .cons r rs => .cons (Rep.mono h r) (Reps.mono h rs)
end

mutual
theorem Rep.dp {K : PySem.W.Frag} {G H : Hp} (h : Same G H) : ∀ {v : V} {d : PyData}, Rep G v d → PyData.canLay0 d = true → Dp K H v d
  | _, _, .non, _ => .non
  | _, _, .bl b, _ => .bl b
  | _, _, .int b, _ => .int b
  | _, _, .str b, _ => .str b
  | _, _, .lst e r, c => .lst (.of (h _ _ e)) (Reps.dp h r (by simpa [PyData.canLay0] using c))
  | _, _, .tup e r, c => .tup (.of (h _ _ e)) (Reps.dp h r (by simpa [PyData.canLay0] using c))
  | _, _, .dct _, c => by simp [PyData.canLay0] at c
theorem Reps.dp {K : PySem.W.Frag} {G H : Hp} (h : Same G H) : ∀ {v : List V} {d : List PyData}, Reps G v d → PyData.canLayAll0 d = true → DpAll K H v d
  | _, _, .nil, _ => .nil
  | _, _, .cons r rs, c => by
    simp only [PyData.canLayAll0, Bool.and_eq_true] at c
    exact .cons (Rep.dp h r c.1) (Reps.dp h rs c.2)
end

theorem Reps.length {G : Hp} : ∀ {vs : List V} {ds : List PyData}, Reps G vs ds → vs.length = ds.length
  | _, _, .nil => rfl
  | _, _, .cons _ rs => by rw [List.length_cons, List.length_cons, Reps.length rs]
theorem Reps.append {G : Hp} : ∀ {vs ws : List V} {ds es : List PyData}, Reps G vs ds → Reps G ws es → Reps G (vs ++ ws) (ds ++ es)
  | _, _, _, _, .nil, s => s
  | _, _, _, _, .cons r rs, s => .cons r (Reps.append rs s)
theorem Reps.get {G : Hp} : ∀ {vs : List V} {ds : List PyData} {i : Nat} {d : PyData}, Reps G vs ds → ds[i]? = some d → ∃ v, vs[i]? = some v ∧ Rep G v d
  | _, _, _, _, .nil, e => by simp at e
  | _, _, 0, _, .cons r _, e => by simp at e; subst e; exact ⟨_, rfl, r⟩
  | _, _, i + 1, d, .cons _ t, e => by
    obtain ⟨u, h1, h2⟩ := Reps.get (i := i) (d := d) t (by simpa using e)
    exact ⟨u, by simpa using h1, h2⟩
theorem Reps.getV {G : Hp} : ∀ {vs : List V} {ds : List PyData} {i : Nat} {v : V}, Reps G vs ds → vs[i]? = some v → ∃ d, ds[i]? = some d ∧ Rep G v d
  | _, _, _, _, .nil, e => by simp at e
  | _, _, 0, _, .cons r _, e => by simp at e; subst e; exact ⟨_, rfl, r⟩
  | _, _, i + 1, d, .cons _ t, e => by
    obtain ⟨u, h1, h2⟩ := Reps.getV (i := i) (v := d) t (by simpa using e)
    exact ⟨u, by simpa using h1, h2⟩
theorem Reps.set {G : Hp} {x : V} {d : PyData} (r : Rep G x d) : ∀ {vs : List V} {ds : List PyData} (i : Nat), Reps G vs ds → Reps G (vs.set i x) (ds.set i d)
  | _, _, _, .nil => .nil
  | _, _, 0, .cons _ t => .cons r t
  | _, _, i + 1, .cons q t => .cons q (Reps.set r i t)
theorem Reps.drop {G : Hp} : ∀ {vs : List V} {ds : List PyData} (n : Nat), Reps G vs ds → Reps G (vs.drop n) (ds.drop n)
  | _, _, 0, r => r
  | _, _, _ + 1, .nil => .nil
  | _, _, n + 1, .cons _ t => Reps.drop n t
theorem Reps.take {G : Hp} : ∀ {vs : List V} {ds : List PyData} (n : Nat), Reps G vs ds → Reps G (vs.take n) (ds.take n)
  | _, _, 0, _ => .nil
  | _, _, _ + 1, .nil => .nil
  | _, _, n + 1, .cons r t => .cons r (Reps.take n t)
theorem Reps.eraseIdx {G : Hp} : ∀ {vs : List V} {ds : List PyData} (n : Nat), Reps G vs ds → Reps G (vs.eraseIdx n) (ds.eraseIdx n)
  | _, _, _, .nil => .nil
  | _, _, 0, .cons _ t => t
  | _, _, n + 1, .cons r t => .cons r (Reps.eraseIdx n t)
theorem Reps.reverse {G : Hp} : ∀ {vs : List V} {ds : List PyData}, Reps G vs ds → Reps G vs.reverse ds.reverse
  | _, _, .nil => .nil
  | _, _, .cons r t => by
    rw [List.reverse_cons, List.reverse_cons]
    exact Reps.append (Reps.reverse t) (.cons r .nil)
theorem Reps.dropLast {G : Hp} : ∀ {vs : List V} {ds : List PyData}, Reps G vs ds → Reps G vs.dropLast ds.dropLast
  | _, _, .nil => .nil
  | _, _, .cons _ .nil => .nil
  | _, _, .cons r (.cons q t) => .cons r (Reps.dropLast (.cons q t))
theorem Reps.ints {G : Hp} : ∀ {vs : List V} {ds : List PyData} {ns : List Int}, Reps G vs ds → intsOf ds = some ns → vs = ns.map V.int
  | _, _, _, .nil, e => by simp only [intsOf, Option.some.injEq] at e; subst e; rfl
  | _, _, _, .cons r t, e => by
    cases r <;> simp only [intsOf, Option.map_eq_some_iff, reduceCtorEq] at e
    obtain ⟨a, h1, rfl⟩ := e
    rw [Reps.ints t h1]
    rfl
theorem Reps.of_ints {G : Hp} : ∀ ns : List Int, Reps G (ns.map V.int) (ns.map .int)
  | [] => .nil
  | n :: ns => .cons (.int n) (Reps.of_ints ns)
theorem intsOf_map : ∀ ns : List Int, intsOf (ns.map .int) = some ns
  | [] => rfl
  | n :: ns => by simp only [List.map_cons, intsOf, intsOf_map ns, Option.map_some]

/-! ### the state of a body -/
/-- what a body began with: the part that is never changed, the whole heap, where the drawing state is -/
structure Wd where
  G0 : Hp
  H0 : Hp
  sa : Addr
def StR (w : Wd) (G H : Hp) (ls : List PyData) : Prop := ∃ vs, H w.sa = some (.lst vs) ∧ Reps G vs ls
structure IW (w : Wd) (G H : Hp) (ls : List PyData) : Prop where
  sub : Same G H
  gk : ∀ b, w.H0 b ≠ none → G b = w.G0 b
  hk : ∀ b o, b ≠ w.sa → w.H0 b = some o → H b = some o
  st : StR w G H ls
  sg : w.G0 w.sa = none
  so : w.H0 w.sa ≠ none
theorem IW.sag {w : Wd} {G H : Hp} {ls : List PyData} (i : IW w G H ls) : G w.sa = none := (i.gk _ i.so).trans i.sg
/-- the heap has grown, the state's cells may have changed -/
structure Ext (sa : Addr) (G H G' H' : Hp) : Prop where
  sub : Same G' H'
  gk : ∀ b, H b ≠ none → G' b = G b
  hk : ∀ b o, b ≠ sa → H b = some o → H' b = some o
/-- the heap has grown -/
structure Grow (G H G' H' : Hp) : Prop where
  sub : Same G' H'
  gk : ∀ b, H b ≠ none → G' b = G b
  hk : Same H H'
theorem Ext.refl {sa : Addr} {G H : Hp} (s : Same G H) : Ext sa G H G H := ⟨s, fun _ _ => rfl, fun _ _ _ e => e⟩
theorem Grow.refl {G H : Hp} (s : Same G H) : Grow G H G H := ⟨s, fun _ _ => rfl, fun _ _ e => e⟩
theorem Grow.ext {sa : Addr} {G H G' H' : Hp} (g : Grow G H G' H') : Ext sa G H G' H' := ⟨g.sub, g.gk, fun b o _ e => g.hk b o e⟩
theorem Same.nn {H H' : Hp} (s : Same H H') {b : Addr} (n : H b ≠ none) : H' b ≠ none := by
  cases e : H b with
  | none => exact absurd e n
  | some o => rw [s b o e]; simp
theorem Grow.trans {G H G1 H1 G2 H2 : Hp} (a : Grow G H G1 H1) (b : Grow G1 H1 G2 H2) : Grow G H G2 H2 :=
  ⟨b.sub, fun c n => (b.gk c (Same.nn a.hk n)).trans (a.gk c n), fun c o e => b.hk c o (a.hk c o e)⟩
theorem Ext.nn {sa : Addr} {G H G' H' : Hp} (x : Ext sa G H G' H') (hs : H' sa ≠ none) {b : Addr} (n : H b ≠ none) : H' b ≠ none := by
  by_cases e : b = sa
  · rw [e]; exact hs
  · cases q : H b with
    | none => exact absurd q n
    | some o => rw [x.hk b o e q]; simp
theorem StR.nn {w : Wd} {G H : Hp} {ls : List PyData} (s : StR w G H ls) : H w.sa ≠ none := by
  obtain ⟨vs, e, _⟩ := s
  rw [e]; simp
theorem Ext.trans {sa : Addr} {G H G1 H1 G2 H2 : Hp} (hs : H1 sa ≠ none) (a : Ext sa G H G1 H1) (b : Ext sa G1 H1 G2 H2) : Ext sa G H G2 H2 :=
  ⟨b.sub, fun c n => (b.gk c (a.nn hs n)).trans (a.gk c n), fun c o ne e => b.hk c o ne (a.hk c o ne e)⟩
theorem Ext.same {sa : Addr} {G H G' H' : Hp} (s : Same G H) (x : Ext sa G H G' H') : Same G G' := fun b o e => by
  have n : H b ≠ none := by rw [s b o e]; simp
  rw [x.gk b n]; exact e
theorem Grow.same {G H G' H' : Hp} (s : Same G H) (x : Grow G H G' H') : Same G G' := Ext.same (sa := 0) s x.ext
theorem Grow.st {w : Wd} {G H G' H' : Hp} {ls : List PyData} (s : Same G H) (x : Grow G H G' H') (r : StR w G H ls) : StR w G' H' ls := by
  obtain ⟨vs, e, q⟩ := r
  exact ⟨vs, x.hk _ _ e, q.mono (x.same s)⟩
/-- a new object, never to be changed -/
theorem Grow.laid {G H : Hp} {p : Addr} {o : HO} (s : Same G H) (n : H p = none) : Grow G H (upd G p o) (upd H p o) := by
  have ng : G p = none := by
    cases e : G p with
    | none => rfl
    | some u => rw [s p u e] at n; cases n
  refine ⟨fun b u e => ?_, fun b nb => ?_, Same.upd n⟩
  · by_cases h : b = p
    · subst h
      rw [upd_same] at e ⊢
      exact e
    · rw [upd_ne h] at e ⊢
      exact s b u e
  · by_cases h : b = p
    · subst h; exact absurd n nb
    · rw [upd_ne h]
/-- a new object of one's own -/
theorem Grow.own {G H : Hp} {p : Addr} {o : HO} (s : Same G H) (n : H p = none) : Grow G H G (upd H p o) :=
  ⟨fun b u e => Same.upd n b u (s b u e), fun _ _ => rfl, Same.upd n⟩
/-- an own object is from now on never changed -/
theorem Grow.froze {G H : Hp} {p : Addr} {o : HO} (s : Same G H) (e : H p = some o) : Same (upd G p o) H := fun b u q => by
  by_cases h : b = p
  · subst h; rw [upd_same] at q; rw [e]; exact q
  · rw [upd_ne h] at q; exact s b u q

def OwnAt (G H : Hp) (a : Addr) : PyData → Prop
  | .list ds => ∃ vs, H a = some (.lst vs) ∧ Reps G vs ds
  | _ => False
def SlotOk (w : Wd) (G H : Hp) (σ : St) (i : Nat) : Slot → Prop
  | .no => True
  | .fz d => ∃ v, σ[i]? = some (some v) ∧ Rep G v d
  | .ow d => ∃ a, σ[i]? = some (some (.ref a)) ∧ G a = none ∧ w.H0 a = none ∧ OwnAt G H a d
  | .st => σ[i]? = some (some (.ref w.sa))
structure IV (w : Wd) (G H : Hp) (σ : L2.St) (ρ : Env) (ls : List PyData) : Prop where
  iw : IW w G H ls
  sl : ∀ (i : Nat) (s : Slot), ρ[i]? = some s → SlotOk w G H σ i s
  ds : ∀ (i j : Nat) (d d' : PyData), i ≠ j → ρ[i]? = some (Slot.ow d) → ρ[j]? = some (Slot.ow d') → σ[i]? ≠ σ[j]?
  ln : σ.length = ρ.length
theorem OwnAt.nn {G H : Hp} {a : Addr} {d : PyData} (o : OwnAt G H a d) : H a ≠ none := by
  cases d <;> simp only [OwnAt] at o
  obtain ⟨vs, e, _⟩ := o
  rw [e]; simp
theorem OwnAt.mono {G H G' H' : Hp} {a : Addr} {d : PyData} (s : Same G G') (k : ∀ o, H a = some o → H' a = some o) (o : OwnAt G H a d) : OwnAt G' H' a d := by
  cases d <;> simp only [OwnAt] at o ⊢
  obtain ⟨vs, e, r⟩ := o
  exact ⟨vs, k _ e, r.mono s⟩
theorem IW.ext {w : Wd} {G H G' H' : Hp} {ls ls' : List PyData} (i : IW w G H ls) (x : Ext w.sa G H G' H') (s : StR w G' H' ls') : IW w G' H' ls' := by
  have old : ∀ b, w.H0 b ≠ none → H b ≠ none := fun b n => by
    by_cases e : b = w.sa
    · rw [e]; exact i.st.nn
    · cases q : w.H0 b with
      | none => exact absurd q n
      | some o => rw [i.hk b o e q]; simp
  exact ⟨x.sub, fun b n => (x.gk b (old b n)).trans (i.gk b n), fun b o ne e => x.hk b o ne (i.hk b o ne e), s, i.sg, i.so⟩
theorem SlotOk.ext {w : Wd} {G H G' H' : Hp} {ls : List PyData} {σ : L2.St} {i : Nat} {s : Slot} (iw : IW w G H ls) (x : Ext w.sa G H G' H') (h : SlotOk w G H σ i s) : SlotOk w G' H' σ i s := by
  have sm := x.same iw.sub
  cases s with
  | no => trivial
  | fz d => obtain ⟨v, e, r⟩ := h; exact ⟨v, e, r.mono sm⟩
  | ow d =>
    obtain ⟨a, e, g, h0, o⟩ := h
    have ne : a ≠ w.sa := fun z => iw.so (by rw [← z]; exact h0)
    exact ⟨a, e, (x.gk a o.nn).trans g, h0, o.mono sm fun u q => x.hk a u ne q⟩
  | st => exact h
theorem IV.ext {w : Wd} {G H G' H' : Hp} {σ : L2.St} {ρ : Env} {ls ls' : List PyData} (v : IV w G H σ ρ ls) (x : Ext w.sa G H G' H') (s : StR w G' H' ls') : IV w G' H' σ ρ ls' :=
  ⟨v.iw.ext x s, fun i t e => (v.sl i t e).ext v.iw x, v.ds, v.ln⟩

/-! ### pending runs -/
def Out {α : Type} (r : R α) (ok : α → List PyData → Prop) (er : Ex → List PyData → Prop) : Prop :=
  match r with
  | .ok a ls => ok a ls
  | .exn x ls => er x ls
  | .stuck => False
/-- what is wanted of an error of the program -/
abbrev WXt := Ex → L2.St → Hp → Prop
/-- how what a run gives stands in the heap: the heap ahead of the run, the part that is never changed and the heap behind it, the body's names -/
abbrev Rl (β α : Type) := Hp → Hp → Hp → L2.St → Env → β → α → Prop
class Am {β α : Type} (rel : Rl β α) : Prop where
  am : ∀ {H H1 G' H' : Hp} {σ : L2.St} {ρ : Env} {v : β} {d : α}, (∀ b, H b ≠ none → H1 b ≠ none) → rel H1 G' H' σ ρ v d → rel H G' H' σ ρ v d
def Pd {α β : Type} (w : Wd) (Wx : WXt) (rel : Rl β α) (m : M α) (G : Hp) (ρ : Env) (ls : List PyData) (σ : L2.St) (H : Hp) (Q : β → Hp → Prop) : Prop :=
  IV w G H σ ρ ls ∧ Out (m ls) (fun d ls' => ∀ v G' H', Ext w.sa G H G' H' → StR w G' H' ls' → rel H G' H' σ ρ v d → Q v H')
    (fun x ls' => ∀ G' H', Ext w.sa G H G' H' → StR w G' H' ls' → Wx x σ H')
def Tm {α β : Type} (w : Wd) (Wx : WXt) (rel : Rl β α) (m : Env → M α) : L2.St → Hp → (β → Hp → Prop) → Prop := fun σ H Q => ∃ G ρ ls, Pd w Wx rel (m ρ) G ρ ls σ H Q
section
variable {w : Wd} {Wx : WXt} {α β γ δ : Type} {rel : Rl β α} {rel2 : Rl δ γ} {G H : Hp} {ρ : Env} {ls : List PyData} {σ : L2.St} {Q Q' : β → Hp → Prop}
theorem Pd.imp {m : M α} (h : Pd w Wx rel m G ρ ls σ H Q) (k : ∀ v H', Q v H' → Q' v H') : Pd w Wx rel m G ρ ls σ H Q' := by
  refine ⟨h.1, ?_⟩
  have h2 := h.2
  unfold Out at h2 ⊢
  cases e : m ls with
  | ok a ls' => rw [e] at h2; exact fun v G' H' x s r => k _ _ (h2 v G' H' x s r)
  | exn x ls' => rw [e] at h2; exact h2
  | stuck => rw [e] at h2; exact h2
/-- a run, then another one -/
theorem Pd.bind [am : Am rel2] {m : M α} {f : α → M γ} {P : δ → Hp → Prop} (h : Pd w Wx rel2 (M.bind m f) G ρ ls σ H P) :
    Pd w Wx rel m G ρ ls σ H fun v H1 => ∃ G1 ls1 d, rel H G1 H1 σ ρ v d ∧ Same G G1 ∧ Pd w Wx rel2 (f d) G1 ρ ls1 σ H1 P := by
  refine ⟨h.1, ?_⟩
  have h2 := h.2
  unfold M.bind at h2
  cases e : m ls with
  | ok a ls' =>
    rw [e] at h2
    refine fun v G1 H1 x s r => ⟨G1, ls', a, r, x.same h.1.iw.sub, h.1.ext x s, ?_⟩
    have h2 : Out (f a ls') _ _ := h2
    unfold Out at h2 ⊢
    cases e2 : f a ls' with
    | ok c ls2 => rw [e2] at h2; exact fun v2 G2 H2 x2 s2 r2 => h2 v2 G2 H2 (x.trans s.nn x2) s2 (am.am (fun b n => x.nn s.nn n) r2)
    | exn z ls2 => rw [e2] at h2; exact fun G2 H2 x2 s2 => h2 G2 H2 (x.trans s.nn x2) s2
    | stuck => rw [e2] at h2; exact h2
  | exn x ls' => rw [e] at h2; exact h2
  | stuck => rw [e] at h2; exact h2
theorem Tm.of {m : Env → M α} {n : M α} (h : Pd w Wx rel n G ρ ls σ H Q) (e : n = m ρ) : Tm w Wx rel m σ H Q := ⟨G, ρ, ls, by subst e; exact h⟩
/-- the end of a run: what it gives, with a heap that has grown -/
theorem Pd.fin {o : Option α} (h : Pd w Wx rel (M.opt o) G ρ ls σ H Q) : ∃ c, o = some c ∧ ∀ v G' H', Grow G H G' H' → rel H G' H' σ ρ v c → Q v H' := by
  cases o with
  | none => exact h.2.elim
  | some c => exact ⟨c, rfl, fun v G' H' g r => h.2 v G' H' g.ext (g.st h.1.iw.sub h.1.iw.st) r⟩
theorem Pd.pure {c : α} (h : Pd w Wx rel (M.pure c) G ρ ls σ H Q) : ∀ v G' H', Grow G H G' H' → rel H G' H' σ ρ v c → Q v H' :=
  fun v G' H' g r => h.2 v G' H' g.ext (g.st h.1.iw.sub h.1.iw.st) r
theorem Pd.sub {m : M α} (h : Pd w Wx rel m G ρ ls σ H Q) : Same G H := h.1.iw.sub
theorem Pd.no {m : M α} (h : Pd w Wx rel m G ρ ls σ H Q) (e : m = M.stuck) : False := by
  subst e
  exact h.2
end
/-- kept by something -/
abbrev rV : Rl V PyData := fun _ G _ _ _ v d => Rep G v d
/-- .. or an own list of a name -/
abbrev Held (G : Hp) (σ : L2.St) (ρ : Env) (v : V) (d : PyData) : Prop := Rep G v d ∨ ∃ i : Nat, ρ[i]? = some (Slot.ow d) ∧ σ[i]? = some (some v)
abbrev rH : Rl V PyData := fun _ G _ σ ρ v d => Held G σ ρ v d
abbrev rB : Rl Bool Bool := fun _ _ _ _ _ b k => b = k
abbrev rVs : Rl (List V) (List PyData) := fun _ G _ _ _ v d => Reps G v d
abbrev rO : Rl (Option Int) (Option Int) := fun _ _ _ _ _ b k => b = k
/-- a new object of one's own -/
abbrev rN : Rl V PyData := fun H G' H' _ _ v d => ∃ a, v = .ref a ∧ H a = none ∧ G' a = none ∧ OwnAt G' H' a d
instance : Am rV := ⟨fun _ r => r⟩
instance : Am rH := ⟨fun _ r => r⟩
instance : Am rB := ⟨fun _ r => r⟩
instance : Am rVs := ⟨fun _ r => r⟩
instance : Am rO := ⟨fun _ r => r⟩
instance : Am rN := ⟨fun {H H1 _ _ _ _ _ _} k ⟨a, e, n, r⟩ => ⟨a, e, by
  cases q : H a with
  | none => rfl
  | some o => exact absurd n (k a (by rw [q]; simp)), r⟩⟩
/-- at the top, an object is as told; its parts are never changed -/
inductive Top (G H : Hp) : V → PyData → Prop
  | sc {v : V} {d : PyData} : Rep G v d → Top G H v d
  | lst {a : Addr} {vs : List V} {ds : List PyData} : H a = some (.lst vs) → Reps G vs ds → Top G H (.ref a) (.list ds)
theorem IV.top {w : Wd} {G H : Hp} {σ : L2.St} {ρ : Env} {ls : List PyData} {v : V} {d : PyData} (i : IV w G H σ ρ ls) (h : Held G σ ρ v d) : Top G H v d := by
  rcases h with h | ⟨k, e1, e2⟩
  · exact .sc h
  · obtain ⟨a, e3, g, h0, o⟩ := i.sl k _ e1
    rw [e2] at e3
    have e4 : v = .ref a := Option.some.inj (Option.some.inj e3)
    subst e4
    cases d <;> simp only [OwnAt] at o
    obtain ⟨vs, e, r⟩ := o
    exact .lst e r
theorem Held.mono {G G' : Hp} {σ : L2.St} {ρ : Env} {v : V} {d : PyData} (s : Same G G') (h : Held G σ ρ v d) : Held G' σ ρ v d := h.elim (fun r => .inl (r.mono s)) .inr
mutual
theorem Top.dp {K : PySem.W.Frag} {G H : Hp} {v : V} {d : PyData} (s : Same G H) (t : Top G H v d) (c : PyData.canLay0 d = true) : Dp K H v d := by
  cases t with
  | sc r => exact r.dp s c
  | lst e r => exact .lst (.of e) (r.dp s (by simpa [PyData.canLay0] using c))
end
end Pv

set_option maxRecDepth 100000
set_option maxHeartbeats 1000000
/-! Operations on values: what the hand layer's rules give for data. -/
namespace Pv
open PySem PySem.W L2

theorem pe_imp {X : Cx} {e : Expr} {t t' : TE} (h : PE X e t) (k : ∀ σ H Q, t' σ H Q → t σ H Q) : PE X e t' := ⟨fun pins s σ H Q I hw => h.run pins s σ H Q I (k σ H Q hw)⟩
theorem pt_imp {X : Cx} {e : Expr} {t t' : TT} (h : PT X e t) (k : ∀ σ H Q, t' σ H Q → t σ H Q) : PT X e t' := ⟨fun pins s σ H Q I hw => h.run pins s σ H Q I (k σ H Q hw)⟩
theorem pa_imp {X : Cx} {e : List Expr} {t t' : TA} (h : PA X e t) (k : ∀ σ H Q, t' σ H Q → t σ H Q) : PA X e t' := ⟨fun pos pins s σ H Q I hw => h.run pos pins s σ H Q I (k σ H Q hw)⟩
theorem ps_imp {X : Cx} {e : Stmt} {t t' : TS} (h : PS X e t) (k : ∀ D σ H, t' D σ H → t D σ H) : PS X e t' := ⟨fun pins s σ H D I hw => h.run pins s σ H D I (k D σ H hw)⟩
theorem pss_imp {X : Cx} {e : List Stmt} {t t' : TS} (h : PSs X e t) (k : ∀ D σ H, t' D σ H → t D σ H) : PSs X e t' := ⟨fun pins s σ H D I hw => h.run pins s σ H D I (k D σ H hw)⟩

/-- a two-place operation on data -/
def rF (f : PyData → PyData → Option PyData) : R2 := fun x y H Q => ∃ G d e c, Same G H ∧ Top G H x d ∧ Top G H y e ∧ f d e = some c ∧ ∀ v G' H', Grow G H G' H' → Rep G' v c → Q v H'
/-- values kept -/
def rFV (f : PyData → PyData → Option PyData) : R2 := fun x y H Q => ∃ G d e c, Same G H ∧ Rep G x d ∧ Rep G y e ∧ f d e = some c ∧ ∀ v G' H', Grow G H G' H' → Rep G' v c → Q v H'
variable {X : Cx}
theorem small_mul {i j : Int} (h : (small i || small j) = true) : CMul i j := by
  unfold small at h
  simp only [Bool.or_eq_true, decide_eq_true_eq] at h
  have f : ∀ k : Int, k.natAbs < 18446744073709551616 → -(2 ^ 64) < k ∧ k < 2 ^ 64 := fun k hk => by constructor <;> omega
  exact h.imp (f i) (f j)
theorem op_binop (op : Operator) : OpR X (binaryOp op) (rFV (binop op)) := by
  intro pins s σ H x y v u Q I rx ry ⟨G, d, e, c, sb, r1, r2, hc, k⟩
  cases op <;> cases r1 <;> cases r2 <;> simp only [binop, reduceCtorEq, Option.ite_none_right_eq_some, Option.some.injEq] at hc
  · subst hc
    exact op_add pins s σ H _ _ v u Q I rx ry ⟨_, _, rfl, rfl, k _ G H (.refl sb) (.int _)⟩
  · obtain ⟨hz, rfl⟩ := hc
    exact op_add_str pins s σ H _ _ v u Q I rx ry ⟨_, _, rfl, rfl, hz, k _ G H (.refl sb) (.str _)⟩
  · obtain ⟨hz, rfl⟩ := hc
    rename_i a vs ds e1 q1 b ws es e2 q2
    exact op_cat pins s σ H _ _ v u Q I rx ry ⟨_, _, _, _, rfl, rfl, sb _ _ e1, sb _ _ e2, by rw [q1.length, q2.length]; exact hz, fun p np =>
      k _ _ _ (.laid sb np) (.lst upd_same ((q1.append q2).mono ((Grow.laid (o := .lst (vs ++ ws)) sb np).same sb)))⟩
  · obtain ⟨hz, rfl⟩ := hc
    rename_i a vs ds e1 q1 b ws es e2 q2
    refine op_catA pins s σ H _ _ v u Q I rx ry ⟨_, _, _, _, rfl, rfl, .of (sb _ _ e1), .of (sb _ _ e2), by rw [q1.length, q2.length]; exact hz, fun h => ?_, fun _ h => ?_, fun _ _ p np =>
      k _ _ _ (.laid sb np) (.tup upd_same ((q1.append q2).mono ((Grow.laid (o := .tup (vs ++ ws)) sb np).same sb)))⟩
    · subst h; cases q1; exact k _ G H (.refl sb) (.tup e2 q2)
    · subst h; cases q2; rw [List.append_nil] at k; exact k _ G H (.refl sb) (.tup e1 q1)
  · subst hc
    exact op_sub pins s σ H _ _ v u Q I rx ry ⟨_, _, rfl, rfl, k _ G H (.refl sb) (.int _)⟩
  · obtain ⟨hz, rfl⟩ := hc
    exact op_mul pins s σ H _ _ v u Q I rx ry ⟨_, _, rfl, rfl, small_mul hz, k _ G H (.refl sb) (.int _)⟩
  · obtain ⟨hz, rfl⟩ := hc
    exact op_mod pins s σ H _ _ v u Q I rx ry ⟨_, _, rfl, rfl, hz, k _ G H (.refl sb) (.int _)⟩
  · obtain ⟨hz, rfl⟩ := hc
    exact op_pow pins s σ H _ _ v u Q I rx ry ⟨_, _, rfl, rfl, hz, k _ G H (.refl sb) (.int _)⟩
  · obtain ⟨hz, rfl⟩ := hc
    exact op_fdiv pins s σ H _ _ v u Q I rx ry ⟨_, _, rfl, rfl, hz, k _ G H (.refl sb) (.int _)⟩
theorem op_inop (op : Operator) (ho : op = .Add ∨ op = .Sub) : OpR X (inplaceOp op) (rFV fun x y => match x, y with | .int _, .int _ => binop op x y | _, _ => none) := by
  intro pins s σ H x y v u Q I rx ry ⟨G, d, e, c, sb, r1, r2, hc, k⟩
  cases r1 <;> cases r2 <;> simp only [reduceCtorEq] at hc
  rcases ho with rfl | rfl <;> simp only [binop, Option.some.injEq] at hc <;> subst hc
  · exact iop_add pins s σ H _ _ v u Q I rx ry ⟨_, _, rfl, rfl, k _ G H (.refl sb) (.int _)⟩
  · exact iop_sub pins s σ H _ _ v u Q I rx ry ⟨_, _, rfl, rfl, k _ G H (.refl sb) (.int _)⟩

/-! ### comparisons -/
theorem shaped_lay {d : PyData} (h : SeqAt.shaped d = true) : PyData.canLay0 d = true := SeqAt.canLay_of_shaped h
theorem Top.reads {G H : Hp} {pins : List (Addr × Obj)} {σ : L2.St} {s : Shared} {v : V} {u : Value} {d : PyData} (I : Inv X pins σ H s) (sb : Same G H) (t : Top G H v d) (r : RelV v u) (c : PyData.canLay0 d = true) : ∃ as, Reads s.heap u d as :=
  Dp.reads I d v u (t.dp sb c) r
def toB (f : PyData → PyData → Option Bool) (x y : PyData) : Option PyData := (f x y).map .bool
theorem map_bool {o : Option Bool} {c : PyData} (h : o.map PyData.bool = some c) : ∃ b, o = some b ∧ c = .bool b := by
  cases o with
  | none => simp at h
  | some b => simp at h; exact ⟨b, rfl, h.symm⟩
theorem op_cmpop (hu : X.A.units + 200 < cLine) (op : CmpOp) : OpR X (compareOp op) (rF (toB (cmpop op))) := by
  intro pins s σ H x y v u Q I rx ry ⟨G, d, e, c, sb, r1, r2, hc, k⟩
  obtain ⟨b, hb, rfl⟩ := map_bool hc
  have kb : Q (.bl b) H := k _ G H (.refl sb) (.bl b)
  have hu1 : X.A.units + 64 < cLine := by omega
  have hu2 : X.A.units + 65 < cLine := by omega
  have two : ∀ {i j : Int}, d = .int i → e = .int j → x = .int i ∧ y = .int j := fun {i j} e1 e2 => by
    subst e1; subst e2
    cases r1 with | sc r1 => cases r2 with | sc r2 => cases r1; cases r2; exact ⟨rfl, rfl⟩
  cases op with
  | Eq =>
    simp only [cmpop, Option.ite_none_right_eq_some, Option.some.injEq, Bool.and_eq_true] at hb
    obtain ⟨⟨h1, h2⟩, rfl⟩ := hb
    exact op_eqD hu1 pins s σ H _ _ v u Q I rx ry ⟨d, e, r1.dp sb (shaped_lay h1), r2.dp sb (shaped_lay h2), h1, h2, kb⟩
  | NotEq =>
    simp only [cmpop, Option.ite_none_right_eq_some, Option.some.injEq, Bool.and_eq_true] at hb
    obtain ⟨⟨h1, h2⟩, rfl⟩ := hb
    exact op_neD hu1 pins s σ H _ _ v u Q I rx ry ⟨d, e, r1.dp sb (shaped_lay h1), r2.dp sb (shaped_lay h2), h1, h2, kb⟩
  | Lt =>
    cases d <;> cases e <;> simp only [cmpop, reduceCtorEq, Option.some.injEq] at hb
    obtain ⟨rfl, rfl⟩ := two rfl rfl
    subst hb
    exact op_lt pins s σ H _ _ v u Q I rx ry ⟨_, _, rfl, rfl, kb⟩
  | LtE =>
    cases d <;> cases e <;> simp only [cmpop, reduceCtorEq, Option.some.injEq] at hb
    obtain ⟨rfl, rfl⟩ := two rfl rfl
    subst hb
    exact op_le pins s σ H _ _ v u Q I rx ry ⟨_, _, rfl, rfl, kb⟩
  | Gt =>
    cases d <;> cases e <;> simp only [cmpop, reduceCtorEq, Option.some.injEq] at hb
    obtain ⟨rfl, rfl⟩ := two rfl rfl
    subst hb
    exact op_gt pins s σ H _ _ v u Q I rx ry ⟨_, _, rfl, rfl, kb⟩
  | GtE =>
    cases d <;> cases e <;> simp only [cmpop, reduceCtorEq, Option.some.injEq] at hb
    obtain ⟨rfl, rfl⟩ := two rfl rfl
    subst hb
    exact op_ge pins s σ H _ _ v u Q I rx ry ⟨_, _, rfl, rfl, kb⟩
  | Is =>
    cases e with
    | none =>
      have ey : y = .non := by cases r2 with | sc r2 => cases r2; rfl
      subst ey
      have hx : b = decide (x = .non) := by
        cases r1 with
        | lst _ _ => simp only [cmpop, Option.some.injEq] at hb; simp [← hb]
        | sc r1 => cases r1 <;> simp only [cmpop, Option.some.injEq] at hb <;> simp [← hb]
      subst hx
      exact op_isN pins s σ H _ _ v u Q I rx ry ⟨rfl, kb⟩
    | bool j =>
      cases d <;> simp only [cmpop, reduceCtorEq, Option.some.injEq] at hb
      cases r1 with | sc r1 => cases r2 with | sc r2 =>
        cases r1; cases r2
        exact op_is_bl pins s σ H _ _ v u Q I rx ry ⟨_, _, rfl, rfl, by rw [← Bool.beq_eq_decide_eq, hb]; exact kb⟩
    | _ => cases d <;> simp only [cmpop, reduceCtorEq] at hb
  | IsNot =>
    cases e with
    | none =>
      have ey : y = .non := by cases r2 with | sc r2 => cases r2; rfl
      subst ey
      have hx : b = !decide (x = .non) := by
        cases r1 with
        | lst _ _ => simp only [cmpop, Option.some.injEq] at hb; simp [← hb]
        | sc r1 => cases r1 <;> simp only [cmpop, Option.some.injEq] at hb <;> simp [← hb]
      subst hx
      exact op_notN pins s σ H _ _ v u Q I rx ry ⟨rfl, kb⟩
    | bool j =>
      cases d <;> simp only [cmpop, reduceCtorEq, Option.some.injEq] at hb
      cases r1 with | sc r1 => cases r2 with | sc r2 =>
        cases r1; cases r2
        exact op_isnot_bl pins s σ H _ _ v u Q I rx ry ⟨_, _, rfl, rfl, by rw [← Bool.beq_eq_decide_eq]; simp only [bne] at hb; rw [hb]; exact kb⟩
    | _ => cases d <;> simp only [cmpop, reduceCtorEq] at hb
  | In =>
    cases e <;> simp only [cmpop, reduceCtorEq, Option.ite_none_right_eq_some, Option.some.injEq, Bool.and_eq_true] at hb
    · obtain ⟨⟨h1, h2⟩, rfl⟩ := hb
      exact op_inD hu2 pins s σ H _ _ v u Q I rx ry ⟨_, _, r1.dp sb (shaped_lay h1), r2.dp sb (shaped_lay h2), h1, h2, kb⟩
    · obtain ⟨⟨h1, h2⟩, rfl⟩ := hb
      rename_i ys
      obtain ⟨as, q1⟩ := Dp.reads I d x v (r1.dp sb (shaped_lay h1)) rx
      have h3 : PyData.canLay0 (.tuple ys) = true := by have := shaped_lay h2; simpa [PyData.canLay0] using this
      obtain ⟨bs, q2⟩ := Dp.reads I _ y u (r2.dp sb h3) ry
      exact SeqAt.in_tuple_reads q2 q1 (by simpa [PyData.canLay0] using h3) (shaped_lay h1) (PyProof.Rows.room_in_shaped h1 hu2) ⟨.bl _, H, I, rfl, kb⟩
  | NotIn =>
    cases e <;> simp only [cmpop, reduceCtorEq, Option.ite_none_right_eq_some, Option.some.injEq, Bool.and_eq_true] at hb
    · obtain ⟨⟨h1, h2⟩, rfl⟩ := hb
      exact op_notInD hu2 pins s σ H _ _ v u Q I rx ry ⟨_, _, r1.dp sb (shaped_lay h1), r2.dp sb (shaped_lay h2), h1, h2, kb⟩
    · obtain ⟨⟨h1, h2⟩, rfl⟩ := hb
      rename_i ys
      obtain ⟨as, q1⟩ := Dp.reads I d x v (r1.dp sb (shaped_lay h1)) rx
      have h3 : PyData.canLay0 (.tuple ys) = true := by have := shaped_lay h2; simpa [PyData.canLay0] using this
      obtain ⟨bs, q2⟩ := Dp.reads I _ y u (r2.dp sb h3) ry
      exact SeqAt.notIn_tuple_reads q2 q1 (by simpa [PyData.canLay0] using h3) (shaped_lay h1) (PyProof.Rows.room_in_shaped h1 hu2) ⟨.bl _, H, I, rfl, kb⟩
end Pv

set_option maxRecDepth 100000
set_option maxHeartbeats 1000000
/-! Truth, unary operators, and calls of built-ins with one datum. -/
namespace Pv
open PySem PySem.W L2
variable {X : Cx}
theorem Top.tru {K : PySem.W.Frag} {G H : Hp} {v : V} {d : PyData} {k : Bool} (sb : Same G H) (t : Top G H v d) (h : truth d = some k) : TruV K v H k := by
  cases t with
  | lst e r =>
    simp only [truth, Option.some.injEq] at h
    refine .inl ⟨_, .of e, ?_⟩
    subst h
    cases r <;> rfl
  | sc r =>
    cases r <;> simp only [truth, Option.some.injEq, Option.ite_none_right_eq_some] at h
    · exact h.symm
    · exact h.symm
    · exact h.symm
    · obtain ⟨h1, rfl⟩ := h
      refine ⟨h1, ?_⟩
      rename_i x
      rcases Nat.eq_zero_or_pos x.length with e | e
      · simp [e]
      · have e1 : x.length ≠ 0 := by omega
        have e2 : (x.length : Int) ≠ 0 := by omega
        rw [bne_iff_ne.mpr e1, bne_iff_ne.mpr e2]
    · rename_i e r
      subst h
      exact .inl ⟨_, .of (sb _ _ e), by cases r <;> rfl⟩
    · rename_i e r
      subst h
      exact .inr (.inl ⟨_, .of (sb _ _ e), by cases r <;> rfl⟩)
    · rename_i e
      subst h
      exact .inr (.inr ⟨_, sb _ _ e, rfl⟩)

/-- a call with one datum -/
def r1 (f : PyData → Option PyData) : List V → Hp → VK → Prop := fun xs H Q => ∃ G x d c, xs = [x] ∧ Same G H ∧ Top G H x d ∧ f d = some c ∧ ∀ v G' H', Grow G H G' H' → Rep G' v c → Q v H'
/-- .. that gives a new object -/
def r1N (f : PyData → Option PyData) : List V → Hp → VK → Prop := fun xs H Q => ∃ G x d c, xs = [x] ∧ Same G H ∧ Top G H x d ∧ f d = some c ∧ ∀ v G' H', Grow G H G' H' → rN H G' H' [] [] v c → Q v H'
/-- a new own object may be kept as it is -/
theorem rep_of_new {G H G' H' : Hp} {σ : L2.St} {ρ : Env} {v : V} {d : PyData} (g : Grow G H G' H') (r : rN H G' H' σ ρ v d) : ∃ G2, Grow G H G2 H' ∧ Rep G2 v d := by
  obtain ⟨a, rfl, n, ng, o⟩ := r
  cases d <;> simp only [OwnAt] at o
  obtain ⟨vs, e, q⟩ := o
  refine ⟨upd G' a (.lst vs), ⟨Grow.froze g.sub e, fun b nb => ?_, g.hk⟩, .lst upd_same (q.mono fun b u z => ?_)⟩
  · have : b ≠ a := fun z => nb (by rw [z]; exact n)
    rw [upd_ne this]
    exact g.gk b nb
  · have : b ≠ a := fun y => by rw [y, ng] at z; cases z
    rw [upd_ne this]
    exact z
theorem CallR.imp {f : Value} {r r' : List V → Hp → VK → Prop} (h : CallR X f r) (k : ∀ xs H Q, r' xs H Q → r xs H Q) : CallR X f r' := fun pins s σ H xs us Q I rs q => h pins s σ H xs us Q I rs (k _ _ _ q)
theorem r1_of_new {f : PyData → Option PyData} {g : Value} (h : CallR X g (r1N f)) : CallR X g (r1 f) := CallR.imp h fun xs H Q ⟨G, x, d, c, e, sb, t, hc, k⟩ =>
  ⟨G, x, d, c, e, sb, t, hc, fun v G' H' gr r => let ⟨G2, g2, r2⟩ := rep_of_new gr r; k v G2 H' g2 r2⟩
/-- a list or a tuple, read -/
inductive Sq (G H : Hp) (x : V) (ds : List PyData) : Prop
  | l (a : Addr) (vs : List V) (ex : x = .ref a) (e : H a = some (.lst vs)) (r : Reps G vs ds)
  | t (a : Addr) (vs : List V) (ex : x = .ref a) (e : H a = some (.tup vs)) (r : Reps G vs ds) (eg : G a = some (.tup vs))
theorem Top.sq {G H : Hp} {x : V} {d : PyData} {ds : List PyData} (sb : Same G H) (t : Top G H x d) (h : seqOf d = some ds) : Sq G H x ds := by
  cases t with
  | lst e r => simp only [seqOf, Option.some.injEq] at h; subst h; exact .l _ _ rfl e r
  | sc r =>
    cases r <;> simp only [seqOf, reduceCtorEq, Option.some.injEq] at h
    · subst h; rename_i e q; exact .l _ _ rfl (sb _ _ e) q
    · subst h; rename_i e q; exact .t _ _ rfl (sb _ _ e) q e
theorem new_own {G H : Hp} {p : Addr} {vs : List V} {ds : List PyData} (sb : Same G H) (np : H p = none) (r : Reps G vs ds) : rN H G (upd H p (.lst vs)) [] [] (.ref p) (.list ds) := by
  refine ⟨p, rfl, np, ?_, vs, upd_same, r⟩
  cases e : G p with
  | none => rfl
  | some o => rw [sb p o e] at np; cases np
theorem call_len1 : CallR X (.builtin "len") (r1 (f1 .len)) := by
  intro pins s σ H xs us Q I rs h
  obtain ⟨G, x, d, c, rfl, sb, t, hc, k⟩ := h
  have fin : ∀ n : Nat, LenV X.K x H n → c = .int n → wpAny (model X.prog X.w) X.A (call (.builtin "len") us) (EP X pins σ Q) X.xe s := fun n h e => by
    subst e
    exact call_len pins s σ H _ us Q I rs ⟨x, n, rfl, h, k _ G H (.refl sb) (.int _)⟩
  cases t with
  | lst e r =>
    simp only [f1, Option.some.injEq] at hc
    exact fin _ (.inl ⟨_, .of e, rfl⟩) (by rw [r.length]; exact hc.symm)
  | sc r =>
    cases r <;> simp only [f1, reduceCtorEq, Option.some.injEq, Option.ite_none_right_eq_some] at hc
    · obtain ⟨h1, rfl⟩ := hc
      exact fin _ ⟨h1, rfl⟩ rfl
    · rename_i e r
      exact fin _ (.inl ⟨_, .of (sb _ _ e), rfl⟩) (by rw [r.length]; exact hc.symm)
    · rename_i e r
      exact fin _ (.inr ⟨_, .of (sb _ _ e), rfl⟩) (by rw [r.length]; exact hc.symm)
    · rename_i a e
      subst hc
      have e := sb _ _ e
      exact call_lenD pins s σ H _ us Q I rs ⟨a, _, rfl, e, k _ G H (.refl sb) (.int _)⟩
theorem call_list1 : CallR X (.type "list") (r1N (f1 .list)) := by
  intro pins s σ H xs us Q I rs h
  obtain ⟨G, x, d, c, rfl, sb, t, hc, k⟩ := h
  cases hs : seqOf d with
  | none => simp [f1, hs] at hc
  | some ds =>
    simp only [f1, hs, Option.map_some, Option.some.injEq] at hc
    subst hc
    cases t.sq sb hs with
    | l a vs ex e r =>
      subst ex
      exact call_list_of pins s σ H _ us Q I rs ⟨a, vs, rfl, .inl (.of e), fun p np => k _ G _ (.own sb np) (new_own sb np r)⟩
    | t a vs ex e r eg =>
      subst ex
      exact call_list_of pins s σ H _ us Q I rs ⟨a, vs, rfl, .inr (.of e), fun p np => k _ G _ (.own sb np) (new_own sb np r)⟩
theorem vals_pt : ∀ {xs : List V} {us : List Value}, xs.length = us.length → (∀ (i : Nat) (x : V) (u : Value), xs[i]? = some x → us[i]? = some u → RelV x u) → Vals xs us
  | [], [], _, _ => .nil
  | x :: xs, u :: us, hl, h => .cons (h 0 x u rfl rfl) (vals_pt (by simpa using hl) fun i y v h1 h2 => h (i + 1) y v (by simpa using h1) (by simpa using h2))
  | [], _ :: _, hl, _ => by simp at hl
  | _ :: _, [], hl, _ => by simp at hl
theorem signs_rep {G : Hp} : ∀ l : List Nat, Reps G (l.map fun c => V.str ⟨#[c]⟩) (l.map fun c => .str ⟨#[c]⟩)
  | [] => .nil
  | c :: l => .cons (.str _) (signs_rep l)
theorem call_tuple1 (hcalm : X.calm = true) : CallR X (.type "tuple") (r1 (f1 .tuple)) := by
  intro pins s σ H xs us Q I rs h
  obtain ⟨G, x, d, c, rfl, sb, t, hc, k⟩ := h
  by_cases hstr : ∃ z, d = .str z
  · obtain ⟨z, rfl⟩ := hstr
    simp only [f1, Option.ite_none_right_eq_some, Option.some.injEq] at hc
    obtain ⟨hz, rfl⟩ := hc
    cases t with | sc r =>
    cases r
    obtain ⟨u, rfl, t, rfl⟩ := vals1 rs
    refine PySem.call_tuple_str (I.ok.hd hcalm) z t (fun h' tk acc hk hacc => ?_) hz
    have I1 : L2.Inv X pins σ H { s with heap := h', toks := tk } := I.kept hk
    have np : H h'.objs.size = none := I1.hok.fresh (Nat.le_refl _)
    have rv : Vals (z.cps.toList.map fun c => V.str ⟨#[c]⟩) acc.toList := vals_pt (by rw [List.length_map, Array.length_toList, Array.length_toList, hacc.1]) fun i x u h1 h2 => by
      obtain ⟨c, t', h3, rfl⟩ := hacc.2 i u (by simpa using h2)
      rw [List.getElem?_map] at h1
      have h4 : z.cps.toList[i]? = some c := by simpa using h3
      rw [h4] at h1
      cases h1
      exact ⟨t', rfl⟩
    refine ⟨.ref h'.objs.size, upd H h'.objs.size (.tup _), I1.laid (t' := tk) (fun b o e => Heap.get?_push_of_some _ e) (Nat.le_refl _) ?_, rfl, k _ _ _ (.laid sb np) (.tup upd_same (signs_rep _))⟩
    refine ⟨by rw [List.length_map, Array.length_toList]; exact hz, acc.toList, rv, ?_⟩
    have e : acc.toList.toArray = acc := by simp
    rw [e]
    exact PyProof.Rows.IsTup.new _ _
  · have hs : ∃ ds, seqOf d = some ds ∧ c = .tuple ds := by
      cases d <;> simp only [f1, seqOf, Option.map_none, Option.map_some, reduceCtorEq, Option.some.injEq] at hc ⊢ <;> first | exact ⟨_, rfl, hc.symm⟩ | exact absurd ⟨_, rfl⟩ hstr
    obtain ⟨ds, hs, rfl⟩ := hs
    cases t.sq sb hs with
    | l a vs ex e r =>
      subst ex
      exact call_tuple_of pins s σ H _ us Q I rs ⟨a, vs, rfl, .inl ⟨.of e, fun p np => k _ _ _ (.laid sb np) (.tup upd_same (r.mono ((Grow.laid (o := .tup vs) sb np).same sb)))⟩⟩
    | t a vs ex e r eg =>
      subst ex
      exact call_tuple_of pins s σ H _ us Q I rs ⟨a, vs, rfl, .inr ⟨.of e, k _ G H (.refl sb) (.tup eg r)⟩⟩
theorem call_abs1 : CallR X (.builtin "abs") (r1 (f1 .abs)) := by
  intro pins s σ H xs us Q I rs h
  obtain ⟨G, x, d, c, rfl, sb, t, hc, k⟩ := h
  cases t with
  | lst _ _ => simp [f1, seqOf] at hc
  | sc r =>
    cases r <;> simp only [f1, seqOf, reduceCtorEq, Option.some.injEq] at hc
    subst hc
    exact call_abs pins s σ H _ us Q I rs ⟨_, rfl, k _ G H (.refl sb) (.int _)⟩
theorem call_int1' : CallR X (.type "int") (r1 (f1 .int)) := by
  intro pins s σ H xs us Q I rs h
  obtain ⟨G, x, d, c, rfl, sb, t, hc, k⟩ := h
  cases t with
  | lst _ _ => simp [f1, seqOf] at hc
  | sc r =>
    cases r <;> simp only [f1, seqOf, reduceCtorEq, Option.some.injEq] at hc
    · subst hc
      exact call_int1 pins s σ H _ us Q I rs (.inr ⟨_, rfl, k _ G H (.refl sb) (.int _)⟩)
    · subst hc
      exact call_int1 pins s σ H _ us Q I rs (.inl ⟨_, rfl, k _ G H (.refl sb) (.int _)⟩)
theorem call_str1 : CallR X (.type "str") (r1 (f1 .str)) := by
  intro pins s σ H xs us Q I rs h
  obtain ⟨G, x, d, c, rfl, sb, t, hc, k⟩ := h
  cases t with
  | lst _ _ => simp [f1, seqOf] at hc
  | sc r =>
    cases r <;> simp only [f1, seqOf, reduceCtorEq, Option.some.injEq, Option.ite_none_right_eq_some] at hc
    · subst hc
      obtain ⟨u, rfl, rx⟩ := vals1 rs
      cases rx
      exact PySem.P.str_of_none ⟨.str _, H, I.tok _, ⟨_, rfl⟩, k _ G H (.refl sb) (.str _)⟩
    · obtain ⟨hz, rfl⟩ := hc
      exact call_str_int pins s σ H _ us Q I rs ⟨_, rfl, hz, k _ G H (.refl sb) (.str _)⟩
end Pv

set_option maxRecDepth 100000
set_option maxHeartbeats 1000000
/-! min, max, sum, sorted of data; isinstance. -/
namespace Pv
open PySem PySem.W L2
variable {X : Cx}
theorem Reps.canLay {G : Hp} : ∀ {ds : List PyData} {d : PyData}, PyData.canLayAll0 ds = true → d ∈ ds → PyData.canLay0 d = true
  | [], _, _, h => by simp at h
  | x :: xs, d, c, h => by
    simp only [PyData.canLayAll0, Bool.and_eq_true] at c
    rcases List.mem_cons.mp h with rfl | h
    · exact c.1
    · exact Reps.canLay (G := G) c.2 h
mutual
theorem Rep.reads {G H : Hp} {pins : List (Addr × Obj)} {σ : L2.St} {s : Shared} (I : L2.Inv X pins σ H s) (sb : Same G H) : ∀ {v : V} {d : PyData} {u : Value}, Rep G v d → RelV v u → ∃ as, Reads s.heap u d as
  | _, _, _, .non, r => by cases r; exact ⟨_, Reads.none⟩
  | _, _, _, .bl b, r => by cases r; exact ⟨_, Reads.bool b⟩
  | _, _, _, .int i, r => by obtain ⟨t, rfl⟩ := r; exact ⟨_, Reads.int i t⟩
  | _, _, _, .str x, r => by obtain ⟨t, rfl⟩ := r; exact ⟨_, Reads.str x t⟩
  | _, _, _, .lst e q, r => by
    cases r
    obtain ⟨its, rv, ⟨o, n, ho, hc, _, hd⟩, _⟩ := I.list (.of (sb _ _ e))
    obtain ⟨as, hr⟩ := Reps.reads I sb q rv
    exact ⟨_, Reads.list ho hc hd hr⟩
  | _, _, _, .tup e q, r => by
    cases r
    obtain ⟨its, rv, ⟨o, ho, hc, n, hd⟩, _⟩ := I.tuple (.of (sb _ _ e))
    obtain ⟨as, hr⟩ := Reps.reads I sb q rv
    exact ⟨_, Reads.tuple ho hc hd hr⟩
  | _, _, _, .dct e, r => by
    cases r
    obtain ⟨_, _, vs, rv, o, es, ep, ho, hx, hd, hm⟩ := I.hok _ _ (sb _ _ e)
    cases rv
    have e0 : es.toList = [] := by
      have q := hm.2.1
      generalize es.toList = l at q
      cases q
      rfl
    exact ⟨_, Reads.dict (kvs := []) ho hx.1 hd (by rw [e0]; exact ReadsAll.nil) (by rw [e0]; exact ReadsAll.nil)⟩
theorem Reps.reads {G H : Hp} {pins : List (Addr × Obj)} {σ : L2.St} {s : Shared} (I : L2.Inv X pins σ H s) (sb : Same G H) : ∀ {vs : List V} {ds : List PyData} {us : List Value}, Reps G vs ds → Vals vs us → ∃ as, ReadsAll s.heap us ds as
  | _, _, _, .nil, r => by cases r; exact ⟨_, ReadsAll.nil⟩
  | _, _, _, .cons q qs, r => by
    cases r with
    | cons r rs =>
      obtain ⟨as, h1⟩ := Rep.reads I sb q r
      obtain ⟨bs, h2⟩ := Reps.reads I sb qs rs
      exact ⟨_, ReadsAll.cons h1 h2⟩
end
theorem alikeAll_of {ds : List PyData} (h : allAlike ds = true) : AllAlike ds := fun d hd e he => by
  unfold allAlike at h
  rw [List.all_eq_true] at h
  exact List.all_eq_true.mp (h d hd) e he
theorem notNone_of {ds : List PyData} (h : ds.all notNone = true) : ∀ x ∈ ds, x ≠ .none := fun x hx e => by
  have := List.all_eq_true.mp h x hx
  subst e
  simp [notNone] at this
theorem depth_le : ∀ {ds : List PyData} {d : PyData}, d ∈ ds → d.depth ≤ PyData.depthAll ds
  | x :: xs, d, h => by
    simp only [PyData.depthAll]
    rcases List.mem_cons.mp h with rfl | h
    · exact Nat.le_max_left _ _
    · exact Nat.le_trans (depth_le h) (Nat.le_max_right _ _)
theorem minD_mem : ∀ (x : PyData) (xs : List PyData), minD x xs ∈ x :: xs
  | x, [] => by simp [minD]
  | x, y :: ys => by
    have e : minD x (y :: ys) = minD (if dataLt y x then y else x) ys := rfl
    have h := minD_mem (if dataLt y x then y else x) ys
    rw [e]
    rcases List.mem_cons.mp h with h | h
    · rw [h]; split <;> simp
    · exact List.mem_cons_of_mem _ (List.mem_cons_of_mem _ h)
theorem maxD_mem : ∀ (x : PyData) (xs : List PyData), maxD x xs ∈ x :: xs
  | x, [] => by simp [maxD]
  | x, y :: ys => by
    have e : maxD x (y :: ys) = maxD (if dataLt x y then y else x) ys := rfl
    have h := maxD_mem (if dataLt x y then y else x) ys
    rw [e]
    rcases List.mem_cons.mp h with h | h
    · rw [h]; split <;> simp
    · exact List.mem_cons_of_mem _ (List.mem_cons_of_mem _ h)
/-- the item that stands for a datum of the row -/
theorem item_of {G H : Hp} {pins : List (Addr × Obj)} {σ : L2.St} {s : Shared} (I : L2.Inv X pins σ H s) (sb : Same G H) {vs : List V} {ds : List PyData} {its : List Value} (r : Reps G vs ds) (rv : Vals vs its) (hal : AllAlike ds)
    {i : Nat} {u : Value} {m : PyData} {bs : List Addr} (hi : its[i]? = some u) (hm : m ∈ ds) (hr : Reads s.heap u m bs) : ∃ v, RelV v u ∧ Rep G v m := by
  have hlt : i < vs.length := by
    rw [rv.length]
    exact (List.getElem?_eq_some_iff.mp hi).1
  obtain ⟨d, h1, h2⟩ := r.getV (List.getElem?_eq_getElem hlt)
  obtain ⟨u', h3, h4⟩ := rv.get (List.getElem?_eq_getElem hlt)
  rw [hi] at h3
  cases h3
  obtain ⟨as, h5⟩ := h2.reads I sb h4
  have hd : d ∈ ds := List.mem_of_getElem? h1
  have e := alike_unique _ _ _ _ _ (hal m hm d hd) hr h5
  subst e
  exact ⟨_, h4, h2⟩
theorem seq_cases {d : PyData} {ds : List PyData} {f : List PyData → Option PyData} {c : PyData} (h : (seqOf d).bind f = some c) : ∃ ds, seqOf d = some ds ∧ f ds = some c := by
  cases e : seqOf d with
  | none => rw [e] at h; simp at h
  | some ds => rw [e] at h; exact ⟨ds, rfl, by simpa using h⟩
theorem call_min1 (hcalm : X.calm = true) (hu : X.A.units + 200 < cLine) : CallR X (.builtin "min") (r1 (f1 .min)) := by
  intro pins s σ H xs us Q I rs h
  obtain ⟨G, x, d, c, rfl, sb, t, hc, k⟩ := h
  obtain ⟨ds, hs, hc⟩ := seq_cases (ds := []) hc
  cases ds with
  | nil => simp [least] at hc
  | cons y ys =>
    simp only [least, Option.ite_none_right_eq_some, Option.some.injEq, Bool.and_eq_true] at hc
    obtain ⟨⟨⟨h1, h2⟩, h3⟩, rfl⟩ := hc
    have hal : AlikeAll (y :: ys) := ⟨alikeAll_of h1, notNone_of h2⟩
    have hdp : PyData.depthAll (y :: ys) ≤ 64 := of_decide_eq_true h3
    cases t.sq sb hs with
    | l a vs ex e r =>
      subst ex
      obtain ⟨u, rfl, rx⟩ := vals1 rs
      cases rx
      obtain ⟨its, rv, pl, _⟩ := I.list (.of e)
      obtain ⟨as, hr⟩ := r.reads I sb rv
      refine min_list_data (I.ok.hd hcalm) pl.isList (by simpa using hr) hal (by omega) fun i v h' tk bs hi hr' hk => ?_
      have I2 : L2.Inv X pins σ H { s with heap := h', toks := tk } := I.kept hk
      obtain ⟨vv, h4, h5⟩ := item_of I2 sb r rv hal.1 (by simpa using hi) (minD_mem y ys) hr'
      exact ⟨vv, H, I2, h4, k _ G H (.refl sb) h5⟩
    | t a vs ex e r eg =>
      subst ex
      obtain ⟨u, rfl, rx⟩ := vals1 rs
      cases rx
      obtain ⟨its, rv, pl, _⟩ := I.tuple (.of e)
      obtain ⟨as, hr⟩ := r.reads I sb rv
      refine min_tuple_data (I.ok.hd hcalm) pl (by simpa using hr) hal (by omega) fun i v h' tk bs hi hr' hk => ?_
      have I2 : L2.Inv X pins σ H { s with heap := h', toks := tk } := I.kept hk
      obtain ⟨vv, h4, h5⟩ := item_of I2 sb r rv hal.1 (by simpa using hi) (minD_mem y ys) hr'
      exact ⟨vv, H, I2, h4, k _ G H (.refl sb) h5⟩
theorem call_max1 (hcalm : X.calm = true) (hu : X.A.units + 200 < cLine) : CallR X (.builtin "max") (r1 (f1 .max)) := by
  intro pins s σ H xs us Q I rs h
  obtain ⟨G, x, d, c, rfl, sb, t, hc, k⟩ := h
  obtain ⟨ds, hs, hc⟩ := seq_cases (ds := []) hc
  cases ds with
  | nil => simp [most] at hc
  | cons y ys =>
    simp only [most, Option.ite_none_right_eq_some, Option.some.injEq, Bool.and_eq_true] at hc
    obtain ⟨⟨⟨h1, h2⟩, h3⟩, rfl⟩ := hc
    have hal : AlikeAll (y :: ys) := ⟨alikeAll_of h1, notNone_of h2⟩
    have hdp : PyData.depthAll (y :: ys) ≤ 64 := of_decide_eq_true h3
    cases t.sq sb hs with
    | l a vs ex e r =>
      subst ex
      obtain ⟨u, rfl, rx⟩ := vals1 rs
      cases rx
      obtain ⟨its, rv, pl, _⟩ := I.list (.of e)
      obtain ⟨as, hr⟩ := r.reads I sb rv
      refine max_list_data (I.ok.hd hcalm) pl.isList (by simpa using hr) hal (by omega) fun i v h' tk bs hi hr' hk => ?_
      have I2 : L2.Inv X pins σ H { s with heap := h', toks := tk } := I.kept hk
      obtain ⟨vv, h4, h5⟩ := item_of I2 sb r rv hal.1 (by simpa using hi) (maxD_mem y ys) hr'
      exact ⟨vv, H, I2, h4, k _ G H (.refl sb) h5⟩
    | t a vs ex e r eg =>
      subst ex
      obtain ⟨u, rfl, rx⟩ := vals1 rs
      cases rx
      obtain ⟨its, rv, pl, _⟩ := I.tuple (.of e)
      obtain ⟨as, hr⟩ := r.reads I sb rv
      refine max_tuple_data (I.ok.hd hcalm) pl (by simpa using hr) hal (by omega) fun i v h' tk bs hi hr' hk => ?_
      have I2 : L2.Inv X pins σ H { s with heap := h', toks := tk } := I.kept hk
      obtain ⟨vv, h4, h5⟩ := item_of I2 sb r rv hal.1 (by simpa using hi) (maxD_mem y ys) hr'
      exact ⟨vv, H, I2, h4, k _ G H (.refl sb) h5⟩

/-! ### sum -/
theorem preSum_take (ns : List Int) : ∀ j, j ≤ ns.length → preSum (fun i => ns.getD i 0) j = (ns.take j).sum
  | 0, _ => by simp [preSum]
  | j + 1, h => by
    have hj : j < ns.length := h
    rw [preSum, preSum_take ns j (Nat.le_of_lt hj), List.take_add_one, List.getElem?_eq_getElem hj, List.sum_append]
    simp [List.getD_eq_getElem?_getD, List.getElem?_eq_getElem hj]
theorem sum_tuple_raw {prog : Program} {w : World} {A : Around} {E : Value → Shared → Prop} {s : Shared} {l : Addr} {its : List Value} {ns : List Int} {Q : Value → Shared → Prop} (hh : A.handled = none) (hl : s.heap.IsTuple l its.toArray) (hi : PyProof.Rows.IntsAre its ns)
    (h : ∀ h' tk t', (∀ b o, s.heap.get? b = some o → h'.get? b = some o) → Q (.int ns.sum t') { s with heap := h', toks := tk }) : wpAny (model prog w) A (call (.builtin "sum") [.ref l]) Q E s := by
  have hlt : l < s.heap.objs.size := by obtain ⟨_, e, _⟩ := hl; exact Heap.lt_size e
  refine call_sum_walkG (wpAny_pyIter_tuple hl ?_)
  have hn : its.toArray.size = ns.length := by
    rw [List.size_toArray]
    exact hi.length
  refine ⟨_, _, _, _, _, _, fun i => ns.getD i 0, rfl, Walks.tuple (A := A.in1) hh _ l (Nat.ne_of_lt hlt) its.toArray, ⟨⟨_, Heap.get?_push_size _ rfl, rfl, rfl⟩, hl.push _⟩, fun b hb => ?_, fun i v hv => ?_, fun h' tk t' hk => ?_⟩
  · show b < (s.heap.push _).objs.size
    rw [Heap.size_push]
    rcases List.mem_cons.mp hb with rfl | hb
    · exact Nat.lt_succ_self _
    · rcases List.mem_cons.mp hb with rfl | hb
      · exact Nat.lt_succ_of_lt hlt
      · cases hb
  · have hv' : its[i]? = some v := by simpa using hv
    have hlt' : i < ns.length := by rw [← hn]; simpa using (List.getElem?_eq_some_iff.mp hv').1
    obtain ⟨t, ht⟩ := hi.get i _ (List.getElem?_eq_getElem hlt')
    rw [hv'] at ht
    cases ht
    exact ⟨t, by show Value.int _ t = Value.int (ns.getD i 0) t; rw [List.getD_eq_getElem?_getD, List.getElem?_eq_getElem hlt']; rfl⟩
  · rw [hn, preSum_take ns _ (Nat.le_refl _), List.take_length]
    exact h h' tk t' fun b o e => hk b o (fun hm => absurd (Heap.lt_size e) ((List.mem_singleton.mp hm) ▸ Nat.lt_irrefl _)) (Heap.get?_push_of_some _ e)
theorem call_sum1 (hcalm : X.calm = true) : CallR X (.builtin "sum") (r1 (f1 .sum)) := by
  intro pins s σ H xs us Q I rs h
  obtain ⟨G, x, d, c, rfl, sb, t, hc, k⟩ := h
  obtain ⟨ds, hs, hc⟩ := seq_cases (ds := []) hc
  obtain ⟨ns, hn, rfl⟩ := Option.map_eq_some_iff.mp hc
  have kq := k (.int ns.sum) G H (.refl sb) (.int _)
  cases t.sq sb hs with
  | l a vs ex e r =>
    subst ex
    have ev := r.ints hn
    subst ev
    exact cr_sum hcalm pins s σ H _ us Q I rs ⟨a, ns, rfl, .of e, kq⟩
  | t a vs ex e r eg =>
    subst ex
    have ev := r.ints hn
    subst ev
    obtain ⟨u, rfl, rx⟩ := vals1 rs
    cases rx
    obtain ⟨its, rv, pl, _⟩ := I.tuple (.of e)
    refine sum_tuple_raw (I.ok.hd hcalm) pl (Vals.ints rv) fun h' tk t' hk => ?_
    exact ⟨.int ns.sum, H, I.kept hk, ⟨t', rfl⟩, kq⟩

/-! ### sorted -/
theorem collect_seq {prog : Program} {w : World} {A : Around} {E : Value → Shared → Prop} {s : Shared} {l : Addr} {o : Obj} {T : String} {n : Nat} {vs : List Value} {Q : List Value → Shared → Prop} (hT : T = "list" ∨ T = "tuple") (ho : s.heap.get? l = some o) (hc : o.cls = .type T) (hd : o.data = .seq vs.toArray n)
    (h : Q vs { s with heap := (s.heap.push (PyProof.Rows.seqObj "list" #[] 0)).update s.heap.objs.size (Obj.mapSeq (· ++ vs.toArray)) }) (hsz : vs.length ≤ sizeLine) :
    wpAny (model prog w) A (collect (.ref l)) Q E s := by
  unfold collect
  refine wpAny_bind (wpAny_runValue (codeAny_builtin PyProof.Rows.entry_proto_collect' ?_))
  show wpAny _ _ (do again (.builtin "list.__iadd__" ⟨[← newList [], .ref l], []⟩)) _ _ s
  refine wpAny_bind (wpAny_newList (wpAny_pure ⟨Code.quiet_builtin _ (by decide +kernel), codeAny_builtin PyProof.Rows.entry_list_iadd' ?_⟩))
  show wpAny _ _ (Builtin.List.listExtendWith (.ref s.heap.objs.size) (.ref l) (.ref s.heap.objs.size)) _ _ { s with heap := s.heap.push (PyProof.Rows.seqObj "list" #[] 0) }
  unfold Builtin.List.listExtendWith
  have ho' : (s.heap.push (PyProof.Rows.seqObj "list" #[] 0)).get? l = some o := Heap.get?_push_of_some _ ho
  refine wpAny_bind (wpAny_typeOf (T := T) ⟨o, ho', hc⟩ ?_)
  have ht : (Value.type T == Value.type "list") = true ∨ (Value.type T == Value.type "tuple") = true := by
    rcases hT with rfl | rfl
    · exact .inl rfl
    · exact .inr rfl
  rw [if_pos (by rcases ht with ht | ht <;> rw [ht] <;> simp)]
  refine wpAny_bind (PyProof.Rows.listItems_at ho' hd ?_)
  refine wpAny_bind (PyProof.Rows.listItems_at (xs := #[]) (n := 0) (Heap.get?_push_size _ rfl) rfl ?_)
  rw [if_neg (by simp)]
  refine wpAny_bind (PyProof.Rows.listUpdate_at (xs := #[]) (n := 0) (Heap.get?_push_size _ rfl) rfl ?_ (Nat.zero_le _) (by show (#[] ++ vs.toArray).size ≤ sizeLine + 1; simp only [Array.size_append, List.size_toArray, List.length_nil]; omega))
  refine wpAny_pure ?_
  show wpAny (model prog w) A (do
      let o ← load s.heap.objs.size
      match o.data with
      | .seq xs _ => pure xs.toList
      | _ => unsupported "internal:collect") Q E { s with heap := (s.heap.push (PyProof.Rows.seqObj "list" #[] 0)).update s.heap.objs.size (Obj.mapSeq (· ++ vs.toArray)) }
  refine wpAny_bind (wpAny_load (PyProof.Rows.get?_update_seq (Heap.get?_push_size _ rfl) _) ?_)
  show wpAny _ _ (pure ((#[] : Array Value) ++ vs.toArray).toList) Q E _
  rw [show ((#[] : Array Value) ++ vs.toArray).toList = vs by simp]
  exact wpAny_pure h
theorem sorted_seq_vals {prog : Program} {w : World} {A : Around} {E : Value → Shared → Prop} {s : Shared} {κ : PyProof.Rows.KeyKind} {l : Addr} {o : Obj} {T : String} {n : Nat} {vs : List Value} {Q : Value → Shared → Prop} (hT : T = "list" ∨ T = "tuple") (ho : s.heap.get? l = some o) (hc : o.cls = .type T) (hd : o.data = .seq vs.toArray n)
    (S : SortsAt prog w A.in1.in1 { s with heap := sortingHeap (copyHeap s.heap vs) (s.heap.objs.size + 1) vs } κ vs) (hL : vs.length ≤ sizeLine)
    (h : Q (.ref (s.heap.objs.size + 1)) { s with heap := PyProof.Rows.sortedAll s.heap vs (sortVals κ false vs vs).toArray }) : wpAny (model prog w) A (call (.builtin "sorted") [.ref l]) Q E s := by
  refine Calls.call_function_entry PyProof.Rows.kind_sorted PyProof.Rows.plain_sorted PyProof.Rows.entry_sorted (PyProof.Rows.args_sorted1 _) ?_
  unfold Builtin.«sorted»
  refine wpAny_bind (m := checkCount "sorted" 1 1 _) (wpAny_pure ?_)
  refine wpAny_bind (collect_seq hT ho hc hd ?_ hL)
  refine wpAny_bind (wpAny_newList ?_ hL)
  have hsz : ((s.heap.push (PyProof.Rows.seqObj "list" #[] 0)).update s.heap.objs.size (Obj.mapSeq (· ++ vs.toArray))).objs.size = s.heap.objs.size + 1 := by
    rw [Heap.size_update, PyProof.Rows.size_push']
  show wpAny _ _ _ _ _ { s with heap := copyHeap s.heap vs }
  rw [hsz]
  refine wpAny_bind (wpAny_holding (PySem.wpAny_call_entry PyProof.Rows.slot_list_sort ⟨_, copyHeap_at s.heap vs, rfl⟩ PyProof.Rows.entry_list_sort ?body (PyProof.Rows.args_list_sort _)))
  case body =>
    show wpAny (model prog w) A.in1.in1 (Builtin.«list.sort» ⟨[.ref (s.heap.objs.size + 1)], []⟩) _ _ _
    refine wpAny_mono (list_sort_vals (s := { s with heap := copyHeap s.heap vs }) (P := fun f s' => f = .done (.ret .none) ∧ Q (.ref (s.heap.objs.size + 1)) s') (copyHeap_at s.heap vs) S hL ⟨rfl, h⟩) (fun f s' hf => ?_) fun _ _ e => e
    obtain ⟨rfl, hq⟩ := hf
    exact ⟨_, rfl, wpAny_pure ⟨_, rfl, hq⟩⟩
theorem each_of {G H : Hp} {pins : List (Addr × Obj)} {σ : L2.St} {s : Shared} (I : L2.Inv X pins σ H s) (sb : Same G H) : ∀ {vs : List V} {ds : List PyData} {us : List Value}, Reps G vs ds → Vals vs us → EachIs (fun u d => ∃ v, RelV v u ∧ Rep G v d) us ds
  | _, _, _, .nil, .nil => .nil
  | _, _, _, .cons r rs, .cons q qs => .cons ⟨_, q, r⟩ (each_of I sb rs qs)
theorem each_back {G : Hp} : ∀ {us : List Value} {ds : List PyData}, EachIs (fun u d => ∃ v, RelV v u ∧ Rep G v d) us ds → ∃ vs, Vals vs us ∧ Reps G vs ds
  | _, _, .nil => ⟨[], .nil, .nil⟩
  | _, _, .cons ⟨v, q, r⟩ t => by
    obtain ⟨vs, h1, h2⟩ := each_back t
    exact ⟨v :: vs, .cons q h1, .cons r h2⟩
theorem sortable_of {ds : List PyData} (h : (ds.all isTup1 || ds.all noTup) = true) : Sortable ds := by
  rcases Bool.or_eq_true _ _ |>.mp h with h | h
  · refine .inl fun d hd => ?_
    have := List.all_eq_true.mp h d hd
    unfold isTup1 at this
    split at this
    · exact ⟨_, _, rfl⟩
    · cases this
  · refine .inr fun d hd => ?_
    have := List.all_eq_true.mp h d hd
    constructor
    · rintro rfl; simp [noTup] at this
    · rintro xs rfl; simp [noTup] at this
theorem call_sorted1 (hcalm : X.calm = true) (hu : X.A.units + 200 < cLine) : CallR X (.builtin "sorted") (r1N (f1 .sorted)) := by
  intro pins s σ H xs us Q I rs h
  obtain ⟨G, x, d, c, rfl, sb, t, hc, k⟩ := h
  obtain ⟨ds, hs, hc⟩ := seq_cases (ds := []) hc
  obtain ⟨es, hn, rfl⟩ := Option.map_eq_some_iff.mp hc
  simp only [sorts, Option.ite_none_right_eq_some, Option.some.injEq, Bool.and_eq_true] at hn
  obtain ⟨⟨⟨h1, h2⟩, h3⟩, rfl⟩ := hn
  have hal := alikeAll_of h1
  have hk := sortable_of h2
  have hdp : PyData.depthAll ds ≤ 64 := of_decide_eq_true h3
  have go : ∀ (a : Addr) (o : Obj) (T : String) (n : Nat) (vs : List V) (its : List Value), (T = "list" ∨ T = "tuple") → s.heap.get? a = some o → o.cls = .type T → o.data = .seq its.toArray n → Reps G vs ds → Vals vs its → vs.length ≤ sizeLine →
      wpAny (model X.prog X.w) X.A (call (.builtin "sorted") [.ref a]) (EP X pins σ Q) X.xe s := by
    intro a o T n vs its hT ho hcl hd r rv hz
    have hL : its.length ≤ sizeLine := by rw [← rv.length]; exact hz
    have hle : ds.length ≤ sizeLine := by rw [← r.length]; exact hz
    have ei : ds = ds.map fun d => d := by simp
    have ep := each_of I sb r rv
    have er : EachIs (fun u d => ∃ as, Reads (sortingHeap (copyHeap s.heap its) (s.heap.objs.size + 1) its) u d as) its ds :=
      ep.mono fun u d ⟨v, q1, q2⟩ => let ⟨as, q⟩ := q2.reads I sb q1; ⟨as, PyProof.Rows.Reads.keeps (fun _ _ => sorting_copy_old) q⟩
    have hal' : AllAlike (ds.map fun d => d) := by rw [← ei]; exact hal
    refine sorted_seq_vals hT ho hcl hd (SortsAt.data (s := { s with heap := sortingHeap (copyHeap s.heap its) (s.heap.objs.size + 1) its }) er hal hk fun d hd => ?_) hL ?_
    · have := depth_le hd
      show X.A.units + 1 + 1 + d.depth < cLine
      omega
    · have hout := sortVals_data (enc := fun d => d) false ep er hal'
      obtain ⟨ws, q1, q2⟩ := each_back hout
      obtain ⟨e, he⟩ := PyProof.Rows.sortedAll_at s.heap its (sortVals (dataKind (sortingHeap (copyHeap s.heap its) (s.heap.objs.size + 1) its) (ds.map fun d => d)) false its its).toArray
      have np : H (s.heap.objs.size + 1) = none := I.hok.fresh (Nat.le_succ _)
      have hlen : ws.length ≤ sizeLine := by rw [q2.length, List.length_mergeSort]; exact hle
      rw [← ei] at q1 he
      exact ⟨.ref _, upd H (s.heap.objs.size + 1) (.lst ws), I.laid (t' := s.toks) (fun _ _ => PyProof.Rows.sortedAll_old) (Nat.le_succ _) ⟨hlen, _, e, q1, he⟩, rfl, k _ G _ (.own sb np) (new_own sb np q2)⟩
  cases t.sq sb hs with
  | l a vs ex e r =>
    subst ex
    obtain ⟨u, rfl, rx⟩ := vals1 rs
    cases rx
    obtain ⟨its, rv, ⟨o, n, ho, hcl, _, hd⟩, hz⟩ := I.list (.of e)
    exact go a o "list" n vs its (.inl rfl) ho hcl hd r rv hz
  | t a vs ex e r eg =>
    subst ex
    obtain ⟨u, rfl, rx⟩ := vals1 rs
    cases rx
    obtain ⟨its, rv, ⟨o, ho, hcl, n, hd⟩, hz⟩ := I.tuple (.of e)
    exact go a o "tuple" n vs its (.inr rfl) ho hcl hd r rv hz

/-! ### max of two data -/
section
open PySem.Spec PyProof.Rows
variable {prog : Program} {w : World} {A : Around} {E : Value → Shared → Prop} {s : Shared}
theorem max_two_data {a b : Value} {x y : PyData} {as : List Addr} {Q : Value → Shared → Prop} (hh : A.handled = none) (hr : ReadsAll s.heap [a, b] [x, y] as) (ha : AlikeAll [x, y]) (hu : A.units + 1 + PyData.depthAll [x, y] < cLine)
    (h : ∀ (i : Nat) v h' tk bs, (#[a, b] : Array Value)[i]? = some v → Reads h' v (maxD x [y]) bs → (∀ b o, s.heap.get? b = some o → h'.get? b = some o) → Q v { s with heap := h', toks := tk }) :
    wpAny (model prog w) A (call (.builtin "max") [a, b]) Q E s := by
  have hname : (toString "max" ++ toString ".loop" : String) = "max.loop" := by decide
  refine call_function_tree F.kind_max F.plain_max F.entry_max (F.args_max2 _ _) ?_
  show wpAny _ A.in1 (Builtin.Builtins.bindParams "max" ["key", "default"] 0 ⟨[], []⟩ >>= _) _ _ s
  refine wpAny_bind (wpAny_of_eq (show Builtin.Builtins.bindParams "max" ["key", "default"] 0 ⟨[], []⟩ = pure [none, none] from rfl) ?_)
  show wpAny _ A.in1 (newTuple [a, b] >>= _) _ _ s
  refine wpAny_bind (wpAny_newObj_type ?_)
  have hT : (s.heap.push { cls := .type "tuple", data := .seq #[a, b] }).IsTuple s.heap.objs.size #[a, b] := ⟨_, Heap.get?_push_size _ rfl, rfl, 0, rfl⟩
  have hr2 : ReadsAll (s.heap.push { cls := .type "tuple", data := .seq #[a, b] }) (#[a, b] : Array Value).toList [x, y] as := ReadsAll.keeps (fun b o e => Heap.get?_push_of_some _ e) hr
  have hn : (#[a, b] : Array Value).size = [y].length + 1 := rfl
  refine wpAny_bind (iter_tupleW (A := A.in1) (s := { s with heap := s.heap.push { cls := .type "tuple", data := .seq #[a, b] } }) hh hT fun s₂ e W st hfp hw hk => ?_)
  refine wpAny_bind (wpAny_newObj_type ?_)
  have hSf : s₂.heap.objs.size ∉ _ := fun hm => Nat.lt_irrefl _ (hfp _ hm)
  rw [hname]
  refine wpAny_pure ⟨plainId_quiet F.plain_max_loop _, codeAny_max_loop_firstH W _ hw _ (cmpIn_gt (s := { s with heap := s.heap.push { cls := .type "tuple", data := .seq #[a, b] } }) (A := A.in1) hr2 ha (by show A.units + 1 + _ < _; exact hu)) s₂.heap.objs.size hSf (fresh_in hk) _ (show 0 < 2 by decide) (fun b o e => Heap.get?_push_of_some _ (hk b o e)) (W.frame 0 s₂ _ s₂.toks st (Nat.le_refl _) fun b _ o e => Heap.get?_push_of_some _ e) (Heap.get?_push_size _ rfl) fun v s' hP hm => ?_⟩
  have m := Moved.drop_new (tk := s₂.toks) hm (Nat.le_refl _)
  obtain ⟨h', tk, rfl, hk'⟩ := moved_old e rfl m
  obtain ⟨bs, r, _, _, _⟩ := readsAll_atA hr2 _ v hP
  have e1 : (#[a, b] : Array Value).size - 1 = [y].length := rfl
  have e2 := (argBest_fold (fun a b => dataLt b a) PyData.none x [y] [y].length (Nat.le_refl _)).2
  rw [List.take_length] at e2
  rw [e1] at r
  exact h _ v h' tk bs hP (reads_keeps hk' (by unfold maxD; rw [← e2]; exact r)) fun b o q => hk' b o (Heap.get?_push_of_some _ q)
end
/-- a call with two data kept -/
def r2 (f : PyData → PyData → Option PyData) : List V → Hp → VK → Prop := fun xs H Q => ∃ G x y d e c, xs = [x, y] ∧ Same G H ∧ Rep G x d ∧ Rep G y e ∧ f d e = some c ∧ ∀ v G' H', Grow G H G' H' → Rep G' v c → Q v H'
theorem call_max2D (hcalm : X.calm = true) (hu : X.A.units + 200 < cLine) : CallR X (.builtin "max") (r2 (f2 .max)) := by
  intro pins s σ H xs us Q I rs h
  obtain ⟨G, x, y, d, e, c, rfl, sb, rx, ry, hc, k⟩ := h
  cases rx with
  | int i =>
    cases ry with
    | int j =>
      simp only [f2, Option.some.injEq] at hc
      subst hc
      exact call_max2 hcalm pins s σ H _ us Q I rs ⟨i, j, rfl, k _ G H (.refl sb) (.int _)⟩
    | _ => cases hc
  | tup e1 r1 =>
    cases ry with
    | tup e2 r2 =>
      simp only [f2, most, Option.ite_none_right_eq_some, Option.some.injEq, Bool.and_eq_true] at hc
      obtain ⟨⟨⟨h1, h2⟩, h3⟩, rfl⟩ := hc
      rename_i a vs ds b ws es
      have hal : AlikeAll [PyData.tuple ds, .tuple es] := ⟨alikeAll_of h1, notNone_of h2⟩
      have hdp : PyData.depthAll [PyData.tuple ds, .tuple es] ≤ 64 := of_decide_eq_true h3
      have rr : Reps G [V.ref a, .ref b] [PyData.tuple ds, .tuple es] := .cons (.tup e1 r1) (.cons (.tup e2 r2) .nil)
      obtain ⟨u, w', rfl, q1, q2⟩ := vals2 rs
      obtain ⟨as, hr⟩ := rr.reads I sb rs
      refine max_two_data (I.ok.hd hcalm) hr hal (by omega) fun i v h' tk bs hi hr' hk => ?_
      have I2 : L2.Inv X pins σ H { s with heap := h', toks := tk } := I.kept hk
      obtain ⟨vv, h4, h5⟩ := item_of (its := [u, w']) I2 sb rr rs hal.1 (by simpa using hi) (maxD_mem _ _) hr'
      exact ⟨vv, H, I2, h4, k _ G H (.refl sb) h5⟩
    | _ => cases hc
  | _ => cases ry <;> cases hc
end Pv

set_option maxRecDepth 100000
set_option maxHeartbeats 1000000
/-! Expressions of the small Python: each form by its parts. -/
namespace Pv
open PySem PySem.W L2
variable {X : Cx} {w : Wd} {Wx : WXt} {a b c e : Expr} {pos : Pos} {ma mb mc : Env → M PyData}

/-! ### names and constants -/
theorem sn_var {i : Nat} {x : Str} (hN : X.N[i]? = some x) (hv : Vis X.env.scope x) (hd : (x == ("__debug__" : Str)) = false) (hcd : (x == ("__classdict__" : Str)) = false) :
    PE X (.Name x pos) (Tm w Wx rV fun ρ => match ρ[i]? with | some (.fz d) => M.pure d | _ => M.stuck) :=
  pe_imp (pe_var hN hv hd hcd) fun σ H Q ⟨G, ρ, ls, h⟩ => by
    cases e : ρ[i]? with
    | none => simp only [e] at h; exact h.2.elim
    | some s =>
      cases s with
      | fz d =>
        simp only [e] at h
        obtain ⟨v, e1, r⟩ := h.1.sl i _ e
        exact ⟨v, e1, h.pure v G H (.refl h.sub) r⟩
      | _ => simp only [e] at h; exact h.2.elim
theorem sn_bor {i : Nat} {x : Str} (hN : X.N[i]? = some x) (hv : Vis X.env.scope x) (hd : (x == ("__debug__" : Str)) = false) (hcd : (x == ("__classdict__" : Str)) = false) :
    PE X (.Name x pos) (Tm w Wx rH fun ρ => match ρ[i]? with | some (.fz d) => M.pure d | some (.ow d) => M.pure d | _ => M.stuck) :=
  pe_imp (pe_var hN hv hd hcd) fun σ H Q ⟨G, ρ, ls, h⟩ => by
    cases e : ρ[i]? with
    | none => simp only [e] at h; exact h.2.elim
    | some s =>
      cases s with
      | fz d =>
        simp only [e] at h
        obtain ⟨v, e1, r⟩ := h.1.sl i _ e
        exact ⟨v, e1, h.pure v G H (.refl h.sub) (.inl r)⟩
      | ow d =>
        simp only [e] at h
        obtain ⟨p, e1, _⟩ := h.1.sl i _ e
        exact ⟨_, e1, h.pure _ G H (.refl h.sub) (.inr ⟨i, e, e1⟩)⟩
      | _ => simp only [e] at h; exact h.2.elim
/-- what is kept may be read -/
theorem sn_held {m : Env → M PyData} (h : PE X e (Tm w Wx rV m)) : PE X e (Tm w Wx rH m) := pe_imp h fun σ H Q ⟨G, ρ, ls, p⟩ => by
  refine ⟨G, ρ, ls, p.1, ?_⟩
  have h2 := p.2
  unfold Out at h2 ⊢
  cases e : m ρ ls with
  | ok d ls' => rw [e] at h2; exact fun v G' H' x s r => h2 v G' H' x s (.inl r)
  | exn x ls' => rw [e] at h2; exact h2
  | stuck => rw [e] at h2; exact h2
/-- what is new may be kept -/
theorem sn_new {m : Env → M PyData} (h : PE X e (Tm w Wx rN m)) : PE X e (Tm w Wx rV m) := pe_imp h fun σ H Q ⟨G, ρ, ls, p⟩ => by
  refine ⟨G, ρ, ls, p.1, ?_⟩
  have h2 := p.2
  unfold Out at h2 ⊢
  cases e : m ρ ls with
  | ok d ls' =>
    rw [e] at h2
    rintro v G' H' x ⟨lv, s1, s2⟩ ⟨q, rfl, n, ng, o⟩
    cases d <;> simp only [OwnAt] at o
    obtain ⟨vs, e1, r⟩ := o
    have sm : Same G' (upd G' q (.lst vs)) := Same.upd ng
    refine h2 _ (upd G' q (.lst vs)) H' ⟨Grow.froze x.sub e1, fun b nb => ?_, x.hk⟩ ⟨lv, s1, s2.mono sm⟩ (.lst upd_same (r.mono sm))
    have : b ≠ q := fun z => nb (by rw [z]; exact n)
    rw [upd_ne this]
    exact x.gk b nb
  | exn x ls' => rw [e] at h2; exact h2
  | stuck => rw [e] at h2; exact h2
theorem sn_cst {d : PyData} {v : V} (h : PE X e (tC v)) (r : ∀ G, Rep G v d) : PE X e (Tm w Wx rV fun _ => M.pure d) :=
  pe_imp h fun σ H Q ⟨G, ρ, ls, p⟩ => p.pure v G H (.refl p.sub) (r G)

/-! ### operators -/
theorem sn_bin (op : Operator) (ha : PE X a (Tm w Wx rV ma)) (hb : PE X b (Tm w Wx rV mb)) :
    PE X (.BinOp a op b pos) (Tm w Wx rV fun ρ => M.bind (ma ρ) fun x => M.bind (mb ρ) fun y => M.opt (binop op x y)) :=
  pe_imp (pe_op (op_binop op) ha hb) fun σ H Q ⟨G, ρ, ls, p⟩ => ⟨G, ρ, ls, p.bind.imp fun x H1 ⟨G1, ls1, d1, r1, s1, p1⟩ => ⟨G1, ρ, ls1, p1.bind.imp fun y H2 ⟨G2, ls2, d2, r2, s2, p2⟩ =>
    let ⟨c, hc, k⟩ := p2.fin; ⟨G2, d1, d2, c, p2.sub, r1.mono s2, r2, hc, k⟩⟩⟩
theorem sn_neg (ha : PE X a (Tm w Wx rV ma)) : PE X (.UnaryOp .USub a pos) (Tm w Wx rV fun ρ => M.bind (ma ρ) fun x => M.opt ((intOf x).map fun i => .int (-i))) :=
  pe_imp (pe_un un_neg ha) fun σ H Q ⟨G, ρ, ls, p⟩ => ⟨G, ρ, ls, p.bind.imp fun x H1 ⟨G1, ls1, d1, r1, s1, p1⟩ => by
    obtain ⟨c, hc, k⟩ := p1.fin
    obtain ⟨i, hi, rfl⟩ := Option.map_eq_some_iff.mp hc
    cases d1 <;> simp only [intOf, reduceCtorEq, Option.some.injEq] at hi
    subst hi
    cases r1
    exact ⟨_, rfl, k _ G1 H1 (.refl p1.sub) (.int _)⟩⟩
theorem sn_not (ha : PE X a (Tm w Wx rH ma)) : PE X (.UnaryOp .Not a pos) (Tm w Wx rV fun ρ => M.bind (ma ρ) fun x => M.opt ((truth x).map fun b => .bool (!b))) :=
  pe_imp (pe_notT ha) fun σ H Q ⟨G, ρ, ls, p⟩ => ⟨G, ρ, ls, p.bind.imp fun x H1 ⟨G1, ls1, d1, r1, s1, p1⟩ => by
    obtain ⟨c, hc, k⟩ := p1.fin
    obtain ⟨i, hi, rfl⟩ := Option.map_eq_some_iff.mp hc
    exact ⟨i, (p1.1.top r1).tru p1.sub hi, k _ G1 H1 (.refl p1.sub) (.bl _)⟩⟩
theorem pd_andor {k : Bool} {m n : M PyData} {G H : Hp} {ρ : Env} {ls : List PyData} {σ : L2.St} {Q : V → Hp → Prop} (p : Pd w Wx rV (andor k m n) G ρ ls σ H Q) : Pd w Wx rV (M.bind m fun x => M.bind (M.opt (truth x)) fun t => if t = k then n else M.pure x) G ρ ls σ H Q := by
  unfold andor at p
  exact p
theorem sn_and {rest : List Expr} (ha : PE X a (Tm w Wx rV ma)) (hb : PE X (.BoolOp .And (b :: rest) pos) (Tm w Wx rV mb)) :
    PE X (.BoolOp .And (a :: b :: rest) pos) (Tm w Wx rV fun ρ => andor true (ma ρ) (mb ρ)) :=
  pe_imp (pe_andT ha hb) fun σ H Q ⟨G, ρ, ls, p⟩ => ⟨G, ρ, ls, (pd_andor p).bind.imp fun x H1 ⟨G1, ls1, d1, r1, s1, p1⟩ => by
    cases e : truth d1 with
    | none => rw [e] at p1; exact p1.2.elim
    | some t =>
      rw [e] at p1
      refine ⟨t, (Top.sc r1).tru p1.sub e, ?_⟩
      have p2 : Pd w Wx rV (if t = true then mb ρ else M.pure d1) G1 ρ ls1 σ H1 Q := p1
      cases t with
      | true => rw [if_pos rfl] at p2 ⊢; exact ⟨G1, ρ, ls1, p2⟩
      | false => rw [if_neg Bool.false_ne_true] at p2 ⊢; exact p2.pure _ G1 H1 (.refl p1.sub) r1⟩
theorem sn_or {rest : List Expr} (ha : PE X a (Tm w Wx rV ma)) (hb : PE X (.BoolOp .Or (b :: rest) pos) (Tm w Wx rV mb)) :
    PE X (.BoolOp .Or (a :: b :: rest) pos) (Tm w Wx rV fun ρ => andor false (ma ρ) (mb ρ)) :=
  pe_imp (pe_orT ha hb) fun σ H Q ⟨G, ρ, ls, p⟩ => ⟨G, ρ, ls, (pd_andor p).bind.imp fun x H1 ⟨G1, ls1, d1, r1, s1, p1⟩ => by
    cases e : truth d1 with
    | none => rw [e] at p1; exact p1.2.elim
    | some t =>
      rw [e] at p1
      refine ⟨t, (Top.sc r1).tru p1.sub e, ?_⟩
      have p2 : Pd w Wx rV (if t = false then mb ρ else M.pure d1) G1 ρ ls1 σ H1 Q := p1
      cases t with
      | true => rw [if_neg (by simp)] at p2; rw [if_pos rfl]; exact p2.pure _ G1 H1 (.refl p1.sub) r1
      | false => rw [if_pos rfl] at p2; rw [if_neg Bool.false_ne_true]; exact ⟨G1, ρ, ls1, p2⟩⟩
theorem sn_one {op : BoolOp} {m : Env → M PyData} (ha : PE X a (Tm w Wx rV m)) : PE X (.BoolOp op [a] pos) (Tm w Wx rV m) := pe_one ha
theorem sn_cmp (hu : X.A.units + 200 < cLine) (op : CmpOp) (ha : PE X a (Tm w Wx rH ma)) (hb : PE X b (Tm w Wx rH mb)) (hm : behindInMarks op b = false) :
    PE X (.Compare a [op] [b] pos) (Tm w Wx rV fun ρ => M.bind (ma ρ) fun x => M.bind (mb ρ) fun y => M.opt ((cmpop op x y).map .bool)) :=
  pe_imp (pe_cmpR (op_cmpop hu op) ha hb hm) fun σ H Q ⟨G, ρ, ls, p⟩ => ⟨G, ρ, ls, p.bind.imp fun x H1 ⟨G1, ls1, d1, r1, s1, p1⟩ => ⟨G1, ρ, ls1, p1.bind.imp fun y H2 ⟨G2, ls2, d2, r2, s2, p2⟩ =>
    let ⟨c, hc, k⟩ := p2.fin; ⟨G2, d1, d2, c, p2.sub, p2.1.top (r1.mono s2), p2.1.top r2, hc, k⟩⟩⟩
theorem sn_chn (hu : X.A.units + 200 < cLine) (op op' : CmpOp) (ha : PE X a (Tm w Wx rH ma)) (hb : PE X b (Tm w Wx rH mb)) (hc : PE X c (Tm w Wx rH mc)) (hm : behindInMarks op' c = false) :
    PE X (.Compare a [op, op'] [b, c] pos) (Tm w Wx rV fun ρ => M.bind (ma ρ) fun x => M.bind (mb ρ) fun y => M.bind (M.opt (cmpop op x y)) fun k =>
      if k = true then M.bind (mc ρ) fun z => M.opt ((cmpop op' y z).map .bool) else M.pure (.bool false)) :=
  pe_imp (pe_chain (op_cmpop hu op) (op_cmpop hu op') ha hb hc hm) fun σ H Q ⟨G, ρ, ls, p⟩ => ⟨G, ρ, ls, p.bind.imp fun x H1 ⟨G1, ls1, d1, r1, s1, p1⟩ => ⟨G1, ρ, ls1, p1.bind.imp fun y H2 ⟨G2, ls2, d2, r2, s2, p2⟩ => by
    cases e : cmpop op d1 d2 with
    | none => rw [e] at p2; exact p2.2.elim
    | some k =>
      rw [e] at p2
      have p3 : Pd w Wx rV (if k = true then M.bind (mc ρ) fun z => M.opt ((cmpop op' d2 z).map .bool) else M.pure (.bool false)) G2 ρ ls2 σ H2 Q := p2
      refine ⟨G2, d1, d2, .bool k, p2.sub, p2.1.top (r1.mono s2), p2.1.top r2, by simp [toB, e], fun v G3 H3 g r => ?_⟩
      cases r
      refine ⟨k, rfl, ?_⟩
      have p4 : Pd w Wx rV (if k = true then M.bind (mc ρ) fun z => M.opt ((cmpop op' d2 z).map .bool) else M.pure (.bool false)) G3 ρ ls2 σ H3 Q := by
        refine ⟨p3.1.ext g.ext (g.st p2.sub p2.1.iw.st), ?_⟩
        have h2 := p3.2
        have sn := (g.st p2.sub p2.1.iw.st).nn
        unfold Out at h2 ⊢
        cases e2 : (if k = true then M.bind (mc ρ) fun z => M.opt ((cmpop op' d2 z).map .bool) else M.pure (.bool false) : M PyData) ls2 with
        | ok d ls' => rw [e2] at h2; exact fun v G' H' x s r => h2 v G' H' (g.ext.trans sn x) s r
        | exn x ls' => rw [e2] at h2; exact fun G' H' x s => h2 G' H' (g.ext.trans sn x) s
        | stuck => rw [e2] at h2; exact h2
      cases k with
      | true =>
        rw [if_pos rfl] at p4 ⊢
        refine ⟨G3, ρ, ls2, p4.bind.imp fun z H4 ⟨G4, ls4, d4, r4, s4, p5⟩ => ?_⟩
        obtain ⟨c', hc', k'⟩ := p5.fin
        exact ⟨G4, d2, d4, c', p5.sub, p5.1.top ((r2.mono (g.same p2.sub)).mono s4), p5.1.top r4, hc', k'⟩
      | false =>
        rw [if_neg Bool.false_ne_true] at p4 ⊢
        exact p4.pure _ G3 H3 (.refl p4.sub) (.bl _)⟩⟩
theorem sn_ite {tc : Env → M Bool} {c : Expr} (hc : PT X c (Tm w Wx rB tc)) (ha : PE X a (Tm w Wx rV ma)) (hb : PE X b (Tm w Wx rV mb)) :
    PE X (.IfExp c a b pos) (Tm w Wx rV fun ρ => M.bind (tc ρ) fun t => if t = true then ma ρ else mb ρ) :=
  pe_imp (pe_ifExp hc ha hb) fun σ H Q ⟨G, ρ, ls, p⟩ => ⟨G, ρ, ls, p.bind.imp fun x H1 ⟨G1, ls1, d1, r1, s1, p1⟩ => by
    cases r1
    cases x with
    | true => rw [if_pos rfl] at p1 ⊢; exact ⟨G1, ρ, ls1, p1⟩
    | false => rw [if_neg Bool.false_ne_true] at p1 ⊢; exact ⟨G1, ρ, ls1, p1⟩⟩
end Pv

set_option maxRecDepth 100000
set_option maxHeartbeats 1000000
/-! Tests, calls of built-ins, subscripts, displays. -/
namespace Pv
open PySem PySem.W L2
variable {X : Cx} {w : Wd} {Wx : WXt} {a b c e : Expr} {pos : Pos} {ma mb mc : Env → M PyData} {ta tb : Env → M Bool}
abbrev tst (x : PyData) : M Bool := M.opt (truth x)

/-! ### tests -/
theorem sn_truth (ha : PE X a (Tm w Wx rH ma)) (he : ∀ whole, isTrue a X.env whole = (do let v ← whole; standAt a.pos; holding [v] (truthy v))) :
    PT X a (Tm w Wx rB fun ρ => M.bind (ma ρ) tst) :=
  pt_imp (pt_truth ha he) fun σ H Q ⟨G, ρ, ls, p⟩ => ⟨G, ρ, ls, p.bind.imp fun x H1 ⟨G1, ls1, d1, r1, s1, p1⟩ => by
    obtain ⟨k, hk, q⟩ := p1.fin
    exact ⟨k, (p1.1.top r1).tru p1.sub hk, q k G1 H1 (.refl p1.sub) rfl⟩⟩
theorem pt_run {t t' : Env → M Bool} (h : PT X a (Tm w Wx rB t)) (e : ∀ ρ, t ρ = t' ρ) : PT X a (Tm w Wx rB t') := by
  have : t = t' := funext e
  subst this
  exact h
theorem andor_tst (k : Bool) (m n : M PyData) : M.bind (andor k m n) tst = M.bind (M.bind m tst) fun t => if t = k then M.bind n tst else M.pure t := by
  funext ls
  simp only [andor, M.bind, tst]
  cases m ls with
  | exn x ls' => rfl
  | stuck => rfl
  | ok x ls' =>
    cases e : truth x with
    | none => simp only [M.opt, e]; rfl
    | some t =>
      simp only [M.opt, M.pure, e]
      by_cases h : t = k
      · rw [if_pos h, if_pos h]
        rfl
      · rw [if_neg h, if_neg h]
        simp only [M.pure, e]
theorem sn_tand {rest : List Expr} (ha : PT X a (Tm w Wx rB ta)) (hb : PW X (.BoolOp .And (b :: rest) pos) (Tm w Wx rB tb)) :
    PW X (.BoolOp .And (a :: b :: rest) pos) (Tm w Wx rB fun ρ => M.bind (ta ρ) fun t => if t = true then tb ρ else M.pure t) := by
  refine ⟨fun wh pins s σ H Q I ⟨G, ρ, ls, p⟩ => (pw_and ha hb).run wh pins s σ H Q I ⟨G, ρ, ls, p.bind.imp fun x H1 ⟨G1, ls1, d1, r1, s1, p1⟩ => ?_⟩⟩
  cases r1
  cases x with
  | true => rw [if_pos rfl] at p1 ⊢; exact ⟨G1, ρ, ls1, p1⟩
  | false => rw [if_neg Bool.false_ne_true] at p1 ⊢; exact p1.pure _ G1 H1 (.refl p1.sub) rfl
theorem sn_tor {rest : List Expr} (ha : PT X a (Tm w Wx rB ta)) (hb : PW X (.BoolOp .Or (b :: rest) pos) (Tm w Wx rB tb)) :
    PW X (.BoolOp .Or (a :: b :: rest) pos) (Tm w Wx rB fun ρ => M.bind (ta ρ) fun t => if t = false then tb ρ else M.pure t) := by
  refine ⟨fun wh pins s σ H Q I ⟨G, ρ, ls, p⟩ => (pw_or ha hb).run wh pins s σ H Q I ⟨G, ρ, ls, p.bind.imp fun x H1 ⟨G1, ls1, d1, r1, s1, p1⟩ => ?_⟩⟩
  cases r1
  cases x with
  | true => rw [if_neg (by simp)] at p1; rw [if_pos rfl]; exact p1.pure _ G1 H1 (.refl p1.sub) rfl
  | false => rw [if_pos rfl] at p1; rw [if_neg Bool.false_ne_true]; exact ⟨G1, ρ, ls1, p1⟩
theorem not_tst (m : M PyData) : M.bind (M.bind m fun x => M.opt ((truth x).map fun b => PyData.bool (!b))) tst = M.bind (M.bind m tst) fun t => M.pure (!t) := by
  funext ls
  simp only [M.bind, tst]
  cases m ls with
  | exn x ls' => rfl
  | stuck => rfl
  | ok x ls' =>
    cases e : truth x <;> simp only [M.opt, M.pure, e, Option.map_none, Option.map_some] <;> rfl
theorem sn_tnot (ha : PT X a (Tm w Wx rB ta)) : PT X (.UnaryOp .Not a pos) (Tm w Wx rB fun ρ => M.bind (ta ρ) fun t => M.pure (!t)) :=
  pt_imp (pt_not ha) fun σ H Q ⟨G, ρ, ls, p⟩ => ⟨G, ρ, ls, p.bind.imp fun x H1 ⟨G1, ls1, d1, r1, s1, p1⟩ => by
    cases r1
    exact p1.pure _ G1 H1 (.refl p1.sub) rfl⟩
theorem bool_tst (m : M PyData) (o : PyData → Option Bool) : M.bind (M.bind m fun x => M.opt ((o x).map PyData.bool)) tst = M.bind m fun x => M.opt (o x) := by
  funext ls
  simp only [M.bind, tst]
  cases m ls with
  | exn x ls' => rfl
  | stuck => rfl
  | ok x ls' =>
    cases e : o x <;> simp only [M.opt, M.pure, e, Option.map_none, Option.map_some] <;> rfl
theorem sn_tcmp (hu : X.A.units + 200 < cLine) (op : CmpOp) (ha : PE X a (Tm w Wx rH ma)) (hb : PE X b (Tm w Wx rH mb)) (hm : behindInMarks op b = false) :
    PT X (.Compare a [op] [b] pos) (Tm w Wx rB fun ρ => M.bind (M.bind (ma ρ) fun x => M.bind (mb ρ) fun y => M.opt ((cmpop op x y).map .bool)) tst) :=
  pt_imp (pt_cmpR (op_cmpop hu op) ha hb hm) fun σ H Q ⟨G, ρ, ls, p⟩ => ⟨G, ρ, ls, by
    dsimp only at p
    rw [M.bind_assoc] at p
    refine p.bind.imp fun x H1 ⟨G1, ls1, d1, r1, s1, p1⟩ => ⟨G1, ρ, ls1, ?_⟩
    rw [M.bind_assoc] at p1
    refine p1.bind.imp fun y H2 ⟨G2, ls2, d2, r2, s2, p2⟩ => ?_
    cases e : cmpop op d1 d2 with
    | none => rw [e] at p2; exact p2.2.elim
    | some k =>
      rw [e] at p2
      have p3 : Pd w Wx rB (M.pure k) G2 ρ ls2 σ H2 Q := p2
      exact ⟨G2, d1, d2, .bool k, p2.sub, p2.1.top (r1.mono s2), p2.1.top r2, by simp [toB, e], fun v G' H' g r => by cases r; exact ⟨k, rfl, p3.pure k G' H' g rfl⟩⟩⟩
/-- a value that is surely a truth value, as a test of a chain -/
theorem sn_tchn (hu : X.A.units + 200 < cLine) (op op' : CmpOp) (ha : PE X a (Tm w Wx rH ma)) (hb : PE X b (Tm w Wx rH mb)) (hc : PE X c (Tm w Wx rH mc)) (hm : behindInMarks op' c = false) :
    PT X (.Compare a [op, op'] [b, c] pos) (Tm w Wx rB fun ρ => M.bind (M.bind (ma ρ) fun x => M.bind (mb ρ) fun y => M.bind (M.opt (cmpop op x y)) fun k =>
      if k = true then M.bind (mc ρ) fun z => M.opt ((cmpop op' y z).map .bool) else M.pure (.bool false)) tst) :=
  pt_imp (pt_chain (op_cmpop hu op) (op_cmpop hu op') ha hb hc hm) fun σ H Q ⟨G, ρ, ls, p⟩ => ⟨G, ρ, ls, by
    dsimp only at p
    rw [M.bind_assoc] at p
    refine p.bind.imp fun x H1 ⟨G1, ls1, d1, r1, s1, p1⟩ => ⟨G1, ρ, ls1, ?_⟩
    rw [M.bind_assoc] at p1
    refine p1.bind.imp fun y H2 ⟨G2, ls2, d2, r2, s2, p2⟩ => ?_
    cases e : cmpop op d1 d2 with
    | none => rw [e] at p2; exact p2.2.elim
    | some k =>
      rw [e] at p2
      have p3 : Pd w Wx rB (M.bind (if k = true then M.bind (mc ρ) fun z => M.opt ((cmpop op' d2 z).map .bool) else M.pure (.bool false)) tst) G2 ρ ls2 σ H2 Q := p2
      refine ⟨G2, d1, d2, .bool k, p2.sub, p2.1.top (r1.mono s2), p2.1.top r2, by simp [toB, e], fun v G3 H3 g r => ?_⟩
      cases r
      refine ⟨k, rfl, ?_⟩
      have p4 : Pd w Wx rB (M.bind (if k = true then M.bind (mc ρ) fun z => M.opt ((cmpop op' d2 z).map .bool) else M.pure (.bool false)) tst) G3 ρ ls2 σ H3 Q := by
        refine ⟨p3.1.ext g.ext (g.st p2.sub p2.1.iw.st), ?_⟩
        have h2 := p3.2
        have sn := (g.st p2.sub p2.1.iw.st).nn
        unfold Out at h2 ⊢
        cases e2 : (M.bind (if k = true then M.bind (mc ρ) fun z => M.opt ((cmpop op' d2 z).map .bool) else M.pure (.bool false)) tst) ls2 with
        | ok d ls' => rw [e2] at h2; exact fun v G' H' x s r => h2 v G' H' (g.ext.trans sn x) s r
        | exn x ls' => rw [e2] at h2; exact fun G' H' x s => h2 G' H' (g.ext.trans sn x) s
        | stuck => rw [e2] at h2; exact h2
      cases k with
      | true =>
        rw [if_pos rfl, M.bind_assoc] at p4
        rw [if_pos rfl]
        refine ⟨G3, ρ, ls2, p4.bind.imp fun z H4 ⟨G4, ls4, d4, r4, s4, p5⟩ => ?_⟩
        cases e3 : cmpop op' d2 d4 with
        | none => rw [e3] at p5; exact p5.2.elim
        | some k' =>
          rw [e3] at p5
          have p6 : Pd w Wx rB (M.pure k') G4 ρ ls4 σ H4 Q := p5
          exact ⟨G4, d2, d4, .bool k', p5.sub, p5.1.top ((r2.mono (g.same p2.sub)).mono s4), p5.1.top r4, by simp [toB, e3], fun v G' H' g' r => by cases r; exact ⟨k', rfl, p6.pure k' G' H' g' rfl⟩⟩
      | false =>
        rw [if_neg Bool.false_ne_true] at p4 ⊢
        have p5 : Pd w Wx rB (M.pure false) G3 ρ ls2 σ H3 Q := p4
        exact ⟨false, rfl, p5.pure _ G3 H3 (.refl p4.sub) rfl⟩⟩

/-! ### calls of built-ins with one argument -/
theorem star1 (h : ∀ x p, a ≠ .Starred x p) (es : List Expr) (env : PySem.Env) : starEach (a :: es) env = (false, eval a env) :: starEach es env := by
  cases a <;> first | rfl | exact absurd rfl (h _ _)
theorem sn_argH (ha : PE X a (Tm w Wx rH ma)) (hs : ∀ x p, a ≠ .Starred x p) : PA X [a] fun σ H Q => Tm w Wx rH ma σ H fun x H1 => Q [x] H1 := pa_cons ha pa_nil (star1 hs [] X.env)
theorem sn_callB {f : PyData → Option PyData} {id : String} {x : Str} {p : Pos} (hc : CallR X (.builtin id) (r1 f)) (hg : Gl X x) (hm : X.mg x = none) (hv : bootBuiltins x = some (.builtin id)) (hn : x ≠ "__name__") (hdb : (x == ("__debug__" : Str)) = false)
    (hs : ∀ x p, a ≠ .Starred x p) (ha : PE X a (Tm w Wx rH ma)) : PE X (.Call (.Name x p) [a] [] pos) (Tm w Wx rV fun ρ => M.bind (ma ρ) fun x => M.opt (f x)) :=
  pe_imp (pe_callB hc hg hm hv (sn_argH ha hs) hn hdb (star1 hs [] X.env) rfl) fun σ H Q ⟨G, ρ, ls, p⟩ => ⟨G, ρ, ls, p.bind.imp fun x H1 ⟨G1, ls1, d1, r1, s1, p1⟩ =>
    let ⟨c, hc, k⟩ := p1.fin; ⟨G1, x, d1, c, rfl, p1.sub, p1.1.top r1, hc, k⟩⟩
theorem sn_callT {f : PyData → Option PyData} {id : String} {x : Str} {p : Pos} (hc : CallR X (.type id) (r1 f)) (hg : Gl X x) (hm : X.mg x = none) (hv : bootBuiltins x = some (.type id)) (hn : x ≠ "__name__") (hdb : (x == ("__debug__" : Str)) = false)
    (hs : ∀ x p, a ≠ .Starred x p) (ha : PE X a (Tm w Wx rH ma)) : PE X (.Call (.Name x p) [a] [] pos) (Tm w Wx rV fun ρ => M.bind (ma ρ) fun x => M.opt (f x)) :=
  pe_imp (pe_callTy hc hg hm hv (sn_argH ha hs) hn hdb (star1 hs [] X.env) rfl) fun σ H Q ⟨G, ρ, ls, p⟩ => ⟨G, ρ, ls, p.bind.imp fun x H1 ⟨G1, ls1, d1, r1, s1, p1⟩ =>
    let ⟨c, hc, k⟩ := p1.fin; ⟨G1, x, d1, c, rfl, p1.sub, p1.1.top r1, hc, k⟩⟩
theorem rN_any {H G' H' : Hp} {σ σ' : L2.St} {ρ ρ' : Env} {v : V} {d : PyData} (r : rN H G' H' σ ρ v d) : rN H G' H' σ' ρ' v d := r
theorem sn_callBN {f : PyData → Option PyData} {id : String} {x : Str} {p : Pos} (hc : CallR X (.builtin id) (r1N f)) (hg : Gl X x) (hm : X.mg x = none) (hv : bootBuiltins x = some (.builtin id)) (hn : x ≠ "__name__") (hdb : (x == ("__debug__" : Str)) = false)
    (hs : ∀ x p, a ≠ .Starred x p) (ha : PE X a (Tm w Wx rH ma)) : PE X (.Call (.Name x p) [a] [] pos) (Tm w Wx rN fun ρ => M.bind (ma ρ) fun x => M.opt (f x)) :=
  pe_imp (pe_callB hc hg hm hv (sn_argH ha hs) hn hdb (star1 hs [] X.env) rfl) fun σ H Q ⟨G, ρ, ls, p⟩ => ⟨G, ρ, ls, p.bind.imp fun x H1 ⟨G1, ls1, d1, r1, s1, p1⟩ =>
    let ⟨c, hc, k⟩ := p1.fin; ⟨G1, x, d1, c, rfl, p1.sub, p1.1.top r1, hc, fun v G' H' g r => k v G' H' g (rN_any r)⟩⟩
theorem sn_callTN {f : PyData → Option PyData} {id : String} {x : Str} {p : Pos} (hc : CallR X (.type id) (r1N f)) (hg : Gl X x) (hm : X.mg x = none) (hv : bootBuiltins x = some (.type id)) (hn : x ≠ "__name__") (hdb : (x == ("__debug__" : Str)) = false)
    (hs : ∀ x p, a ≠ .Starred x p) (ha : PE X a (Tm w Wx rH ma)) : PE X (.Call (.Name x p) [a] [] pos) (Tm w Wx rN fun ρ => M.bind (ma ρ) fun x => M.opt (f x)) :=
  pe_imp (pe_callTy hc hg hm hv (sn_argH ha hs) hn hdb (star1 hs [] X.env) rfl) fun σ H Q ⟨G, ρ, ls, p⟩ => ⟨G, ρ, ls, p.bind.imp fun x H1 ⟨G1, ls1, d1, r1, s1, p1⟩ =>
    let ⟨c, hc, k⟩ := p1.fin; ⟨G1, x, d1, c, rfl, p1.sub, p1.1.top r1, hc, fun v G' H' g r => k v G' H' g (rN_any r)⟩⟩

/-! ### isinstance -/
def tyName : PyData → String
  | .none => "NoneType" | .bool _ => "bool" | .int _ => "int" | .str _ => "str" | .list _ => "list" | .tuple _ => "tuple" | .dict _ => "dict"
theorem Top.ty {K : PySem.W.Frag} {G H : Hp} {v : V} {d : PyData} (sb : Same G H) (t : Top G H v d) : TyX K H v (.type (tyName d)) := by
  cases t with
  | lst e r => exact .base (.lst e)
  | sc r => cases r with
    | non => exact .base .non
    | bl b => exact .base (.bl b)
    | int b => exact .base (.int b)
    | str b => exact .base (.str b)
    | lst e r => exact .base (.lst (sb _ _ e))
    | tup e r => exact .base (.tup (sb _ _ e))
    | dct e => exact .base (.dK (sb _ _ e))
theorem isTy_kit (t : Ty) (d : PyData) : kitB (tyName d) t.name = some (isTy t d) := by
  cases t <;> cases d <;> simp only [tyName, Ty.name, isTy] <;> decide +kernel
theorem sn_isi {t : Ty} {x y : Str} {p p2 : Pos} (hg : Gl X x) (hx : x = "isinstance") (hm : X.mg x = none) (hg2 : Gl X y) (hy : y = Str.ofString t.name) (hm2 : X.mg y = none)
    (hs : ∀ x p, a ≠ .Starred x p) (ha : PE X a (Tm w Wx rH ma)) : PE X (.Call (.Name x p) [a, .Name y p2] [] pos) (Tm w Wx rV fun ρ => M.bind (ma ρ) fun x => M.pure (.bool (isTy t x))) := by
  subst hx
  have hb : bootBuiltins y = some (.type t.name) := by subst hy; cases t <;> decide +kernel
  have hy1 : y ≠ "__name__" := by subst hy; cases t <;> decide
  have hy2 : (y == ("__debug__" : Str)) = false := by subst hy; cases t <;> decide
  have h2 : PE X (.Name y p2) (tC (.ty t.name)) := pe_bltn hg2 hm2 hb rfl hy1 hy2
  exact pe_imp (pe_callB call_isi hg hm PyProof.Rows.boot_isinstance (pa_cons ha (pa_cons h2 pa_nil) (star1 hs _ X.env)) (by decide) (by decide) (star1 hs _ X.env) rfl) fun σ H Q ⟨G, ρ, ls, p⟩ =>
    ⟨G, ρ, ls, p.bind.imp fun x H1 ⟨G1, ls1, d1, r1, s1, p1⟩ => ⟨x, .ty t.name, .type (tyName d1), .type t.name, isTy t d1, rfl, .ty _, (p1.1.top r1).ty p1.sub, kit_ty (isTy_kit t d1), p1.pure _ G1 H1 (.refl p1.sub) (.bl _)⟩⟩
theorem sn_isi2 {t u : Ty} {x y z : Str} {p p2 p3 p4 : Pos} {k : Nat} (hg : Gl X x) (hx : x = "isinstance") (hm : X.mg x = none) (hg2 : Gl X y) (hy : y = Str.ofString t.name) (hm2 : X.mg y = none) (hg3 : Gl X z) (hz : z = Str.ofString u.name) (hm3 : X.mg z = none)
    (hs : ∀ x p, a ≠ .Starred x p) (ha : PE X a (Tm w Wx rH ma)) : PE X (.Call (.Name x p) [a, .Tuple [.Name y p2, .Name z p3] k p4] [] pos) (Tm w Wx rV fun ρ => M.bind (ma ρ) fun x => M.pure (.bool (isTy t x || isTy u x))) := by
  subst hx
  have nm : ∀ (v : Ty) (n : Str), n = Str.ofString v.name → bootBuiltins n = some (.type v.name) ∧ n ≠ "__name__" ∧ (n == ("__debug__" : Str)) = false := fun v n h => by
    subst h
    cases v <;> exact ⟨by decide +kernel, by decide, by decide⟩
  obtain ⟨b1, b2, b3⟩ := nm t y hy
  obtain ⟨c1, c2, c3⟩ := nm u z hz
  have h2 : PE X (.Name y p2) (tC (.ty t.name)) := pe_bltn hg2 hm2 b1 rfl b2 b3
  have h3 : PE X (.Name z p3) (tC (.ty u.name)) := pe_bltn hg3 hm3 c1 rfl c2 c3
  exact pe_imp (pe_callB call_isiT hg hm PyProof.Rows.boot_isinstance (pa_cons ha (pa_cons (pe_tup (pa_cons h2 (pa_cons h3 pa_nil))) pa_nil) (star1 hs _ X.env)) (by decide) (by decide) (star1 hs _ X.env) rfl) fun σ H Q ⟨G, ρ, ls, p⟩ =>
    ⟨G, ρ, ls, p.bind.imp fun x H1 ⟨G1, ls1, d1, r1, s1, p1⟩ => ⟨by show 2 ≤ sizeLine; decide, fun q nq => by
      have g : Grow G1 H1 (upd G1 q (.tup [.ty t.name, .ty u.name])) (upd H1 q (.tup [.ty t.name, .ty u.name])) := .laid p1.sub nq
      have v2 := p1.1.ext g.ext (g.st p1.sub p1.1.iw.st)
      have kt : PySem.W.kitAny X.K (.type (tyName d1)) [.type t.name, .type u.name] = some (isTy t d1 || isTy u d1) := by
        refine kitAny_cons (kit_ty (isTy_kit t d1)) (fun e => ?_) (fun e => by rw [e]; rfl)
        rw [e]
        exact kitAny_cons (kit_ty (isTy_kit u d1)) (fun e2 => by rw [e2]; exact kitAny_nil) (fun e2 => by rw [e2]; rfl)
      exact ⟨x, q, [.ty t.name, .ty u.name], .type (tyName d1), [.type t.name, .type u.name], _, rfl, upd_same, .cons (.ty _) (.cons (.ty _) .nil), (v2.top (r1.mono (g.same p1.sub))).ty v2.iw.sub, kt, p1.pure _ _ _ g (.bl _)⟩⟩⟩
end Pv

set_option maxRecDepth 100000
set_option maxHeartbeats 1000000
/-! Subscripts, slices, displays, calls of the text's own defs. -/
namespace Pv
open PySem PySem.W L2
variable {X : Cx} {w : Wd} {Wx : WXt} {a b c e : Expr} {pos : Pos} {ma mb mc : Env → M PyData}
theorem plainIx (h : ∀ l u p, b ≠ .Slice l u none p) : PlainIx b := by
  intro o i
  cases b with
  | Slice l u s p => cases s with
    | none => exact absurd rfl (h l u p)
    | some _ => rfl
  | _ => rfl
theorem atI_at {xs : List PyData} {i : Int} {c : PyData} (h : atI xs i = some c) : ∃ j, ixN xs.length i = some j ∧ xs[j]? = some c := by
  unfold atI at h
  cases e : ixN xs.length i with
  | none => rw [e] at h; cases h
  | some j => rw [e] at h; exact ⟨j, rfl, h⟩
theorem atI_reps {G : Hp} {vs : List V} {ds : List PyData} {i : Int} {c : PyData} (r : Reps G vs ds) (h : atI ds i = some c) : ∃ v, atI vs i = some v ∧ Rep G v c := by
  obtain ⟨j, h1, h2⟩ := atI_at h
  obtain ⟨v, h3, h4⟩ := r.get h2
  refine ⟨v, ?_, h4⟩
  unfold atI
  rw [r.length, h1]
  exact h3
theorem rep_int {G : Hp} {y : V} {d : PyData} {i : Int} (r : Rep G y d) (h : intOf d = some i) : y = .int i := by
  cases r with
  | int j => simp only [intOf, Option.some.injEq] at h; rw [h]
  | _ => simp [intOf] at h
theorem int_bind {α : Type} {d : PyData} {f : Int → Option α} {c : α} (h : (intOf d).bind f = some c) : ∃ i, intOf d = some i ∧ f i = some c := by
  cases e : intOf d with
  | none => rw [e] at h; cases h
  | some i => rw [e] at h; exact ⟨i, rfl, h⟩
theorem sn_idx (hb' : ∀ l u p, b ≠ .Slice l u none p) (ha : PE X a (Tm w Wx rH ma)) (hb : PE X b (Tm w Wx rV mb)) :
    PE X (.Subscript a b pos) (Tm w Wx rV fun ρ => M.bind (ma ρ) fun x => M.bind (mb ρ) fun y => M.opt ((intOf y).bind fun k => index x k)) :=
  pe_imp (pe_ix ix_seq ha hb (plainIx hb')) fun σ H Q ⟨G, ρ, ls, p⟩ => ⟨G, ρ, ls, p.bind.imp fun x H1 ⟨G1, ls1, d1, r1, s1, p1⟩ => ⟨G1, ρ, ls1, p1.bind.imp fun y H2 ⟨G2, ls2, d2, r2, s2, p2⟩ => by
    obtain ⟨c, hc, k⟩ := p2.fin
    obtain ⟨i, hi, hc⟩ := int_bind hc
    obtain rfl := rep_int r2 hi
    have t := p2.1.top (r1.mono s2)
    cases t with
    | lst e r =>
      simp only [index] at hc
      obtain ⟨v, h1, h2⟩ := atI_reps r hc
      exact .inl ⟨_, _, i, v, rfl, rfl, .of e, h1, k v G2 H2 (.refl p2.sub) h2⟩
    | sc r =>
      cases r with
      | str z =>
        simp only [index, Option.ite_none_right_eq_some] at hc
        obtain ⟨h1, h2⟩ := hc
        obtain ⟨c', h3, rfl⟩ := Option.map_eq_some_iff.mp h2
        exact .inr (.inr ⟨_, i, c', rfl, rfl, h1, h3, k _ G2 H2 (.refl p2.sub) (.str _)⟩)
      | lst e r =>
        simp only [index] at hc
        obtain ⟨v, h1, h2⟩ := atI_reps r hc
        exact .inl ⟨_, _, i, v, rfl, rfl, .of (p2.sub _ _ e), h1, k v G2 H2 (.refl p2.sub) h2⟩
      | tup e r =>
        simp only [index] at hc
        obtain ⟨v, h1, h2⟩ := atI_reps r hc
        exact .inr (.inl ⟨_, _, i, v, rfl, rfl, .of (p2.sub _ _ e), h1, k v G2 H2 (.refl p2.sub) h2⟩)
      | _ => simp [index] at hc⟩⟩
/-- state[x] -/
theorem sn_sid {i : Nat} {x : Str} {p : Pos} (hN : X.N[i]? = some x) (hv : Vis X.env.scope x) (hd : (x == ("__debug__" : Str)) = false) (hcd : (x == ("__classdict__" : Str)) = false) (hb' : ∀ l u p, b ≠ .Slice l u none p) (hb : PE X b (Tm w Wx rV mb)) :
    PE X (.Subscript (.Name x p) b pos) (Tm w Wx rV fun ρ => match ρ[i]? with
      | some .st => M.bind (mb ρ) fun y => fun ls => M.opt ((intOf y).bind fun k => atI ls k) ls
      | _ => M.stuck) :=
  pe_imp (pe_ix ix_list (pe_var hN hv hd hcd) hb (plainIx hb')) fun σ H Q ⟨G, ρ, ls, p⟩ => by
    cases e : ρ[i]? with
    | none => simp only [e] at p; exact p.2.elim
    | some s =>
      cases s with
      | st =>
        simp only [e] at p
        have e1 : σ[i]? = some (some (.ref w.sa)) := p.1.sl i _ e
        refine ⟨_, e1, G, ρ, ls, p.bind.imp fun y H2 ⟨G2, ls2, d2, r2, s2, p2⟩ => ?_⟩
        have p3 : Pd w Wx rV (M.opt ((intOf d2).bind fun k => atI ls2 k)) G2 ρ ls2 σ H2 Q := ⟨p2.1, p2.2⟩
        obtain ⟨c, hc, k⟩ := p3.fin
        obtain ⟨n, hi, hc⟩ := int_bind hc
        obtain rfl := rep_int r2 hi
        obtain ⟨lv, h1, h2⟩ := p2.1.iw.st
        obtain ⟨v, h3, h4⟩ := atI_reps h2 hc
        exact ⟨_, _, n, v, rfl, rfl, .of h1, h3, k v G2 H2 (.refl p2.sub) h4⟩
      | _ => simp only [e] at p; exact p.2.elim
/-! ### slices -/
theorem Reps.cut {G : Hp} {vs : List V} {ds : List PyData} (r : Reps G vs ds) (lo hi : Option Int) : Reps G (cutV vs lo hi) (cut ds lo hi) := by
  unfold cutV Pv.cut
  rw [r.length]
  exact (r.drop _).take _
theorem cut_whole {ds : List PyData} {lo hi : Option Int} (h : HT.sIx ds.length 0 lo = 0 ∧ HT.sIx ds.length ds.length hi = ds.length) : cut ds lo hi = ds := by
  unfold cut
  rw [h.1, h.2]
  simp
theorem cutS_eq (z : Str) (lo hi : Option Int) : cutS z lo hi = ⟨(cut z.cps.toList lo hi).toArray⟩ := by
  unfold cutS cut
  simp [Str.length]
theorem sn_part {o : Option Expr} {m : Env → M (Option Int)} (h : (o = none ∧ ∀ ρ, m ρ = M.pure none) ∨ ∃ e me, o = some e ∧ PE X e (Tm w Wx rV me) ∧ ∀ ρ, m ρ = M.bind (me ρ) fun x => M.opt ((intOf x).map some)) : PO X o (Tm w Wx rO m) := by
  rcases h with ⟨rfl, hm⟩ | ⟨e, me, rfl, he, hm⟩
  · refine ⟨fun pins s σ H Q I ⟨G, ρ, ls, p⟩ => po_none.run pins s σ H Q I ?_⟩
    rw [hm] at p
    exact p.pure none G H (.refl p.sub) rfl
  · refine ⟨fun pins s σ H Q I ⟨G, ρ, ls, p⟩ => (po_some he).run pins s σ H Q I ?_⟩
    rw [hm] at p
    refine ⟨G, ρ, ls, p.bind.imp fun x H1 ⟨G1, ls1, d1, r1, s1, p1⟩ => ?_⟩
    obtain ⟨c, hc, k⟩ := p1.fin
    obtain ⟨i, hi, rfl⟩ := Option.map_eq_some_iff.mp hc
    cases r1 <;> simp only [intOf, reduceCtorEq, Option.some.injEq] at hi
    subst hi
    exact ⟨_, rfl, k _ G1 H1 (.refl p1.sub) rfl⟩
theorem sn_slc {lo hi : Option Expr} {p2 : Pos} {ml mh : Env → M (Option Int)} (ha : PE X a (Tm w Wx rH ma)) (hl : PO X lo (Tm w Wx rO ml)) (hh : PO X hi (Tm w Wx rO mh)) :
    PE X (.Subscript a (.Slice lo hi none p2) pos) (Tm w Wx rV fun ρ => M.bind (ma ρ) fun x => M.bind (ml ρ) fun l => M.bind (mh ρ) fun h => M.opt (slice x l h)) :=
  pe_imp (pe_slice (sl_list.or (sl_tupA.or sl_str)) ha hl hh) fun σ H Q ⟨G, ρ, ls, p⟩ => ⟨G, ρ, ls, p.bind.imp fun x H1 ⟨G1, ls1, d1, r1, s1, p1⟩ => ⟨G1, ρ, ls1, p1.bind.imp fun l H2 ⟨G2, ls2, l', r2, s2, p2⟩ => by
    cases r2
    refine ⟨G2, ρ, ls2, p2.bind.imp fun u H3 ⟨G3, ls3, u', r3, s3, p3⟩ => ?_⟩
    cases r3
    obtain ⟨c, hc, k⟩ := p3.fin
    have t := p3.1.top ((r1.mono s2).mono s3)
    cases t with
    | lst e r =>
      simp only [slice, Option.some.injEq] at hc
      subst hc
      exact .inl ⟨_, _, rfl, .of e, fun q nq => k _ _ _ (.laid p3.sub nq) (.lst upd_same ((r.cut l u).mono ((Grow.laid (o := .lst _) p3.sub nq).same p3.sub)))⟩
    | sc r =>
      cases r with
      | str z =>
        simp only [slice, Option.ite_none_right_eq_some, Option.some.injEq] at hc
        obtain ⟨h1, rfl⟩ := hc
        exact .inr (.inr ⟨_, rfl, h1, by rw [cutS_eq]; exact k _ G3 H3 (.refl p3.sub) (.str _)⟩)
      | lst e r =>
        simp only [slice, Option.some.injEq] at hc
        subst hc
        exact .inl ⟨_, _, rfl, .of (p3.sub _ _ e), fun q nq => k _ _ _ (.laid p3.sub nq) (.lst upd_same ((r.cut l u).mono ((Grow.laid (o := .lst _) p3.sub nq).same p3.sub)))⟩
      | tup e r =>
        simp only [slice, Option.some.injEq] at hc
        subst hc
        refine .inr (.inl ⟨_, _, rfl, .of (p3.sub _ _ e), fun hw => ?_, fun _ q nq => k _ _ _ (.laid p3.sub nq) (.tup upd_same ((r.cut l u).mono ((Grow.laid (o := .tup _) p3.sub nq).same p3.sub)))⟩)
        rw [r.length] at hw
        rw [cut_whole hw] at k
        exact k _ G3 H3 (.refl p3.sub) (.tup e r)
      | _ => simp [slice] at hc⟩⟩

/-! ### displays -/
theorem sn_nil : PA X [] (Tm w Wx rVs fun _ => M.pure []) := pa_imp pa_nil fun σ H Q ⟨G, ρ, ls, p⟩ => p.pure [] G H (.refl p.sub) .nil
theorem sn_cons {es : List Expr} {me : Env → M PyData} {ms : Env → M (List PyData)} (hs : ∀ x p, e ≠ .Starred x p) (he : PE X e (Tm w Wx rV me)) (hes : PA X es (Tm w Wx rVs ms)) :
    PA X (e :: es) (Tm w Wx rVs fun ρ => M.bind (me ρ) fun x => M.bind (ms ρ) fun xs => M.pure (x :: xs)) :=
  pa_imp (pa_cons he hes (star1 hs es X.env)) fun σ H Q ⟨G, ρ, ls, p⟩ => ⟨G, ρ, ls, p.bind.imp fun x H1 ⟨G1, ls1, d1, r1, s1, p1⟩ => ⟨G1, ρ, ls1, p1.bind.imp fun xs H2 ⟨G2, ls2, ds2, r2, s2, p2⟩ =>
    p2.pure _ G2 H2 (.refl p2.sub) (.cons (r1.mono s2) r2)⟩⟩
theorem few_line {n : Nat} (h : n ≤ 1000) : n ≤ sizeLine := Nat.le_of_lt (small1000 h)
theorem sn_tup {es : List Expr} {k : Nat} {ms : Env → M (List PyData)} (h : PA X es (Tm w Wx rVs ms)) (hl : ∀ ρ ls ds ls', ms ρ ls = .ok ds ls' → ds.length ≤ 1000) : PE X (.Tuple es k pos) (Tm w Wx rV fun ρ => M.bind (ms ρ) fun xs => M.pure (.tuple xs)) :=
  pe_imp (pe_tup h) fun σ H Q ⟨G, ρ, ls, p⟩ => ⟨G, ρ, ls, p.1, by
    have h2 := (p.bind (rel := rVs)).2
    unfold Out at h2 ⊢
    cases e : ms ρ ls with
    | ok ds ls' =>
      rw [e] at h2
      intro xs G1 H1 x s r
      obtain ⟨G2, ls2, d2, r2, s2, p2⟩ := h2 xs G1 H1 x s r
      refine ⟨few_line (by rw [r.length]; exact hl ρ ls ds ls' e), fun q nq => p2.pure _ _ _ (.laid p2.sub nq) (.tup upd_same (r2.mono ((Grow.laid (o := .tup xs) p2.sub nq).same p2.sub)))⟩
    | exn z ls' => rw [e] at h2; exact h2
    | stuck => rw [e] at h2; exact h2⟩
theorem sn_lst {es : List Expr} {ms : Env → M (List PyData)} (h : PA X es (Tm w Wx rVs ms)) (hl : ∀ ρ ls ds ls', ms ρ ls = .ok ds ls' → ds.length ≤ 1000) : PE X (.List es pos) (Tm w Wx rN fun ρ => M.bind (ms ρ) fun xs => M.pure (.list xs)) :=
  pe_imp (pe_lst h) fun σ H Q ⟨G, ρ, ls, p⟩ => ⟨G, ρ, ls, p.1, by
    have h2 := (p.bind (rel := rVs)).2
    unfold Out at h2 ⊢
    cases e : ms ρ ls with
    | ok ds ls' =>
      rw [e] at h2
      intro xs G1 H1 x s r
      obtain ⟨G2, ls2, d2, r2, s2, p2⟩ := h2 xs G1 H1 x s r
      exact ⟨few_line (by rw [r.length]; exact hl ρ ls ds ls' e), fun q nq => p2.pure _ G2 _ (.own p2.sub nq) (new_own p2.sub nq r2)⟩
    | exn z ls' => rw [e] at h2; exact h2
    | stuck => rw [e] at h2; exact h2⟩
/-- {} -/
theorem sn_dct : PE X (.Dict [] [] pos) (Tm w Wx rV fun _ => M.pure (.dict [])) :=
  pe_imp pe_dnewK fun σ H Q ⟨G, ρ, ls, p⟩ => fun q nq => p.pure _ _ _ (.laid p.sub nq) (.dct upd_same)

/-! ### two whole numbers: max, min -/
theorem sn_f2 {f : F2} {x : Str} {p : Pos} (hcalm : X.calm = true) (hu : X.A.units + 200 < cLine) (hg : Gl X x) (hx : x = (match f with | .min => "min" | .max => "max")) (hm : X.mg x = none) (hs : ∀ x p, a ≠ .Starred x p) (hs2 : ∀ x p, b ≠ .Starred x p) (ha : PE X a (Tm w Wx rV ma)) (hb : PE X b (Tm w Wx rV mb)) :
    PE X (.Call (.Name x p) [a, b] [] pos) (Tm w Wx rV fun ρ => M.bind (ma ρ) fun x => M.bind (mb ρ) fun y => M.opt (f2 f x y)) := by
  have hp : PA X [a, b] _ := pa_cons ha (pa_cons hb pa_nil (star1 hs2 [] X.env)) (star1 hs [b] X.env)
  have hpl : (backTo pos (starEach [b] X.env)).any (·.1) = false := by rw [star1 hs2 [] X.env]; rfl
  cases f with
  | min =>
    subst hx
    exact pe_imp (pe_callB (call_min2 hcalm) hg hm (by decide +kernel) hp (by decide) (by decide) (star1 hs [b] X.env) hpl) fun σ H Q ⟨G, ρ, ls, p⟩ => ⟨G, ρ, ls, p.bind.imp fun x H1 ⟨G1, ls1, d1, r1, s1, p1⟩ => ⟨G1, ρ, ls1, p1.bind.imp fun y H2 ⟨G2, ls2, d2, r2, s2, p2⟩ => by
      obtain ⟨c, hc, k⟩ := p2.fin
      cases r1 <;> cases r2 <;> simp only [f2, reduceCtorEq, Option.some.injEq] at hc
      subst hc
      exact ⟨_, _, rfl, k _ G2 H2 (.refl p2.sub) (.int _)⟩⟩⟩
  | max =>
    subst hx
    exact pe_imp (pe_callB (call_max2D hcalm hu) hg hm (by decide +kernel) hp (by decide) (by decide) (star1 hs [b] X.env) hpl) fun σ H Q ⟨G, ρ, ls, p⟩ => ⟨G, ρ, ls, p.bind.imp fun x H1 ⟨G1, ls1, d1, r1, s1, p1⟩ => ⟨G1, ρ, ls1, p1.bind.imp fun y H2 ⟨G2, ls2, d2, r2, s2, p2⟩ => by
      obtain ⟨c, hc, k⟩ := p2.fin
      exact ⟨G2, _, _, d1, d2, c, rfl, p2.sub, r1.mono s2, r2, hc, k⟩⟩⟩
/-- a.count(b) -/
theorem sn_cnt {ap cp : Pos} (hs : ∀ x p, b ≠ .Starred x p) (hbase : attributeBase a "count" X.env (eval a X.env) = eval a X.env) (hl : (ap.endLine == cp.line) = true) (ha : PE X a (Tm w Wx rH ma)) (hb : PE X b (Tm w Wx rV mb)) :
    PE X (.Call (.Attribute a "count" ap) [b] [] cp) (Tm w Wx rV fun ρ => M.bind (ma ρ) fun x => M.bind (M.guard (isL x)) fun _ => M.bind (mb ρ) fun y => M.opt (cntOf x y)) :=
  pe_imp (pe_bm PySem.F.plainAttrs_list PySem.F.slot_list_count PySem.F.type_list_count mt_lcount ha (pa_cons hb pa_nil (star1 hs [] X.env)) hbase (by rw [star1 hs [] X.env]; rfl) hl (star1 hs [] X.env) (by rfl)) fun σ H Q ⟨G, ρ, ls, p⟩ => ⟨G, ρ, ls, p.bind.imp fun x H1 ⟨G1, ls1, d1, r1, s1, p1⟩ => by
    cases hl : isL d1 with
    | false => rw [hl] at p1; exact (show Pd w Wx rV (M.bind M.stuck _) G1 ρ ls1 σ H1 Q from p1).2.elim
    | true =>
      rw [hl] at p1
      have p1 : Pd w Wx rV (M.bind (mb ρ) fun y => M.opt (cntOf d1 y)) G1 ρ ls1 σ H1 Q := p1
      have ⟨xs, e⟩ : ∃ xs, d1 = .list xs := by cases d1 <;> first | exact ⟨_, rfl⟩ | cases hl
      subst e
      cases (p1.1.top r1).sq p1.sub (show seqOf (.list xs) = some xs from rfl) with
      | t q vs ex e r eg =>
        exfalso
        cases p1.1.top r1 with
        | lst e2 _ => cases ex; rw [e2] at e; cases e
        | sc r2 => cases r2 with | lst e2 _ => cases ex; rw [p1.sub _ _ e2] at e; cases e
      | l q vs ex e r =>
        subst ex
        refine ⟨.inl ⟨rfl, _, .of e⟩, G1, ρ, ls1, p1.bind.imp fun y H2 ⟨G2, ls2, d2, r2, s2, p2⟩ => ?_⟩
        obtain ⟨c, hc, k⟩ := p2.fin
        cases d2 with
        | int i =>
          simp only [cntOf] at hc
          obtain ⟨ns, h1, rfl⟩ := Option.map_eq_some_iff.mp hc
          cases r2
          cases (p2.1.top (r1.mono s2)).sq p2.sub (show seqOf (.list xs) = some xs from rfl) with
          | t q' vs ex e r eg =>
            exfalso
            cases p2.1.top (r1.mono s2) with
            | lst e2 _ => cases ex; rw [e2] at e; cases e
            | sc r2 => cases r2 with | lst e2 _ => cases ex; rw [p2.sub _ _ e2] at e; cases e
          | l q' vs' ex' e' r' =>
            cases ex'
            have := Reps.ints r' h1
            subst this
            exact ⟨q, ns, i, rfl, rfl, .of e', k _ G2 H2 (.refl p2.sub) (.int _)⟩
        | _ => simp [cntOf] at hc⟩
end Pv

set_option maxRecDepth 100000
set_option maxHeartbeats 1000000
/-! x[::-1] of a list, a tuple, a text; sep.join. -/
namespace Pv
open PySem PySem.W L2
variable {X : Cx} {w : Wd} {Wx : WXt} {a b c e : Expr} {pos : Pos} {ma mb mc : Env → M PyData}
section
variable {prog : Program} {w : World} {A : Around} {E : Value → Shared → Prop} {s : Shared}
theorem sliceApplied_rev {sl : Addr} {vs : Value} {n : Nat} {Q : Int × Int × Nat → Shared → Prop} (hs : s.heap.IsSliceOf sl .none .none vs) (pv : IsPart vs (some (-1)))
    (h : Q ((n : Int) - 1, -1, n) s) : wpAny (model prog w) A (Builtin.Slice.sliceApplied (.ref sl) (pure (n : Int))) Q E s := by
  obtain ⟨os, hos, hcs, hds⟩ := id hs
  unfold Builtin.Slice.sliceApplied Builtin.Slice.sliceFields
  refine wpAny_bind (wpAny_bind (wpAny_field hos hds (x := .none) rfl (wpAny_bind (wpAny_field hos hds (x := .none) rfl (wpAny_bind (wpAny_field hos hds (x := vs) rfl (wpAny_pure ?_)))))))
  refine wpAny_bind (HT.slicePart_ pv ?_)
  show wpAny _ _ (if ((-1 : Int) == 0) = true then _ else _) _ _ s
  rw [if_neg (by decide)]
  refine wpAny_bind (HT.slicePart_ .none (wpAny_bind (HT.slicePart_ .none (wpAny_bind (wpAny_pure ?_)))))
  show wpAny _ _ (pure ((n : Int) - 1, (-1 : Int), Builtin.Slice.slicePlaces ((n : Int) - 1) (-1) (-1))) _ _ s
  have e : Builtin.Slice.slicePlaces ((n : Int) - 1) (-1) (-1) = n := by
    unfold Builtin.Slice.slicePlaces
    rw [if_neg (by decide)]
    have e1 : (-(-1) : Int) = 1 := by decide
    by_cases h : (n : Int) - 1 > -1
    · rw [if_pos h, e1, Int.ediv_one]
      omega
    · rw [if_neg h]
      omega
  rw [e]
  exact wpAny_pure h
theorem pick_rev (xs : Array Value) : ((List.range xs.size).filterMap fun (m : Nat) => xs[(((xs.size : Int) - 1) + (m : Int) * -1).toNat]?).toArray = xs.toList.reverse.toArray := by
  have e : (fun (m : Nat) => xs[(((xs.size : Int) - 1) + (m : Int) * -1).toNat]?) = fun m => xs[xs.size - 1 - m]? := by
    funext m
    have : (((xs.size : Int) - 1) + (m : Int) * -1).toNat = xs.size - 1 - m := by omega
    rw [this]
  rw [e]
  congr 1
  apply List.ext_getElem?
  intro i
  have hall : (List.range xs.size).filterMap (fun m => xs[xs.size - 1 - m]?) = (List.range xs.size).map fun m => xs.getD (xs.size - 1 - m) .none := by
    have : ∀ l : List Nat, (∀ m ∈ l, m < xs.size) → l.filterMap (fun m => xs[xs.size - 1 - m]?) = l.map fun m => xs.getD (xs.size - 1 - m) .none := by
      intro l
      induction l with
      | nil => intro _; rfl
      | cons m r ih =>
        intro h
        have hm : m < xs.size := h m List.mem_cons_self
        have hm2 : xs.size - 1 - m < xs.size := by omega
        rw [List.filterMap_cons, List.map_cons, ih fun j hj => h j (List.mem_cons_of_mem _ hj)]
        have : xs[xs.size - 1 - m]? = some (xs.getD (xs.size - 1 - m) .none) := by simp [Array.getD, hm2]
        rw [this]
    exact this _ fun m hm => List.mem_range.mp hm
  rw [hall]
  by_cases hi : i < xs.size
  · rw [List.getElem?_map, List.getElem?_range hi, List.getElem?_reverse (by simpa using hi)]
    have hm2 : xs.size - 1 - i < xs.size := by omega
    simp [Array.getD, hm2]
  · rw [List.getElem?_eq_none (by simpa using Nat.le_of_not_lt hi), List.getElem?_eq_none (by simpa using Nat.le_of_not_lt hi)]
theorem getItem_tuple_rev {t sl : Addr} {items : Array Value} {vs : Value} {Q : Value → Shared → Prop} (ht : PyProof.Rows.IsTup s.heap t items) (hs : s.heap.IsSliceOf sl .none .none vs) (pv : IsPart vs (some (-1)))
    (h : Q (.ref s.heap.objs.size) { s with heap := s.heap.push { cls := .type "tuple", data := .seq items.toList.reverse.toArray } })
    (hsz : items.size ≤ sizeLine) : wpAny (model prog w) A (getItem (.ref t) (.ref sl)) Q E s := by
  have htake : sizeOk (.seq items.toList.reverse.toArray) := by
    show items.toList.reverse.toArray.size ≤ sizeLine
    rw [List.size_toArray, List.length_reverse, Array.length_toList]
    exact hsz
  obtain ⟨os, hos, hcs, hds⟩ := id hs
  have hTs : s.TypeIs (.ref sl) "slice" := ⟨os, hos, hcs⟩
  unfold getItem
  try with_reducible refine wpAny_holding ?_
  first | refine wpAny_bind (wpAny_pure ?_) | skip
  refine wpAny_bind (wpAny_sequenceKey ht.typeIs (by decide) ?_)
  refine wpAny_bind (wpAny_callSpecial?_slot (name := Str.ofString "__getitem__") ht.typeIs PyProof.Rows.slot_tuple_getitem
    (wpAny_call_entry PyProof.Rows.slot_tuple_getitem ht.typeIs PyProof.Rows.entry_tuple_getitem ?_ (PyProof.Rows.args_tuple_getitem _ _)))
  show wpAny _ _ (Builtin.Tuple.tupleItemsOf (.ref t) >>= _) _ _ s
  refine wpAny_bind (PyProof.Rows.tupleItemsOf_ ht ?_)
  refine wpAny_bind (wpAny_typeOf hTs ?_)
  rw [if_pos (by decide)]
  refine wpAny_bind (sliceApplied_rev hs pv ?_)
  have hno : ¬ ((((items.size : Int) - 1) == 0 && (-1 : Int) == 1 && items.size == items.size) = true) := by
    have e : ((-1 : Int) == 1) = false := by decide
    rw [e, Bool.and_false, Bool.false_and]
    exact Bool.false_ne_true
  show wpAny _ _ (if (((items.size : Int) - 1) == 0 && (-1 : Int) == 1 && items.size == items.size) = true then _ else _) _ _ s
  rw [if_neg hno, pick_rev]
  first
    | exact wpAny_bind (m := Builtin.Tuple.tupleExact _) (wpAny_newObj_type (wpAny_pure ⟨_, rfl, wpAny_pure h⟩) htake)
    | exact wpAny_bind (m := Builtin.Tuple.tupleExact _) (wpAny_newObj_type (wpAny_bind (wpAny_pure (wpAny_pure ⟨_, rfl, wpAny_pure h⟩))) htake)
    | exact wpAny_bind (wpAny_bind (m := Builtin.Tuple.tupleExact _) (wpAny_newObj_type (wpAny_pure (wpAny_pure ⟨_, rfl, wpAny_pure h⟩)) htake))
    | exact wpAny_bind (wpAny_bind (m := Builtin.Tuple.tupleExact _) (wpAny_newObj_type (wpAny_pure ⟨_, rfl, wpAny_pure h⟩) htake))
theorem picked_rev_str (x : Str) : ((Builtin.Str.strSliceIndices none none (-1) x.length).filterMap (x.cps[·]?)) = x.cps.toList.reverse := by
  rw [PyProof.Rows.picked_rev]
  apply List.ext_getElem?
  intro i
  have hall : ((List.range x.length).map fun k => x.length - 1 - k).filterMap (fun j => x.cps[j]?) = (List.range x.length).map fun m => x.cps.getD (x.length - 1 - m) 0 := by
    rw [PyProof.Rows.filterMap_get x.cps _ (fun j hj => by
      obtain ⟨k, hk, rfl⟩ := List.mem_map.mp hj
      have := List.mem_range.mp hk
      show x.length - 1 - k < x.length
      omega), List.map_map]
    rfl
  rw [hall]
  by_cases hi : i < x.cps.size
  · have hi' : i < x.length := hi
    rw [List.getElem?_map, List.getElem?_range hi', List.getElem?_reverse (by simpa using hi)]
    have hm2 : x.cps.size - 1 - i < x.cps.size := by omega
    simp [Array.getD, hm2, Str.length]
  · have hi' : ¬ i < x.length := hi
    rw [List.getElem?_eq_none (by simpa using Nat.le_of_not_lt hi'), List.getElem?_eq_none (by simpa using Nat.le_of_not_lt hi)]
end
theorem sn_rev {k : Nat} {p1 p2 p3 : Pos} (ha : PE X a (Tm w Wx rH ma)) : PE X (.Subscript a (.Slice none none (some (.UnaryOp .USub (.Constant (.int 1) k p1) p2)) p3) pos) (Tm w Wx rV fun ρ => M.bind (ma ρ) fun x => M.opt (reversed x)) := by
  refine ⟨fun pins s σ H Q I ⟨G, ρ, ls, p⟩ => ?_⟩
  refine PyProof.Rows.Subscript_ (thn (ha.run pins s σ H _ I ⟨G, ρ, ls, p.bind⟩) fun v s1 ⟨x, H1, I1, r1, q1⟩ => ?_)
  obtain ⟨G1, ls1, d1, hd, s1', p1'⟩ := q1
  obtain ⟨c, hc, kq⟩ := p1'.fin
  have t := p1'.1.top hd
  have sb := p1'.sub
  clear p1' hd
  have hst : PO X (some (.UnaryOp .USub (.Constant (.int 1) k p1) p2)) (tPart (tUn (rU fun i => .int (-i)) (tC (.int 1)))) := po_some (pe_un un_neg pe_int)
  refine wpAny_Slice (thn (po_none.run pins s1 σ H1 (fun o H2 => o = none ∧ H2 = H1) I1 ⟨rfl, rfl⟩) fun vl s2 ⟨l, H2, I2, pl, el, e2⟩ => ?_)
  subst el e2
  refine thn (po_none.run pins s2 σ H2 (fun o H3 => o = none ∧ H3 = H2) I2 ⟨rfl, rfl⟩) fun vu s3 ⟨u, H3, I3, pu, eu, e3⟩ => ?_
  subst eu e3
  refine thn (hst.run pins s3 σ H3 (fun o H4 => o = some (-1) ∧ H4 = H3) I3 ⟨1, rfl, -1, rfl, rfl, rfl⟩) fun vs s4 ⟨o, H4, I4, ps, eo, e4⟩ => ?_
  subst eo e4
  have I5 : L2.Inv X pins σ H4 { s4 with heap := s4.heap.push { cls := .type "slice", data := .fields #[vl, vu, vs] } } := I4.kept (t' := s4.toks) fun b ob q => Heap.get?_push_of_some _ q
  have np : H4 (s4.heap.push { cls := .type "slice", data := .fields #[vl, vu, vs] }).objs.size = none := I5.hok.fresh (Nat.le_refl _)
  have evl : vl = .none := by cases pl; rfl
  have evu : vu = .none := by cases pu; rfl
  subst evl evu
  have lists : ∀ (q : Addr) (xs : List V) (ds : List PyData), v = .ref q → c = .list ds.reverse → H4 q = some (.lst xs) → Reps G1 xs ds →
      wpAny (model X.prog X.w) X.A (PyProof.Rows.subscriptTail a (.Slice none none (some (.UnaryOp .USub (.Constant (.int 1) k p1) p2)) p3) v (.ref s4.heap.objs.size)) (EP X pins σ Q) X.xe { s4 with heap := s4.heap.push { cls := .type "slice", data := .fields #[.none, .none, vs] } } := by
    intro q xs ds ev ec hx r
    subst ev ec
    obtain ⟨its, rv, ht, hz⟩ := I5.list (.of hx)
    have hlen := rv.length
    refine PyProof.Rows.tail_any (ops := [.ref q, .ref s4.heap.objs.size]) ht.isList.typeIs (PySem.slot_list_getitem.lookup) ?_ (by with_unfolding_all rfl)
    refine wpAny_getItem_list_slice ht.isList (Heap.IsSliceOf.new _ _ _ vs) .none .none ps (by decide) ?_ (by rw [List.size_toArray]; omega)
    rw [PySem.W.krv_pick]
    refine ⟨.ref _, _, I5.laid (t' := s4.toks) (o := .lst xs.reverse) (fun b ob q => Heap.get?_push_of_some _ q) (Nat.le_refl _) ?_, rfl, kq _ _ _ (.laid sb np) (.lst upd_same (r.reverse.mono ((Grow.laid (o := .lst _) sb np).same sb)))⟩
    exact ⟨by rw [List.length_reverse]; exact hz, _, 0, rv.reverse, Heap.get?_push_size _ rfl⟩
  cases t with
  | lst e r =>
    cases r1
    simp only [reversed, Option.some.injEq] at hc
    exact lists _ _ _ rfl hc.symm e r
  | sc r =>
    cases r with
    | lst e r =>
      cases r1
      simp only [reversed, Option.some.injEq] at hc
      exact lists _ _ _ rfl hc.symm (sb _ _ e) r
    | tup e r =>
      cases r1
      simp only [reversed, Option.some.injEq] at hc
      subst hc
      obtain ⟨its, rv, ht, hz⟩ := I5.tuple (.of (sb _ _ e))
      have hlen := rv.length
      refine PyProof.Rows.tail_any (ops := [.ref _, .ref s4.heap.objs.size]) ht.typeIs (PyProof.Rows.slot_tuple_getitem.lookup) ?_ (by with_unfolding_all rfl)
      refine getItem_tuple_rev ht (Heap.IsSliceOf.new _ _ _ vs) ps ?_ (by rw [List.size_toArray]; omega)
      refine ⟨.ref _, _, I5.laid (t' := s4.toks) (o := .tup _) (fun b ob q => Heap.get?_push_of_some _ q) (Nat.le_refl _) ?_, rfl, kq _ _ _ (.laid sb np) (.tup upd_same (r.reverse.mono ((Grow.laid (o := .tup _) sb np).same sb)))⟩
      exact ⟨by rw [List.length_reverse]; exact hz, its.reverse, rv.reverse, PyProof.Rows.IsTup.new _ _⟩
    | str z =>
      obtain ⟨tk, rfl⟩ := r1
      simp only [reversed, Option.ite_none_right_eq_some, Option.some.injEq] at hc
      obtain ⟨hz, rfl⟩ := hc
      obtain ⟨st, est, est2⟩ := IsPart.raw ps
      refine PyProof.Rows.tail_any (ops := [.str z tk, .ref s4.heap.objs.size]) (typeIs_str _ _ _) (F.slot_str_getitem.lookup) ?_ (by with_unfolding_all rfl)
      refine wpAny_getItem_str_slice (l := none) (u := none) (st := st) ⟨_, Heap.get?_push_size _ rfl, rfl, by rw [est]; rfl⟩ (by rw [est2]; rfl) ?_
      unfold sliceMade slicePicked
      rw [est2]
      show Made.post (if ((-1 : Int) == 1 && (Builtin.Str.strSliceIndices none none (-1) z.length).length == z.length) = true then Made.val (.str z tk) else Made.str ⟨((Builtin.Str.strSliceIndices none none (-1) z.length).filterMap (z.cps[·]?)).toArray⟩) (EP X pins σ Q) _
      have e1 : ((-1 : Int) == 1) = false := by decide
      rw [e1, Bool.false_and, if_neg Bool.false_ne_true, picked_rev_str]
      refine ⟨?_, .str _, H4, I5.tok _, ⟨_, rfl⟩, kq _ G1 H4 (.refl sb) (.str _)⟩
      show z.cps.toList.reverse.toArray.size ≤ sizeLine
      rw [List.size_toArray, List.length_reverse, Array.length_toList]
      exact hz
    | _ => simp [reversed] at hc
theorem strsOf_reps {G : Hp} : ∀ {vs : List V} {ds : List PyData} {ss : List Str}, Reps G vs ds → strsOf ds = some ss → vs = ss.map V.str
  | _, _, _, .nil, e => by simp only [strsOf, Option.some.injEq] at e; subst e; rfl
  | _, _, _, .cons r t, e => by
    cases r <;> simp only [strsOf, Option.map_eq_some_iff, reduceCtorEq] at e
    obtain ⟨a, h1, rfl⟩ := e
    rw [strsOf_reps t h1]
    rfl
/-- "".join(a) -/
theorem sn_join {k : Nat} {p1 p2 : Pos} (hs : ∀ x p, a ≠ .Starred x p) (hline : (p2.endLine == pos.line) = true) (ha : PE X a (Tm w Wx rH ma)) : PE X (.Call (.Attribute (.Constant (.str ⟨#[]⟩) k p1) "join" p2) [a] [] pos) (Tm w Wx rV fun ρ => M.bind (ma ρ) fun x => M.opt (f1 .join x)) :=
  pe_imp (pe_join pe_str ha (star1 hs [] X.env) rfl hline) fun σ H Q ⟨G, ρ, ls, p⟩ => ⟨⟨_, rfl⟩, G, ρ, ls, p.bind.imp fun x H1 ⟨G1, ls1, d1, r1, s1, p1⟩ => by
    obtain ⟨c, hc, kq⟩ := p1.fin
    obtain ⟨ds, h1, h2⟩ := seq_cases (ds := []) hc
    cases e : strsOf ds with
    | none => rw [e] at h2; cases h2
    | some ss =>
      rw [e] at h2
      simp only [Option.bind_some, Option.ite_none_right_eq_some, Option.some.injEq] at h2
      obtain ⟨hz, rfl⟩ := h2
      cases (p1.1.top r1).sq p1.sub h1 with
      | l q vs ex eh r =>
        subst ex
        have ev := strsOf_reps r e
        subst ev
        exact ⟨_, q, ss, rfl, rfl, .inl (.of eh), hz, kq _ G1 H1 (.refl p1.sub) (.str _)⟩
      | t q vs ex eh r eg =>
        subst ex
        have ev := strsOf_reps r e
        subst ev
        exact ⟨_, q, ss, rfl, rfl, .inr (.of eh), hz, kq _ G1 H1 (.refl p1.sub) (.str _)⟩⟩
end Pv

set_option maxRecDepth 100000
set_option maxHeartbeats 1000000
/-! What loops walk; targets; comprehensions. -/
namespace Pv
open PySem PySem.W L2
variable {X : Cx} {w : Wd} {Wx : WXt} {a b c e tg : Expr} {pos : Pos} {ma mb mc : Env → M PyData}
/-- while Gd holds, J gives the data ds one after another -/
structure Src (Gd : Hp → Hp → Prop) (J : L2.It) (ds : List PyData) : Prop where
  len : ds.length ≤ sizeLine
  go : ∀ i G H, Gd G H → i < ds.length → J.go i H
  stop : ∀ G H, Gd G H → J.stop ds.length H
  yld : ∀ i G H x H' d, Gd G H → ds[i]? = some d → J.yld i H x H' → ∃ G', Grow G H G' H' ∧ Rep G' x d
theorem Src.imp {Gd Gd' : Hp → Hp → Prop} {J : L2.It} {ds : List PyData} (s : Src Gd J ds) (h : ∀ G H, Gd' G H → Gd G H) : Src Gd' J ds :=
  ⟨s.len, fun i G H g => s.go i G H (h G H g), fun G H g => s.stop G H (h G H g), fun i G H x H' d g => s.yld i G H x H' d (h G H g)⟩
/-- a thing that is never changed, walked; an own one, while the body's names are as they are -/
abbrev rIt : Rl L2.It (List PyData) := fun _ G _ _ _ J ds => Src (fun G2 H2 => Same G G2 ∧ Same G2 H2) J ds
abbrev rIb (w : Wd) : Rl L2.It (List PyData) := fun _ G _ σ ρ J ds => Src (fun G2 H2 => Same G G2 ∧ ∃ ls, IV w G2 H2 σ ρ ls) J ds
instance : Am rIt := ⟨fun _ r => r⟩
instance : Am (rIb w) := ⟨fun _ r => r⟩
theorem pi_imp {iter : Expr} {t t' : TI} (h : PI X tg iter t) (k : ∀ σ H R, t' σ H R → t σ H R) : PI X tg iter t' := ⟨fun pins s σ H R I hw => h.run pins s σ H R I (k σ H R hw)⟩
theorem it_held {iter : Expr} {m : Env → M (List PyData)} (h : PI X tg iter (Tm w Wx rIt m)) : PI X tg iter (Tm w Wx (rIb w) m) := pi_imp h fun σ H Q ⟨G, ρ, ls, p⟩ => by
  refine ⟨G, ρ, ls, p.1, ?_⟩
  have h2 := p.2
  unfold Out at h2 ⊢
  cases e : m ρ ls with
  | ok d ls' => rw [e] at h2; exact fun v G' H' x s r => h2 v G' H' x s (r.imp fun G2 H2 ⟨s1, ls2, i⟩ => ⟨s1, i.iw.sub⟩)
  | exn x ls' => rw [e] at h2; exact h2
  | stuck => rw [e] at h2; exact h2
def iSeq (K : PySem.W.Frag) (tl : TE) : TI := fun σ H R => tl σ H fun x H1 => ∃ a, x = .ref a ∧ ((∃ xs, SqL K H1 a xs ∧ (xs.length ≤ sizeLine → R (Itl K a) H1)) ∨ ∃ xs, SqT K H1 a xs ∧ (xs.length ≤ sizeLine → R (Itt K a) H1))
theorem pi_seq {l : Expr} {tl : TE} (hl : PE X l tl) : PI X tg l (iSeq X.K tl) := by
  refine ⟨fun pins s σ H R I h => ?_⟩
  refine thn (hl.run pins s σ H _ I h) fun v s1 ⟨x, H1, I1, r1, q1⟩ => ?_
  obtain ⟨a, e, hq⟩ := q1
  subst e
  cases r1
  rcases hq with ⟨xs, hq, q⟩ | ⟨xs, hq, q⟩
  · obtain ⟨its, rv, p, hz⟩ := I1.list hq
    refine wpAny_pyIter_list p.isList ?_
    refine ⟨s1.heap.objs.size, [s1.heap.objs.size], _, _, H1, rfl, I1.kept (t' := s1.toks) fun b o e => Heap.get?_push_of_some _ e, turn_list a _, ⟨_, Heap.get?_push_size _ rfl, rfl, rfl⟩, fun b hb => ?_, q hz⟩
    have e : b = s1.heap.objs.size := by simpa using hb
    subst e
    exact I1.fpOk (Nat.le_refl _) (I1.hok.fresh (Nat.le_refl _))
  · obtain ⟨its, rv, p, hz⟩ := I1.tuple hq
    refine wpAny_pyIter_tuple (show s1.heap.IsTuple a its.toArray from p) ?_
    refine ⟨s1.heap.objs.size, [s1.heap.objs.size], _, _, H1, rfl, I1.kept (t' := s1.toks) fun b o e => Heap.get?_push_of_some _ e, turn_tuple a _, ⟨_, Heap.get?_push_size _ rfl, rfl, rfl⟩, fun b hb => ?_, q hz⟩
    have e : b = s1.heap.objs.size := by simpa using hb
    subst e
    exact I1.fpOk (Nat.le_refl _) (I1.hok.fresh (Nat.le_refl _))
theorem src_list {K : PySem.W.Frag} {Gd : Hp → Hp → Prop} {a : Addr} {ds : List PyData} (hz : ds.length ≤ sizeLine) (h : ∀ G H, Gd G H → Same G H ∧ ∃ vs, H a = some (.lst vs) ∧ Reps G vs ds) : Src Gd (Itl K a) ds := by
  refine ⟨hz, fun i G H g hi => ?_, fun G H g => ?_, fun i G H x H' d g hd y => ?_⟩
  · obtain ⟨_, vs, e, r⟩ := h G H g
    have hv : i < vs.length := by rw [r.length]; exact hi
    exact ⟨vs, vs[i], .of e, List.getElem?_eq_getElem hv⟩
  · obtain ⟨_, vs, e, r⟩ := h G H g
    exact ⟨vs, .of e, Nat.le_of_eq r.length⟩
  · obtain ⟨sb, vs, e, r⟩ := h G H g
    obtain ⟨rfl, y⟩ := y
    obtain ⟨v, h1, h2⟩ := r.get hd
    have := y vs (.of e)
    rw [h1] at this
    cases this
    exact ⟨G, .refl sb, h2⟩
theorem src_tup {K : PySem.W.Frag} {Gd : Hp → Hp → Prop} {a : Addr} {ds : List PyData} (hz : ds.length ≤ sizeLine) (h : ∀ G H, Gd G H → Same G H ∧ ∃ vs, H a = some (.tup vs) ∧ Reps G vs ds) : Src Gd (Itt K a) ds := by
  refine ⟨hz, fun i G H g hi => ?_, fun G H g => ?_, fun i G H x H' d g hd y => ?_⟩
  · obtain ⟨_, vs, e, r⟩ := h G H g
    have hv : i < vs.length := by rw [r.length]; exact hi
    exact ⟨vs, vs[i], .of e, List.getElem?_eq_getElem hv⟩
  · obtain ⟨_, vs, e, r⟩ := h G H g
    exact ⟨vs, .of e, Nat.le_of_eq r.length⟩
  · obtain ⟨sb, vs, e, r⟩ := h G H g
    obtain ⟨rfl, y⟩ := y
    obtain ⟨v, h1, h2⟩ := r.get hd
    have := y vs (.of e)
    rw [h1] at this
    cases this
    exact ⟨G, .refl sb, h2⟩
/-- for x in e -/
theorem sn_seqV (ha : PE X a (Tm w Wx rV ma)) : PI X tg a (Tm w Wx rIt fun ρ => M.bind (ma ρ) fun x => M.opt (seqOf x)) :=
  pi_imp (pi_seq ha) fun σ H Q ⟨G, ρ, ls, p⟩ => ⟨G, ρ, ls, p.bind.imp fun x H1 ⟨G1, ls1, d1, r1, s1, p1⟩ => by
    obtain ⟨ds, hc, k⟩ := p1.fin
    cases r1 with
    | lst e r =>
      simp only [seqOf, Option.some.injEq] at hc
      subst hc
      exact ⟨_, rfl, .inl ⟨_, .of (p1.sub _ _ e), fun hz => k _ G1 H1 (.refl p1.sub) (src_list (by rw [← r.length]; exact hz) fun G2 H2 ⟨g1, g2⟩ => ⟨g2, _, g2 _ _ (g1 _ _ e), r.mono g1⟩)⟩⟩
    | tup e r =>
      simp only [seqOf, Option.some.injEq] at hc
      subst hc
      exact ⟨_, rfl, .inr ⟨_, .of (p1.sub _ _ e), fun hz => k _ G1 H1 (.refl p1.sub) (src_tup (by rw [← r.length]; exact hz) fun G2 H2 ⟨g1, g2⟩ => ⟨g2, _, g2 _ _ (g1 _ _ e), r.mono g1⟩)⟩⟩
    | _ => simp [seqOf] at hc⟩
/-- how a held thing stands in any later state of the body -/
theorem held_at {σ : L2.St} {ρ : Env} {G : Hp} {x : V} {d : PyData} (h : Held G σ ρ x d) {G2 H2 : Hp} {ls : List PyData} (s : Same G G2) (i : IV w G2 H2 σ ρ ls) : Top G2 H2 x d := i.top (h.mono s)
theorem sn_seqB (ha : PE X a (Tm w Wx rH ma)) : PI X tg a (Tm w Wx (rIb w) fun ρ => M.bind (ma ρ) fun x => M.opt (seqOf x)) :=
  pi_imp (pi_seq ha) fun σ H Q ⟨G, ρ, ls, p⟩ => ⟨G, ρ, ls, p.bind.imp fun x H1 ⟨G1, ls1, d1, r1, s1, p1⟩ => by
    obtain ⟨ds, hc, k⟩ := p1.fin
    cases (p1.1.top r1).sq p1.sub hc with
    | l q vs ex e r =>
      subst ex
      refine ⟨_, rfl, .inl ⟨_, .of e, fun hz => k _ G1 H1 (.refl p1.sub) (src_list (by rw [← r.length]; exact hz) fun G2 H2 ⟨g1, ls2, i2⟩ => ⟨i2.iw.sub, ?_⟩)⟩⟩
      have t2 := held_at r1 g1 i2
      cases d1 with
      | list ds1 =>
        simp only [seqOf, Option.some.injEq] at hc
        subst hc
        cases t2 with
        | lst e2 r2 => exact ⟨_, e2, r2⟩
        | sc r2 => cases r2 with | lst e2 r2 => exact ⟨_, i2.iw.sub _ _ e2, r2⟩
      | tuple ds1 =>
        rcases r1 with r1 | ⟨j, h1, h2⟩
        · cases r1 with | tup e2 _ => rw [p1.sub _ _ e2] at e; cases e
        · obtain ⟨_, _, _, _, o⟩ := p1.1.sl j _ h1
          exact o.elim
      | _ => simp [seqOf] at hc
    | t q vs ex e r eg =>
      subst ex
      exact ⟨_, rfl, .inr ⟨_, .of e, fun hz => k _ G1 H1 (.refl p1.sub) (src_tup (by rw [← r.length]; exact hz) fun G2 H2 ⟨g1, ls2, i2⟩ => ⟨i2.iw.sub, _, i2.iw.sub _ _ (g1 _ _ eg), r.mono g1⟩)⟩⟩⟩
/-- for x in range(..) -/
theorem few_ok {n : Nat} (h : few n = true) : n ≤ sizeLine := by
  have h1 : n ≤ 1000000 := of_decide_eq_true h
  have h2 := sizeLine_eq
  omega
theorem src_rng {Gd : Hp → Hp → Prop} {lo : Int} {n : Nat} (hz : n ≤ sizeLine) (h : ∀ G H, Gd G H → Same G H) : Src Gd (Itr lo n) (rng lo n) := by
  have hl : (rng lo n).length = n := by simp [rng]
  refine ⟨by rw [hl]; exact hz, fun i G H g hi => by rw [hl] at hi; exact hi, fun G H g => by rw [hl]; exact Nat.le_refl _, fun i G H x H' d g hd y => ?_⟩
  obtain ⟨rfl, rfl⟩ := y
  have hi : i < n := by rw [← hl]; exact (List.getElem?_eq_some_iff.mp hd).1
  have : (rng lo n)[i]? = some (.int (lo + i)) := by simp [rng, hi]
  rw [this] at hd
  cases hd
  exact ⟨G, .refl (h G _ g), .int _⟩
theorem chop_ok {i : Int} (h : chop i = true) : -(2 ^ 62) ≤ i ∧ i < 2 ^ 62 := by
  have h1 : i.natAbs < 4611686018427387904 := of_decide_eq_true h
  constructor <;> omega
theorem sn_rng1 {p : Pos} {x : Str} (hx : x = "range") (hg : Gl X x) (hm : X.mg x = none) (hs : ∀ x p, a ≠ .Starred x p) (ha : PE X a (Tm w Wx rV ma)) :
    PI X tg (.Call (.Name x p) [a] [] pos) (Tm w Wx rIt fun ρ => M.bind (ma ρ) fun x => M.opt ((intOf x).bind fun n => if chop n && few n.toNat then some (rng 0 n.toNat) else none)) := by
  subst hx
  exact pi_imp (pi_range1 hg hm (pa_cons ha pa_nil (star1 hs [] X.env)) (by rw [star1 hs [] X.env]; rfl)) fun σ H Q ⟨G, ρ, ls, p⟩ => ⟨G, ρ, ls, p.bind.imp fun x H1 ⟨G1, ls1, d1, r1, s1, p1⟩ => by
    obtain ⟨ds, hc, k⟩ := p1.fin
    obtain ⟨n, hi, hc⟩ := int_bind hc
    obtain rfl := rep_int r1 hi
    simp only [Option.ite_none_right_eq_some, Option.some.injEq, Bool.and_eq_true] at hc
    obtain ⟨⟨h1, hf⟩, rfl⟩ := hc
    obtain ⟨h2, h3⟩ := chop_ok h1
    exact ⟨n, rfl, h2, h3, k _ G1 H1 (.refl p1.sub) (src_rng (few_ok hf) fun _ _ g => g.2)⟩⟩
theorem sn_rng2 {p : Pos} {x : Str} (hx : x = "range") (hg : Gl X x) (hm : X.mg x = none) (hs : ∀ x p, a ≠ .Starred x p) (hs2 : ∀ x p, b ≠ .Starred x p) (ha : PE X a (Tm w Wx rV ma)) (hb : PE X b (Tm w Wx rV mb)) :
    PI X tg (.Call (.Name x p) [a, b] [] pos) (Tm w Wx rIt fun ρ => M.bind (ma ρ) fun x => M.bind (mb ρ) fun y => M.opt ((intOf x).bind fun i => (intOf y).bind fun j => if chop i && chop j && few (j - i).toNat then some (rng i (j - i).toNat) else none)) := by
  subst hx
  have e2 := star1 hs2 [] X.env
  have e1 := star1 hs [b] X.env
  exact pi_imp (pi_range2 hg hm (pa_cons ha (pa_cons hb pa_nil e2) e1) (by rw [e1, e2]; rfl) (by rw [e2]; rfl)) fun σ H Q ⟨G, ρ, ls, p⟩ => ⟨G, ρ, ls, p.bind.imp fun x H1 ⟨G1, ls1, d1, r1, s1, p1⟩ => ⟨G1, ρ, ls1, p1.bind.imp fun y H2 ⟨G2, ls2, d2, r2, s2, p2⟩ => by
    obtain ⟨ds, hc, k⟩ := p2.fin
    obtain ⟨i, hi, hc⟩ := int_bind hc
    obtain ⟨j, hj, hc⟩ := int_bind hc
    obtain rfl := rep_int r1 hi
    obtain rfl := rep_int r2 hj
    simp only [Option.ite_none_right_eq_some, Option.some.injEq, Bool.and_eq_true] at hc
    obtain ⟨⟨⟨h1, h1'⟩, hf⟩, rfl⟩ := hc
    obtain ⟨h2, h3⟩ := chop_ok h1
    obtain ⟨h4, h5⟩ := chop_ok h1'
    exact ⟨i, j, rfl, ⟨h2, h3, h4, h5⟩, k _ G2 H2 (.refl p2.sub) (src_rng (few_ok hf) fun _ _ g => g.2)⟩⟩⟩
/-- range with a step -/
theorem src_rngC {Gd : Hp → Hp → Prop} {lo c : Int} {n : Nat} (hz : n ≤ sizeLine) (h : ∀ G H, Gd G H → Same G H) : Src Gd (Itc lo c n) ((List.range n).map fun (k : Nat) => .int (lo + (k : Int) * c)) := by
  have hl : ((List.range n).map fun (k : Nat) => PyData.int (lo + (k : Int) * c)).length = n := by simp
  refine ⟨by rw [hl]; exact hz, fun i G H g hi => by rw [hl] at hi; exact hi, fun G H g => by rw [hl]; exact Nat.le_refl _, fun i G H x H' d g hd y => ?_⟩
  obtain ⟨rfl, rfl⟩ := y
  have hi : i < n := by rw [← hl]; exact (List.getElem?_eq_some_iff.mp hd).1
  have : ((List.range n).map fun (k : Nat) => PyData.int (lo + (k : Int) * c))[i]? = some (.int (lo + (i : Int) * c)) := by simp [hi]
  rw [this] at hd
  cases hd
  exact ⟨G, .refl (h G _ g), .int _⟩
theorem sn_rng3 {p : Pos} {x : Str} (hx : x = "range") (hg : Gl X x) (hm : X.mg x = none) (hs : ∀ x p, a ≠ .Starred x p) (hs2 : ∀ x p, b ≠ .Starred x p) (hs3 : ∀ x p, c ≠ .Starred x p) (ha : PE X a (Tm w Wx rV ma)) (hb : PE X b (Tm w Wx rV mb)) (hc : PE X c (Tm w Wx rV mc)) :
    PI X tg (.Call (.Name x p) [a, b, c] [] pos) (Tm w Wx rIt fun ρ => M.bind (ma ρ) fun x => M.bind (mb ρ) fun y => M.bind (mc ρ) fun z => M.opt ((intOf x).bind fun i => (intOf y).bind fun j => (intOf z).bind fun k => rngs i j k)) := by
  subst hx
  have e3 := star1 hs3 [] X.env
  have e2 := star1 hs2 [c] X.env
  have e1 := star1 hs [b, c] X.env
  refine pi_imp (pi_range3 hg hm (pa_cons ha (pa_cons hb (pa_cons hc pa_nil e3) e2) e1) e1 (by rw [e2, e3]; rfl)) fun σ H Q ⟨G, ρ, ls, p⟩ => ⟨G, ρ, ls, p.bind.imp fun x H1 ⟨G1, ls1, d1, r1, s1, p1⟩ => ⟨G1, ρ, ls1, p1.bind.imp fun y H2 ⟨G2, ls2, d2, r2, s2, p2⟩ => ⟨G2, ρ, ls2, p2.bind.imp fun z H3 ⟨G3, ls3, d3, r3, s3, p3⟩ => ?_⟩⟩⟩
  obtain ⟨ds, hc, k⟩ := p3.fin
  obtain ⟨i, hi, hc⟩ := int_bind hc
  obtain ⟨j, hj, hc⟩ := int_bind hc
  obtain ⟨q, hq, hc⟩ := int_bind hc
  obtain rfl := rep_int r1 hi
  obtain rfl := rep_int r2 hj
  obtain rfl := rep_int r3 hq
  simp only [rngs, Option.ite_none_right_eq_some, Option.some.injEq] at hc
  obtain ⟨⟨h1, h2, h3, h4, h5⟩, rfl⟩ := hc
  have hz := sizeLine_eq
  exact ⟨i, j, q, (Builtin.Range.rangeSize i j q).toNat, rfl, ⟨h1, h2, h3, (Int.toNat_of_nonneg h4).symm⟩, k _ G3 H3 (.refl p3.sub) (src_rngC (by omega) fun _ _ g => g.2)⟩
end Pv

set_option maxRecDepth 100000
set_option maxHeartbeats 1000000
/-! enumerate, zip: what loops walk. -/
namespace Pv
open PySem PySem.W L2
variable {X : Cx} {w : Wd} {Wx : WXt} {a b c e tg : Expr} {pos : Pos} {ma mb mc : Env → M PyData}
abbrev tupIt (l : Addr) : Obj := { cls := .type "tuple_iterator", data := .fields #[.ref l, .int 0 0] }
abbrev enumObj (it : Addr) : Obj := { cls := .type "enumerate", data := .fields #[.none, .bool false, .ref it, rawInt 0, .none, .none] }
theorem meets_enumT (l : Addr) (its : Array Value) : Meets (Builtin.«enumerate.__new__» ⟨[.type "enumerate", .ref l], []⟩) (fun _ R s => s.heap.IsTuple l its ∧
    R (.ok (.ret (.ref (s.heap.push (tupIt l)).objs.size))) { s with heap := (s.heap.push (tupIt l)).push (enumObj s.heap.objs.size) }) :=
  .of_wp fun P w A R s ⟨hT, h⟩ => by
    have hsub := sub_enumerate
    obtain ⟨hp, g, d, tk, os⟩ := s
    have hT : Heap.IsTuple (Shared.heap ⟨hp, g, d, tk, os⟩) l its := hT
    wp_walk using wpAny_pyIter_tuple hT
    refine wpAny_stack_any fun st => wpAny_pure ?_
    split
    · rename_i c _ _ _ _ _
      cases (c == Value.type "enumerate") <;> (wp_walk using wpAny_pyIter_tuple hT; exact ⟨_, rfl, h⟩)
    · wp_walk using wpAny_pyIter_tuple hT
      exact ⟨_, rfl, h⟩
theorem call_enumT {prog : Program} {w : World} {A : Around} {E : Value → Shared → Prop} {s : Shared} {l : Addr} {its : Array Value} {Q : Value → Shared → Prop} (hT : s.heap.IsTuple l its)
    (k : ∀ h', IsEnum h' (s.heap.objs.size + 1) s.heap.objs.size 0 .none → h'.IsTupleIter s.heap.objs.size l 0 → h'.objs.size = s.heap.objs.size + 2 → (∀ b o, s.heap.get? b = some o → h'.get? b = some o) → Q (.ref (s.heap.objs.size + 1)) { s with heap := h' }) :
    wpAny (model prog w) A (call (.type "enumerate") [.ref l]) Q E s := by
  refine callType_new F.called_enumerate (by decide) (F.typeCall_enumerate_1 _) (F.newCall_enumerate_1 _) (fun obj => F.args_object_init_2 obj _) F.entry_enumerate_new (meets_enumT l its) ⟨hT, ?_⟩
  have hz : (s.heap.push (tupIt l)).objs.size = s.heap.objs.size + 1 := Heap.size_push ..
  have he : IsEnum ((s.heap.push (tupIt l)).push (enumObj s.heap.objs.size)) (s.heap.objs.size + 1) s.heap.objs.size 0 .none := hz ▸ Heap.get?_push_size (s.heap.push (tupIt l)) (o := enumObj s.heap.objs.size) rfl
  rw [hz]
  exact ⟨⟨_, he, rfl⟩, k _ he ⟨_, Heap.get?_push_of_some _ (Heap.get?_push_size _ rfl), rfl, rfl⟩ (by rw [Heap.size_push, hz]) fun b o x => Heap.get?_push_of_some _ (Heap.get?_push_of_some _ x)⟩
/-- the tuple at a, its items in new pairs with their places -/
def IteT (K : PySem.W.Frag) (a : Addr) : L2.It where
  go := fun i H => ∃ (xs : List V) (x : V), SqT K H a xs ∧ xs[i]? = some x
  yld := fun i H v H' => ∃ T x, v = .ref T ∧ H T = none ∧ H' = upd H T (.tup [.int (i : Nat), x]) ∧ ∀ xs, SqT K H a xs → xs[i]? = some x
  stop := fun i H => ∃ xs : List V, SqT K H a xs ∧ xs.length = i
theorem turn_enumT {P : Program} {w : World} {K : PySem.W.Frag} {elts : List Expr} {kk : Nat} {tpos : Pos} (a e it : Addr) :
    Turn P w K (.Tuple elts kk tpos) (IteT K a) [e, it] e (fun i h => (∃ old, IsEnum h e it ((i : Nat) : Int) old) ∧ h.IsTupleIter it a i ∧ e ≠ it ∧ a ≠ it ∧ e ≠ a) where
  mem := List.mem_cons_self
  obj := fun i h ⟨⟨_, he⟩, ⟨o, ho, _, hd⟩, _⟩ b hb => by
    rcases List.mem_cons.mp hb with rfl | hb
    · exact ⟨_, he, fun v q => nomatch q⟩
    · cases List.mem_singleton.mp hb
      exact ⟨o, ho, fun v q => by rw [hd] at q; cases q⟩
  keep := fun i h h' ⟨⟨old, he⟩, hi, hn⟩ k => ⟨⟨old, k e List.mem_cons_self _ he⟩, hi.at fun o q => k it (List.mem_cons_of_mem _ List.mem_cons_self) o q, hn⟩
  self := fun A i s Q E ⟨⟨_, he⟩, _⟩ h => wpAny_pyIter_enum he h
  done := by
    rintro X rfl rfl rfl hc i pins s σ H E I hf ⟨⟨old, he⟩, hit, hne, hni, hea⟩ ⟨xs, hq, hx⟩
    obtain ⟨its, rv, p, hz⟩ := I.tuple hq
    obtain ⟨f0, f1, f2, f3, f4, f5⟩ := hf it (List.mem_cons_of_mem _ List.mem_cons_self)
    have hl := rv.length
    have hn : i = its.toArray.size := by rw [List.size_toArray, ← hl, hx]
    subst hn
    exact wpAny_pyNext_enum_endD (Draws.tuple (A := X.A.in1) (show X.A.in1.handled = none from I.ok.hd hc) it a hni its.toArray) he ⟨hit, p⟩ fun h' eb => ⟨rfl, I.turned (t' := s.toks) (fun b o hb q => eb b o hb q) f0 f1 f3 f4 f5⟩
  item := by
    rintro X rfl rfl rfl hc i pins s σ H E I hf ⟨⟨old, he⟩, hit, hne, hni, hea⟩ ⟨xs, x, hq, hx⟩
    obtain ⟨its, rv, p, hz⟩ := I.tuple hq
    obtain ⟨u, hu, ru⟩ := rv.get hx
    have hlt : i < its.length := (List.getElem?_eq_some_iff.mp hu).1
    have hel : e < s.heap.objs.size := Heap.lt_size he
    have hil : it < s.heap.objs.size := by obtain ⟨_, q, _⟩ := hit; exact Heap.lt_size q
    have hef : e ∉ [it, a] := by simp [hne, hea]
    refine wpAny_pyNext_enum_itemC (Draws.tuple (A := X.A.in1) (show X.A.in1.handled = none from I.ok.hd hc) it a hni its.toArray) he ⟨hit, p⟩ (by simpa using hlt) hne hef fun y h' tk hy ho hst hT hsz hk => ?_
    obtain ⟨hit', p'⟩ := hst
    have hy : y = u := by
      have := hy
      simp only [List.getElem?_toArray] at this
      rw [hu] at this
      exact (Option.some.inj this).symm
    subst hy
    refine ⟨_, rfl, wpAny_letOwnedTupleGo_enum (s := { s with heap := h', toks := tk + 1 }) ho fun h2 he' sb => ?_⟩
    have hT2 : h2.get? s.heap.objs.size = some { cls := .type "tuple", data := .seq #[.int i tk, y] } := (sb.2 _ (Nat.ne_of_gt hel)).trans hT
    have new : ObjOk X.prog X.w (upd H s.heap.objs.size (.tup [.int (i : Nat), x])) h2 s.heap.objs.size (.tup [.int (i : Nat), x]) :=
      ⟨show 2 ≤ sizeLine by decide, [.int i tk, y], .cons ⟨_, rfl⟩ (.cons ru .nil), ⟨_, hT2, rfl, _, rfl⟩⟩
    have I1 : Inv X pins σ (upd H s.heap.objs.size (.tup [.int (i : Nat), x])) { s with heap := h2, toks := tk + 1 } :=
      I.turnedNew (ch := [e, it]) (fun b ob hb q => (sb.2 b fun z => hb (by simp [z])).trans (hk b ob (fun z => hb (by simp [z])) (fun z => hb (by simp [z])) q)) hf (Nat.le_refl _) new
    refine ⟨.ref s.heap.objs.size, _, I1, rfl, ⟨_, x, rfl, I.hok.fresh (Nat.le_refl _), rfl, fun ys hy => by rw [I.tuple_inj hy hq]; exact hx⟩, ⟨⟨y, ?_⟩, hit'.at fun o q => (sb.2 it (Ne.symm hne)).trans q, hne, hni, hea⟩, fun b hb => ?_⟩
    · rw [show ((i + 1 : Nat) : Int) = (i : Int) + 1 from by omega]
      exact he'
    · have hb' : b < s.heap.objs.size := by
        rcases List.mem_cons.mp hb with rfl | hb
        · exact hel
        · cases List.mem_singleton.mp hb
          exact hil
      rw [upd_ne (Nat.ne_of_lt hb')]
      exact (hf b hb).1
def iEnumT (K : PySem.W.Frag) (ta : TA) : TI := fun σ H R => ta σ H fun vs H1 => ∃ a xs, vs = [.ref a] ∧ ((SqL K H1 a xs ∧ (xs.length ≤ sizeLine → R (Ite K a) H1)) ∨ (SqT K H1 a xs ∧ (xs.length ≤ sizeLine → R (IteT K a) H1)))
theorem pi_enumT {e : Expr} {ta : TA} {p pos tpos : Pos} {elts : List Expr} {kk : Nat} (hg : Gl X "enumerate") (hm : X.mg "enumerate" = none) (ha : PA X [e] ta) (hs : starEach [e] X.env = [(false, eval e X.env)]) :
    PI X (.Tuple elts kk tpos) (.Call (.Name "enumerate" p) [e] [] pos) (iEnumT X.K ta) := by
  refine ⟨fun pins s σ H R I h => PyProof.Rows.Call_ (ld_blt I hg hm PyProof.Rows.boot_enumerate (PyProof.Rows.callWith_type1 (thn (ha.run pos pins s σ H _ I h) fun us s1 ⟨vs, H1, I1, r1, a, xs, ex, q1⟩ => ?_) hs rfl))⟩
  subst ex
  obtain _ | ⟨r, rr⟩ := r1
  cases rr
  cases r
  have two : ∀ b ∈ [s1.heap.objs.size + 1, s1.heap.objs.size], s1.heap.objs.size ≤ b := fun b hb => by
    simp only [List.mem_cons, List.not_mem_nil, or_false] at hb
    omega
  rcases q1 with ⟨hq, q⟩ | ⟨hq, q⟩
  · obtain ⟨its, rv, p', hz⟩ := I1.list hq
    refine call_enumerate_list p'.isList fun h' he hit hsz hk => wpAny_pyIter_enum he ?_
    have I2 : Inv X pins σ H1 { s1 with heap := h' } := I1.kept (t' := s1.toks) hk
    exact ⟨_, _, _, _, H1, rfl, I2, turn_enum a (s1.heap.objs.size + 1) s1.heap.objs.size, ⟨⟨.none, he⟩, hit, Nat.succ_ne_self _⟩, fun b hb => I1.fpOk (two b hb) (I1.hok.fresh (two b hb)), q hz⟩
  · obtain ⟨its, rv, p', hz⟩ := I1.tuple hq
    refine call_enumT p' fun h' he hit hsz hk => wpAny_pyIter_enum he ?_
    have I2 : Inv X pins σ H1 { s1 with heap := h' } := I1.kept (t' := s1.toks) hk
    have hal : a < s1.heap.objs.size := by obtain ⟨_, z, _⟩ := p'; exact Heap.lt_size z
    exact ⟨_, _, _, _, H1, rfl, I2, turn_enumT a (s1.heap.objs.size + 1) s1.heap.objs.size, ⟨⟨.none, he⟩, hit, Nat.succ_ne_self _, Nat.ne_of_lt hal, Nat.ne_of_gt (Nat.lt_succ_of_lt hal)⟩, fun b hb => I1.fpOk (two b hb) (I1.hok.fresh (two b hb)), q hz⟩
theorem enums_get : ∀ {ds : List PyData} {k i : Nat} {d : PyData}, (enums k ds)[i]? = some d → ∃ e, ds[i]? = some e ∧ d = .tuple [.int ((k + i : Nat) : Int), e]
  | [], k, i, d, h => by simp [enums] at h
  | x :: xs, k, 0, d, h => ⟨x, rfl, by simpa [enums] using h.symm⟩
  | x :: xs, k, i + 1, d, h => by
    obtain ⟨e, h1, h2⟩ := enums_get (ds := xs) (k := k + 1) (i := i) (by simpa [enums] using h)
    exact ⟨e, by simpa using h1, by rw [h2, show k + 1 + i = k + (i + 1) from by omega]⟩
theorem enums_len : ∀ (ds : List PyData) (k : Nat), (enums k ds).length = ds.length
  | [], _ => rfl
  | _ :: xs, k => by simp [enums, enums_len xs]
/-- a new pair of an int and a thing -/
theorem pair_new {G H : Hp} {T : Addr} {x y : V} {d e : PyData} (s : Same G H) (n : H T = none) (r1 : Rep G x d) (r2 : Rep G y e) : ∃ G', Grow G H G' (upd H T (.tup [x, y])) ∧ Rep G' (.ref T) (.tuple [d, e]) :=
  have g := Grow.laid s n
  ⟨_, g, .tup upd_same (.cons (r1.mono (g.same s)) (.cons (r2.mono (g.same s)) .nil))⟩
theorem src_enumL {K : PySem.W.Frag} {Gd : Hp → Hp → Prop} {a : Addr} {ds : List PyData} (hz : ds.length ≤ sizeLine) (h : ∀ G H, Gd G H → Same G H ∧ ∃ vs, H a = some (.lst vs) ∧ Reps G vs ds) : Src Gd (Ite K a) (enums 0 ds) := by
  refine ⟨by rw [enums_len]; exact hz, fun i G H g hi => ?_, fun G H g => ?_, fun i G H x H' d g hd y => ?_⟩
  · obtain ⟨_, vs, e, r⟩ := h G H g
    have hv : i < vs.length := by rw [r.length, ← enums_len ds 0]; exact hi
    exact ⟨vs, vs[i], .of e, List.getElem?_eq_getElem hv⟩
  · obtain ⟨_, vs, e, r⟩ := h G H g
    exact ⟨vs, .of e, by rw [enums_len]; exact Nat.le_of_eq r.length⟩
  · obtain ⟨sb, vs, e, r⟩ := h G H g
    obtain ⟨T, u, rfl, nT, rfl, y⟩ := y
    obtain ⟨d', h0, rfl⟩ := enums_get hd
    obtain ⟨v, h1, h2⟩ := r.get h0
    have := y vs (.of e)
    rw [h1] at this
    cases this
    rw [Nat.zero_add]
    exact pair_new sb nT (.int _) h2
theorem src_enumT {K : PySem.W.Frag} {Gd : Hp → Hp → Prop} {a : Addr} {ds : List PyData} (hz : ds.length ≤ sizeLine) (h : ∀ G H, Gd G H → Same G H ∧ ∃ vs, H a = some (.tup vs) ∧ Reps G vs ds) : Src Gd (IteT K a) (enums 0 ds) := by
  refine ⟨by rw [enums_len]; exact hz, fun i G H g hi => ?_, fun G H g => ?_, fun i G H x H' d g hd y => ?_⟩
  · obtain ⟨_, vs, e, r⟩ := h G H g
    have hv : i < vs.length := by rw [r.length, ← enums_len ds 0]; exact hi
    exact ⟨vs, vs[i], .of e, List.getElem?_eq_getElem hv⟩
  · obtain ⟨_, vs, e, r⟩ := h G H g
    exact ⟨vs, .of e, by rw [enums_len]; exact r.length⟩
  · obtain ⟨sb, vs, e, r⟩ := h G H g
    obtain ⟨T, u, rfl, nT, rfl, y⟩ := y
    obtain ⟨d', h0, rfl⟩ := enums_get hd
    obtain ⟨v, h1, h2⟩ := r.get h0
    have := y vs (.of e)
    rw [h1] at this
    cases this
    rw [Nat.zero_add]
    exact pair_new sb nT (.int _) h2
/-- how a held list or tuple stands while the body's names are as they are -/
theorem held_src {G : Hp} {σ : L2.St} {ρ : Env} {H1 : Hp} {ls : List PyData} {x : V} {d : PyData} {ds : List PyData} {K : PySem.W.Frag} (iv : IV w G H1 σ ρ ls) (r1 : Held G σ ρ x d) (hc : seqOf d = some ds) :
    ∃ a, x = .ref a ∧ ((∃ vs, SqL K H1 a vs ∧ vs.length = ds.length ∧ d = .list ds ∧ ∀ G2 H2, (Same G G2 ∧ ∃ ls, IV w G2 H2 σ ρ ls) → Same G2 H2 ∧ ∃ vs, H2 a = some (.lst vs) ∧ Reps G2 vs ds) ∨
      (∃ vs, SqT K H1 a vs ∧ vs.length = ds.length ∧ d = .tuple ds ∧ ∀ G2 H2, (Same G G2 ∧ ∃ ls, IV w G2 H2 σ ρ ls) → Same G2 H2 ∧ ∃ vs, H2 a = some (.tup vs) ∧ Reps G2 vs ds)) := by
  cases (iv.top r1).sq iv.iw.sub hc with
  | l q vs ex e r =>
    subst ex
    cases d with
    | list ds1 =>
      simp only [seqOf, Option.some.injEq] at hc
      subst hc
      refine ⟨_, rfl, .inl ⟨vs, .of e, r.length, rfl, fun G2 H2 ⟨g1, ls2, i2⟩ => ⟨i2.iw.sub, ?_⟩⟩⟩
      cases held_at r1 g1 i2 with
      | lst e2 r2 => exact ⟨_, e2, r2⟩
      | sc r2 => cases r2 with | lst e2 r2 => exact ⟨_, i2.iw.sub _ _ e2, r2⟩
    | tuple ds1 =>
      rcases r1 with r1 | ⟨j, h1, h2⟩
      · cases r1 with | tup e2 _ => rw [iv.iw.sub _ _ e2] at e; cases e
      · obtain ⟨_, _, _, _, o⟩ := iv.sl j _ h1
        exact o.elim
    | _ => simp [seqOf] at hc
  | t q vs ex e r eg =>
    subst ex
    cases d with
    | tuple ds1 =>
      simp only [seqOf, Option.some.injEq] at hc
      subst hc
      exact ⟨_, rfl, .inr ⟨vs, .of e, r.length, rfl, fun G2 H2 ⟨g1, ls2, i2⟩ => ⟨i2.iw.sub, _, i2.iw.sub _ _ (g1 _ _ eg), r.mono g1⟩⟩⟩
    | list ds1 =>
      exfalso
      cases iv.top r1 with
      | lst e2 _ => rw [e2] at e; cases e
      | sc r2 => cases r2 with | lst e2 _ => rw [iv.iw.sub _ _ e2] at e; cases e
    | _ => simp [seqOf] at hc
end Pv
namespace Pv
open PySem PySem.W L2
variable {X : Cx} {w : Wd} {Wx : WXt} {a b c e tg : Expr} {pos : Pos} {ma mb mc : Env → M PyData}
theorem sn_enum {p tpos : Pos} {x : Str} {elts : List Expr} {kk : Nat} (hx : x = "enumerate") (hg : Gl X x) (hm : X.mg x = none) (hs : ∀ x p, a ≠ .Starred x p) (ha : PE X a (Tm w Wx rH ma)) :
    PI X (.Tuple elts kk tpos) (.Call (.Name x p) [a] [] pos) (Tm w Wx (rIb w) fun ρ => M.bind (ma ρ) fun x => M.opt ((seqOf x).map (enums 0))) := by
  subst hx
  refine pi_imp (pi_enumT hg hm (pa_cons ha pa_nil (star1 hs [] X.env)) (by rw [star1 hs [] X.env]; rfl)) fun σ H Q ⟨G, ρ, ls, p⟩ => ⟨G, ρ, ls, p.bind.imp fun x H1 ⟨G1, ls1, d1, r1, s1, p1⟩ => ?_⟩
  obtain ⟨ds, hc, k⟩ := p1.fin
  obtain ⟨es, hq, rfl⟩ := Option.map_eq_some_iff.mp hc
  obtain ⟨l, rfl, hcase⟩ := held_src (K := X.K) p1.1 r1 hq
  rcases hcase with ⟨vs, q, hl, _, go⟩ | ⟨vs, q, hl, _, go⟩
  · exact ⟨l, vs, rfl, .inl ⟨q, fun hz => k _ G1 H1 (.refl p1.sub) (src_enumL (by omega) go)⟩⟩
  · exact ⟨l, vs, rfl, .inr ⟨q, fun hz => k _ G1 H1 (.refl p1.sub) (src_enumT (by omega) go)⟩⟩
theorem zips_get : ∀ {xs ys : List PyData} {i : Nat} {d : PyData}, (zips xs ys)[i]? = some d → ∃ x y, xs[i]? = some x ∧ ys[i]? = some y ∧ d = .tuple [x, y]
  | x :: xs, y :: ys, 0, d, h => ⟨x, y, rfl, rfl, by simpa [zips] using h.symm⟩
  | x :: xs, y :: ys, i + 1, d, h => by
    obtain ⟨u, v, h1, h2, h3⟩ := zips_get (xs := xs) (ys := ys) (i := i) (by simpa [zips] using h)
    exact ⟨u, v, by simpa using h1, by simpa using h2, h3⟩
  | [], ys, i, d, h => by simp [zips] at h
  | x :: xs, [], i, d, h => by simp [zips] at h
theorem zips_len : ∀ (xs ys : List PyData), (zips xs ys).length = min xs.length ys.length
  | [], _ => by simp [zips]
  | _ :: _, [] => by simp [zips]
  | _ :: xs, _ :: ys => by rw [zips, List.length_cons, zips_len xs ys, List.length_cons, List.length_cons]; omega
theorem src_zipL {K : PySem.W.Frag} {Gd : Hp → Hp → Prop} {a b : Addr} {ds es : List PyData} (hz : ds.length ≤ sizeLine) (h : ∀ G H, Gd G H → Same G H ∧ ∃ vs, H a = some (.lst vs) ∧ Reps G vs ds) (h' : ∀ G H, Gd G H → Same G H ∧ ∃ vs, H b = some (.lst vs) ∧ Reps G vs es) : Src Gd (Itz K a b) (zips ds es) := by
  refine ⟨by rw [zips_len]; omega, fun i G H g hi => ?_, fun G H g => ?_, fun i G H x H' d g hd y => ?_⟩
  · obtain ⟨_, vs, e, r⟩ := h G H g
    obtain ⟨_, us, e', r'⟩ := h' G H g
    rw [zips_len] at hi
    have hv : i < vs.length := by rw [r.length]; omega
    have hu : i < us.length := by rw [r'.length]; omega
    exact ⟨vs, us, vs[i], us[i], .of e, .of e', List.getElem?_eq_getElem hv, List.getElem?_eq_getElem hu⟩
  · obtain ⟨_, vs, e, r⟩ := h G H g
    obtain ⟨_, us, e', r'⟩ := h' G H g
    exact ⟨vs, us, .of e, .of e', by rw [zips_len, r.length, r'.length]; omega⟩
  · obtain ⟨sb, vs, e, r⟩ := h G H g
    obtain ⟨_, us, e', r'⟩ := h' G H g
    obtain ⟨T, p, q, rfl, nT, rfl, y1, y2⟩ := y
    obtain ⟨d1, d2, k1, k2, rfl⟩ := zips_get hd
    obtain ⟨v, h1, h2⟩ := r.get k1
    obtain ⟨u, h3, h4⟩ := r'.get k2
    have z1 := y1 vs (.of e)
    have z2 := y2 us (.of e')
    rw [h1] at z1
    rw [h3] at z2
    cases z1
    cases z2
    exact pair_new sb nT h2 h4
theorem src_zipT {K : PySem.W.Frag} {Gd : Hp → Hp → Prop} {a b : Addr} {ds es : List PyData} (hz : ds.length ≤ sizeLine) (h : ∀ G H, Gd G H → Same G H ∧ ∃ vs, H a = some (.tup vs) ∧ Reps G vs ds) (h' : ∀ G H, Gd G H → Same G H ∧ ∃ vs, H b = some (.tup vs) ∧ Reps G vs es) : Src Gd (RZ.ItzT K a b) (zips ds es) := by
  refine ⟨by rw [zips_len]; omega, fun i G H g hi => ?_, fun G H g => ?_, fun i G H x H' d g hd y => ?_⟩
  · obtain ⟨_, vs, e, r⟩ := h G H g
    obtain ⟨_, us, e', r'⟩ := h' G H g
    rw [zips_len] at hi
    have hv : i < vs.length := by rw [r.length]; omega
    have hu : i < us.length := by rw [r'.length]; omega
    exact ⟨vs, us, vs[i], us[i], .of e, .of e', List.getElem?_eq_getElem hv, List.getElem?_eq_getElem hu⟩
  · obtain ⟨_, vs, e, r⟩ := h G H g
    obtain ⟨_, us, e', r'⟩ := h' G H g
    exact ⟨vs, us, .of e, .of e', by rw [zips_len, r.length, r'.length]; omega⟩
  · obtain ⟨sb, vs, e, r⟩ := h G H g
    obtain ⟨_, us, e', r'⟩ := h' G H g
    obtain ⟨T, p, q, rfl, nT, rfl, y1, y2⟩ := y
    obtain ⟨d1, d2, k1, k2, rfl⟩ := zips_get hd
    obtain ⟨v, h1, h2⟩ := r.get k1
    obtain ⟨u, h3, h4⟩ := r'.get k2
    have z1 := y1 vs (.of e)
    have z2 := y2 us (.of e')
    rw [h1] at z1
    rw [h3] at z2
    cases z1
    cases z2
    exact pair_new sb nT h2 h4
theorem sn_zip {p tpos : Pos} {x : Str} {elts : List Expr} {kk : Nat} (hx : x = "zip") (hg : Gl X x) (hm : X.mg x = none) (hs : ∀ x p, a ≠ .Starred x p) (hs2 : ∀ x p, b ≠ .Starred x p) (ha : PE X a (Tm w Wx rH ma)) (hb : PE X b (Tm w Wx rH mb)) :
    PI X (.Tuple elts kk tpos) (.Call (.Name x p) [a, b] [] pos) (Tm w Wx (rIb w) fun ρ => M.bind (ma ρ) fun x => M.bind (mb ρ) fun y => M.opt (zipOf x y)) := by
  subst hx
  have e2 := star1 hs2 [] X.env
  have e1 := star1 hs [b] X.env
  refine pi_imp (RZ.pi_zipA hg hm (pa_cons ha (pa_cons hb pa_nil e2) e1) e1 (by rw [e2]; rfl)) fun σ H Q ⟨G, ρ, ls, p⟩ => ⟨G, ρ, ls, p.bind.imp fun x H1 ⟨G1, ls1, d1, r1, s1, p1⟩ => ⟨G1, ρ, ls1, p1.bind.imp fun y H2 ⟨G2, ls2, d2, r2, s2, p2⟩ => ?_⟩⟩
  obtain ⟨ds, hc, k⟩ := p2.fin
  have r1' : Held G2 σ ρ x d1 := Held.mono s2 r1
  cases d1 with
  | list xs =>
    cases d2 with
    | list ys =>
      simp only [zipOf, Option.ite_none_right_eq_some, Option.some.injEq] at hc
      obtain ⟨hz, rfl⟩ := hc
      obtain ⟨l1, rfl, c1⟩ := held_src (K := X.K) p2.1 r1' rfl
      obtain ⟨l2, rfl, c2⟩ := held_src (K := X.K) p2.1 r2 rfl
      obtain ⟨vs, q1, n1, _, go1⟩ | ⟨_, _, _, e, _⟩ := c1
      · obtain ⟨us, q2, n2, _, go2⟩ | ⟨_, _, _, e, _⟩ := c2
        · refine ⟨l1, l2, vs, us, rfl, .inl ⟨q1, q2, k _ G2 H2 (.refl p2.sub) (src_zipL ?_ go1 go2)⟩⟩
          exact few_ok hz
        · cases e
      · cases e
    | _ => cases hc
  | tuple xs =>
    cases d2 with
    | tuple ys =>
      simp only [zipOf, Option.ite_none_right_eq_some, Option.some.injEq] at hc
      obtain ⟨hz, rfl⟩ := hc
      obtain ⟨l1, rfl, c1⟩ := held_src (K := X.K) p2.1 r1' rfl
      obtain ⟨l2, rfl, c2⟩ := held_src (K := X.K) p2.1 r2 rfl
      obtain ⟨_, _, _, e, _⟩ | ⟨vs, q1, n1, _, go1⟩ := c1
      · cases e
      · obtain ⟨_, _, _, e, _⟩ | ⟨us, q2, n2, _, go2⟩ := c2
        · cases e
        · refine ⟨l1, l2, vs, us, rfl, .inr ⟨q1, q2, k _ G2 H2 (.refl p2.sub) (src_zipT ?_ go1 go2)⟩⟩
          exact few_ok hz
    | _ => cases hc
  | _ => cases hc
end Pv
namespace Pv
open PySem PySem.W L2
variable {X : Cx} {w : Wd} {Wx : WXt} {a b c e tg : Expr} {pos : Pos} {ma mb mc : Env → M PyData}
theorem val_src {G : Hp} {H1 : Hp} {x : V} {d : PyData} {ds : List PyData} {K : PySem.W.Frag} (sb : Same G H1) (r1 : Rep G x d) (hc : seqOf d = some ds) :
    ∃ a, x = .ref a ∧ ((∃ vs, SqL K H1 a vs ∧ vs.length = ds.length ∧ d = .list ds ∧ ∀ G2 H2, (Same G G2 ∧ Same G2 H2) → Same G2 H2 ∧ ∃ vs, H2 a = some (.lst vs) ∧ Reps G2 vs ds) ∨
      (∃ vs, SqT K H1 a vs ∧ vs.length = ds.length ∧ d = .tuple ds ∧ ∀ G2 H2, (Same G G2 ∧ Same G2 H2) → Same G2 H2 ∧ ∃ vs, H2 a = some (.tup vs) ∧ Reps G2 vs ds)) := by
  cases r1 with
  | lst e r =>
    simp only [seqOf, Option.some.injEq] at hc
    subst hc
    exact ⟨_, rfl, .inl ⟨_, .of (sb _ _ e), r.length, rfl, fun G2 H2 ⟨g1, g2⟩ => ⟨g2, _, g2 _ _ (g1 _ _ e), r.mono g1⟩⟩⟩
  | tup e r =>
    simp only [seqOf, Option.some.injEq] at hc
    subst hc
    exact ⟨_, rfl, .inr ⟨_, .of (sb _ _ e), r.length, rfl, fun G2 H2 ⟨g1, g2⟩ => ⟨g2, _, g2 _ _ (g1 _ _ e), r.mono g1⟩⟩⟩
  | _ => simp [seqOf] at hc
theorem sn_enumV {p tpos : Pos} {x : Str} {elts : List Expr} {kk : Nat} (hx : x = "enumerate") (hg : Gl X x) (hm : X.mg x = none) (hs : ∀ x p, a ≠ .Starred x p) (ha : PE X a (Tm w Wx rV ma)) :
    PI X (.Tuple elts kk tpos) (.Call (.Name x p) [a] [] pos) (Tm w Wx rIt fun ρ => M.bind (ma ρ) fun x => M.opt ((seqOf x).map (enums 0))) := by
  subst hx
  refine pi_imp (pi_enumT hg hm (pa_cons ha pa_nil (star1 hs [] X.env)) (by rw [star1 hs [] X.env]; rfl)) fun σ H Q ⟨G, ρ, ls, p⟩ => ⟨G, ρ, ls, p.bind.imp fun x H1 ⟨G1, ls1, d1, r1, s1, p1⟩ => ?_⟩
  obtain ⟨ds, hc, k⟩ := p1.fin
  obtain ⟨es, hq, rfl⟩ := Option.map_eq_some_iff.mp hc
  obtain ⟨l, rfl, hcase⟩ := val_src (K := X.K) p1.sub r1 hq
  rcases hcase with ⟨vs, q, hl, _, go⟩ | ⟨vs, q, hl, _, go⟩
  · exact ⟨l, vs, rfl, .inl ⟨q, fun hz => k _ G1 H1 (.refl p1.sub) (src_enumL (by omega) go)⟩⟩
  · exact ⟨l, vs, rfl, .inr ⟨q, fun hz => k _ G1 H1 (.refl p1.sub) (src_enumT (by omega) go)⟩⟩
theorem sn_zipV {p tpos : Pos} {x : Str} {elts : List Expr} {kk : Nat} (hx : x = "zip") (hg : Gl X x) (hm : X.mg x = none) (hs : ∀ x p, a ≠ .Starred x p) (hs2 : ∀ x p, b ≠ .Starred x p) (ha : PE X a (Tm w Wx rV ma)) (hb : PE X b (Tm w Wx rV mb)) :
    PI X (.Tuple elts kk tpos) (.Call (.Name x p) [a, b] [] pos) (Tm w Wx rIt fun ρ => M.bind (ma ρ) fun x => M.bind (mb ρ) fun y => M.opt (zipOf x y)) := by
  subst hx
  have e2 := star1 hs2 [] X.env
  have e1 := star1 hs [b] X.env
  refine pi_imp (RZ.pi_zipA hg hm (pa_cons ha (pa_cons hb pa_nil e2) e1) e1 (by rw [e2]; rfl)) fun σ H Q ⟨G, ρ, ls, p⟩ => ⟨G, ρ, ls, p.bind.imp fun x H1 ⟨G1, ls1, d1, r1, s1, p1⟩ => ⟨G1, ρ, ls1, p1.bind.imp fun y H2 ⟨G2, ls2, d2, r2, s2, p2⟩ => ?_⟩⟩
  obtain ⟨ds, hc, k⟩ := p2.fin
  have r1' : Rep G2 x d1 := r1.mono s2
  cases d1 with
  | list xs =>
    cases d2 with
    | list ys =>
      simp only [zipOf, Option.ite_none_right_eq_some, Option.some.injEq] at hc
      obtain ⟨hz, rfl⟩ := hc
      obtain ⟨l1, rfl, c1⟩ := val_src (K := X.K) p2.sub r1' rfl
      obtain ⟨l2, rfl, c2⟩ := val_src (K := X.K) p2.sub r2 rfl
      obtain ⟨vs, q1, n1, _, go1⟩ | ⟨_, _, _, e, _⟩ := c1
      · obtain ⟨us, q2, n2, _, go2⟩ | ⟨_, _, _, e, _⟩ := c2
        · exact ⟨l1, l2, vs, us, rfl, .inl ⟨q1, q2, k _ G2 H2 (.refl p2.sub) (src_zipL (few_ok hz) go1 go2)⟩⟩
        · cases e
      · cases e
    | _ => cases hc
  | tuple xs =>
    cases d2 with
    | tuple ys =>
      simp only [zipOf, Option.ite_none_right_eq_some, Option.some.injEq] at hc
      obtain ⟨hz, rfl⟩ := hc
      obtain ⟨l1, rfl, c1⟩ := val_src (K := X.K) p2.sub r1' rfl
      obtain ⟨l2, rfl, c2⟩ := val_src (K := X.K) p2.sub r2 rfl
      obtain ⟨_, _, _, e, _⟩ | ⟨vs, q1, n1, _, go1⟩ := c1
      · cases e
      · obtain ⟨_, _, _, e, _⟩ | ⟨us, q2, n2, _, go2⟩ := c2
        · cases e
        · exact ⟨l1, l2, vs, us, rfl, .inr ⟨q1, q2, k _ G2 H2 (.refl p2.sub) (src_zipT (few_ok hz) go1 go2)⟩⟩
    | _ => cases hc
  | _ => cases hc
/-! ### list(range(..)), tuple(range(..)) -/
theorem rg_reps {G : Hp} {lo : Int} {n : Nat} : Reps G ((List.range n).map fun i : Nat => V.int (lo + (i : Nat))) (rng lo n) := by
  unfold rng
  generalize List.range n = is
  induction is with
  | nil => exact .nil
  | cons i is ih => exact .cons (.int _) ih
theorem rgV_reps {G : Hp} {i j : Int} : Reps G (rgV i j) (rng i (j - i).toNat) := rg_reps
theorem rgOk_of {i j : Int} (h1 : chop i = true) (h2 : chop j = true) (hf : few (j - i).toNat = true) : RgOk i j := by
  obtain ⟨a1, a2⟩ := chop_ok h1
  obtain ⟨b1, b2⟩ := chop_ok h2
  have : (j - i).toNat ≤ 1000000 := of_decide_eq_true hf
  exact ⟨a1, a2, b1, b2, by omega⟩
abbrev rgOpt1 (x : PyData) : Option (List PyData) := (intOf x).bind fun n => if chop n && few n.toNat then some (rng 0 n.toNat) else none
abbrev rgOpt2 (x y : PyData) : Option (List PyData) := (intOf x).bind fun i => (intOf y).bind fun j => if chop i && chop j && few (j - i).toNat then some (rng i (j - i).toNat) else none
theorem sn_lof1 {p p2 q2 : Pos} (hc : X.calm = true) (hgl : Gl X "list") (hml : X.mg "list" = none) (hg : Gl X "range") (hm : X.mg "range" = none) (hs : ∀ x p, a ≠ .Starred x p) (ha : PE X a (Tm w Wx rV ma)) :
    PE X (.Call (.Name "list" p) [.Call (.Name "range" p2) [a] [] q2] [] pos) (Tm w Wx rN fun ρ => M.bind (M.bind (ma ρ) fun x => M.opt (rgOpt1 x)) fun xs => M.pure (.list xs)) :=
  pe_imp (pe_listRg hc hgl hml (prg_1 hg hm ha (star1 hs [] X.env)) rfl) fun σ H Q ⟨G, ρ, ls, p⟩ => by
    simp only [M.bind_assoc] at p
    refine ⟨G, ρ, ls, p.bind.imp fun x H1 ⟨G1, ls1, d1, r1, s1, p1⟩ => ?_⟩
    cases ho : rgOpt1 d1 with
    | none => rw [ho] at p1; exact p1.2.elim
    | some ds =>
      rw [ho] at p1
      obtain ⟨n, hi, hc⟩ := int_bind ho
      obtain rfl := rep_int r1 hi
      simp only [Option.ite_none_right_eq_some, Option.some.injEq, Bool.and_eq_true] at hc
      obtain ⟨⟨h1, hf⟩, rfl⟩ := hc
      refine ⟨n, rfl, rgOk_of (by decide) h1 (by rw [Int.sub_zero]; exact hf), fun q nq => ?_⟩
      have p2 : Pd w Wx rN (M.pure (.list (rng 0 n.toNat))) G1 ρ ls1 σ H1 Q := p1
      have ng : G1 q = none := by
        cases e : G1 q with
        | none => rfl
        | some o => rw [p1.sub q o e] at nq; cases nq
      refine p2.pure _ G1 _ (.own p1.sub nq) ⟨q, rfl, nq, ng, _, upd_same, ?_⟩
      have := rgV_reps (G := G1) (i := 0) (j := n)
      rw [Int.sub_zero] at this
      exact this
theorem sn_lof2 {p p2 q2 : Pos} (hc : X.calm = true) (hgl : Gl X "list") (hml : X.mg "list" = none) (hg : Gl X "range") (hm : X.mg "range" = none) (hs : ∀ x p, a ≠ .Starred x p) (hs2 : ∀ x p, b ≠ .Starred x p) (ha : PE X a (Tm w Wx rV ma)) (hb : PE X b (Tm w Wx rV mb)) :
    PE X (.Call (.Name "list" p) [.Call (.Name "range" p2) [a, b] [] q2] [] pos) (Tm w Wx rN fun ρ => M.bind (M.bind (ma ρ) fun x => M.bind (mb ρ) fun y => M.opt (rgOpt2 x y)) fun xs => M.pure (.list xs)) := by
  have e2 := star1 hs2 [] X.env
  have e1 := star1 hs [b] X.env
  refine pe_imp (pe_listRg hc hgl hml (prg_2 hg hm ha hb e1 e2 (by rw [e2]; rfl)) rfl) fun σ H Q ⟨G, ρ, ls, p⟩ => ?_
  simp only [M.bind_assoc] at p
  refine ⟨G, ρ, ls, p.bind.imp fun x H1 ⟨G1, ls1, d1, r1, s1, p1⟩ => ⟨G1, ρ, ls1, p1.bind.imp fun y H2 ⟨G2, ls2, d2, r2, s2, p2⟩ => ?_⟩⟩
  cases ho : rgOpt2 d1 d2 with
  | none => rw [ho] at p2; exact p2.2.elim
  | some ds =>
    rw [ho] at p2
    obtain ⟨i, hi, hc⟩ := int_bind ho
    obtain ⟨j, hj, hc⟩ := int_bind hc
    obtain rfl := rep_int r1 hi
    obtain rfl := rep_int r2 hj
    simp only [Option.ite_none_right_eq_some, Option.some.injEq, Bool.and_eq_true] at hc
    obtain ⟨⟨⟨h1, h1'⟩, hf⟩, rfl⟩ := hc
    refine ⟨i, j, rfl, rfl, rgOk_of h1 h1' hf, fun q nq => ?_⟩
    have p3 : Pd w Wx rN (M.pure (.list (rng i (j - i).toNat))) G2 ρ ls2 σ H2 Q := p2
    have ng : G2 q = none := by
      cases e : G2 q with
      | none => rfl
      | some o => rw [p2.sub q o e] at nq; cases nq
    exact p3.pure _ G2 _ (.own p2.sub nq) ⟨q, rfl, nq, ng, _, upd_same, rgV_reps⟩
theorem sn_tof1 {p p2 q2 : Pos} (hc : X.calm = true) (hgl : Gl X "tuple") (hml : X.mg "tuple" = none) (hg : Gl X "range") (hm : X.mg "range" = none) (hs : ∀ x p, a ≠ .Starred x p) (ha : PE X a (Tm w Wx rV ma)) :
    PE X (.Call (.Name "tuple" p) [.Call (.Name "range" p2) [a] [] q2] [] pos) (Tm w Wx rV fun ρ => M.bind (M.bind (ma ρ) fun x => M.opt (rgOpt1 x)) fun xs => M.pure (.tuple xs)) :=
  pe_imp (pe_tupRg hc hgl hml (prg_1 hg hm ha (star1 hs [] X.env)) rfl) fun σ H Q ⟨G, ρ, ls, p⟩ => by
    simp only [M.bind_assoc] at p
    refine ⟨G, ρ, ls, p.bind.imp fun x H1 ⟨G1, ls1, d1, r1, s1, p1⟩ => ?_⟩
    cases ho : rgOpt1 d1 with
    | none => rw [ho] at p1; exact p1.2.elim
    | some ds =>
      rw [ho] at p1
      obtain ⟨n, hi, hc⟩ := int_bind ho
      obtain rfl := rep_int r1 hi
      simp only [Option.ite_none_right_eq_some, Option.some.injEq, Bool.and_eq_true] at hc
      obtain ⟨⟨h1, hf⟩, rfl⟩ := hc
      refine ⟨n, rfl, rgOk_of (by decide) h1 (by rw [Int.sub_zero]; exact hf), fun q nq => ?_⟩
      have p2 : Pd w Wx rV (M.pure (.tuple (rng 0 n.toNat))) G1 ρ ls1 σ H1 Q := p1
      have g := Grow.laid (o := .tup (rgV 0 n)) p1.sub nq
      refine p2.pure _ _ _ g (.tup upd_same ?_)
      have := rgV_reps (G := upd G1 q (.tup (rgV 0 n))) (i := 0) (j := n)
      rw [Int.sub_zero] at this
      exact this
end Pv

set_option maxRecDepth 100000
/-! The set of a list of whole numbers. -/
namespace Pv
open PySem PySem.W L2
section
variable {P : Program} {w : World} {A : Around} {E : Value → Shared → Prop} {s : Shared}
/-- the new set; an iterator over a list -/
abbrev emptyS (w : World) : Obj := { cls := .type "set", dict := none, data := .set #[] 0 (.fresh 0 0 (!w.params.followText "set-order")) }
abbrev lstIt (l : Addr) : Obj := { cls := .type "list_iterator", data := .fields #[.ref l, .int 0 0] }
/-- what the set's making comes to -/
abbrev SetMade (w : World) (s : Shared) (ns : List Int) (s2 : Shared) : Prop :=
  ∃ h' tk c, s2 = { s with heap := h', toks := tk } ∧ SetR w h' s.heap.objs.size (fun j => decide (j ∈ ns)) c ∧ c ≤ ns.length ∧ ∀ b o, s.heap.get? b = some o → h'.get? b = some o
set_option maxHeartbeats 3200000 in
theorem call_set_listR {l : Addr} {its : Array Value} (ns : List Int) {Q : Value → Shared → Prop} (nh : A.handled = none) (il : s.heap.IsList l its) (ia : PyProof.Rows.IntsAre its.toList ns) (bd : ns.length + 1 < scanBound)
    (k : ∀ s2, SetMade w s ns s2 → Q (.ref s.heap.objs.size) s2) : wpAny (model P w) A (call (.type "set") [.ref l]) Q E s := by
  have hsz : its.size = ns.length := by have q := PyProof.Rows.IntsAre.length ia; rwa [Array.length_toList] at q
  obtain ⟨cc, tl, hmro⟩ := F.called_set.mro
  have hmade := F.called_set.made
  have hsub := F.called_set.sub
  refine wpAny_call (codeAny_of_tree (wpAny_pure ⟨Code.quiet_builtin _ (by decide +kernel), codeAny_builtin F.entry_type_call ?_⟩))
  rw [Around.under_plain (weight_type_call_type "set" [.ref l] []) rfl]
  have h1 := F.called_set.notType
  have h2 := F.called_set.canCreate
  have h3 := F.typeCall_set_1 (.ref l)
  repeat (any_goals (first | assumption | wp_step))
  refine codeAny_mono (L2.code_set_led1 (.ref l) (E := E) (Q₁ := fun o s1 => o = .ref s.heap.objs.size ∧ s1 = { s with heap := s.heap.push (emptyS w) }) ⟨rfl, rfl⟩) fun r s1 hr => ?_
  rcases r with e | fl
  · exact hr
  cases fl with
  | ret obj =>
    obtain ⟨rfl, rfl⟩ := hr
    have gS : (s.heap.push (emptyS w)).get? s.heap.objs.size = some (emptyS w) := Heap.get?_push_size _ rfl
    have tS : Shared.TypeIs { s with heap := s.heap.push (emptyS w) } (.ref s.heap.objs.size) "set" := ⟨_, gS, rfl⟩
    have h4 := F.called_set.init.lookup
    have h5 := F.called_set.init.bind (.ref s.heap.objs.size)
    repeat (any_goals (first | assumption | wp_step))
    refine codeAny_mono (codeAny_call_builtin (R := wants (fun r s2 => r = .none ∧ SetMade w s ns s2) E) F.called_set.init.plain F.entry_set_init (check_set_init_1 tS ?_)) fun r2 s2 hr2 => ?_
    · obtain ⟨⟨oc, od, odt, osl⟩, hol, hcl, nl, hdl⟩ := il
      dsimp only at hcl hdl
      subst hcl hdl
      have hol' : (s.heap.push (emptyS w)).get? l = some { cls := .type "list", dict := od, data := .seq its nl, slots := osl } := Heap.get?_push_of_some _ hol
      have h6 := F.sub_list_set
      have h7 := F.sub_list_frozenset
      have h8 : (Value.type "list" == Value.type "dict") = false := by decide
      have il1 : (s.heap.push (emptyS w)).IsList l its := ⟨_, hol', rfl, nl, rfl⟩
      unfold Builtin.«set.__init__» noKeywords Builtin.Frozenset.updateFrom
      generalize hPI : pyIter = PI
      wp_walk
      subst hPI
      refine wpAny_pyIter_list il1 (wpAny_bind (wpAny_runValue ?_))
      have lS : l < s.heap.objs.size := Heap.lt_size hol
      have z1 : (s.heap.push (emptyS w)).objs.size = s.heap.objs.size + 1 := Heap.size_push ..
      have nI : l ≠ (s.heap.push (emptyS w)).objs.size := by rw [z1]; exact Nat.ne_of_lt (Nat.lt_succ_of_lt lS)
      have nS : s.heap.objs.size ∉ [(s.heap.push (emptyS w)).objs.size, l] := by
        rw [z1]
        simp only [List.mem_cons, List.not_mem_nil, or_false, not_or]
        exact ⟨Nat.ne_of_lt (Nat.lt_succ_self _), Nat.ne_of_gt lS⟩
      have val : ∀ (i : Nat) (v : Value), its[i]? = some v → ∃ k t, ns[i]? = some k ∧ v = .int k t := fun i v hv => by
        have hlt : i < ns.length := by rw [← hsz]; exact (Array.getElem?_eq_some_iff.mp hv).1
        obtain ⟨t, e⟩ := PyProof.Rows.IntsAre.int_at ia i v (by rw [Array.getElem?_toList]; exact hv)
        refine ⟨ns[i], t, List.getElem?_eq_getElem hlt, e.trans ?_⟩
        rw [List.getD_eq_getElem?_getD, List.getElem?_eq_getElem hlt] <;> rfl
      refine L2.set_update_ints ((Walks.list (show A.in1.in1.in1.handled = none by simp [nh]) _ l nI its).toS) s.heap.objs.size nS ns hsz bd val (its.size - 0) 0 _ (by omega) (Nat.zero_le _) ⟨⟨_, Heap.get?_push_size _ rfl, rfl, rfl⟩, il1.push _⟩
        ⟨0, Nat.le_refl 0, L2.setR_new_at (Heap.get?_push_of_some _ gS)⟩ ?_
      rintro ⟨h', g2, d2, tk2, os2⟩ c2 hm hc2 hS2
      have eg : g2 = s.gens := hm.gens
      have ed : d2 = s.drawn := hm.drawn
      have eo : os2 = s.os := hm.os
      subst eg ed eo
      refine wpAny_pure (wpAny_pure ⟨rfl, h', tk2, c2, rfl, hS2, by rw [← hsz]; exact hc2, fun b o e => ?_⟩)
      have hb0 : b < s.heap.objs.size := Heap.lt_size e
      refine hm.heap b o ?_ (Heap.get?_push_of_some _ (Heap.get?_push_of_some _ e))
      rw [z1]
      simp only [List.mem_cons, List.not_mem_nil, or_false, not_or]
      exact ⟨Nat.ne_of_lt hb0, Nat.ne_of_lt (Nat.lt_succ_of_lt hb0)⟩
    · rcases r2 with e | fl2
      · exact hr2
      cases fl2 with
      | ret r =>
        obtain ⟨rfl, q⟩ := hr2
        obtain ⟨h', tk, c, rfl, z⟩ := q
        repeat (any_goals (first | assumption | wp_step))
        exact k _ ⟨h', tk, c, rfl, z⟩
      | _ => exact hr2.elim
  | _ => exact hr.elim
end
end Pv

set_option maxRecDepth 100000
set_option maxHeartbeats 1000000
/-! len(set(..)), sorted(set(..)) of whole numbers. -/
namespace Pv
open PySem PySem.W L2
theorem ded_spec : ∀ (ns acc : List Int), acc.Nodup → (ded acc ns).Nodup ∧ ∀ k, k ∈ ded acc ns ↔ k ∈ acc ∨ k ∈ ns
  | [], acc, h => ⟨h, fun k => by simp [ded]⟩
  | n :: ns, acc, h => by
    unfold ded
    by_cases c : acc.any (· == n) = true
    · rw [if_pos c]
      obtain ⟨h1, h2⟩ := ded_spec ns acc h
      refine ⟨h1, fun k => (h2 k).trans ?_⟩
      have hm : n ∈ acc := by
        obtain ⟨x, hx, e⟩ := List.any_eq_true.mp c
        rwa [eq_of_beq e] at hx
      simp only [List.mem_cons]
      constructor
      · rintro (z | z)
        · exact .inl z
        · exact .inr (.inr z)
      · rintro (z | z | z)
        · exact .inl z
        · subst z; exact .inl hm
        · exact .inr z
    · rw [if_neg c]
      have hn : n ∉ acc := fun hm => c (List.any_eq_true.mpr ⟨n, hm, beq_self_eq_true n⟩)
      obtain ⟨h1, h2⟩ := ded_spec ns (acc ++ [n]) (List.nodup_append.mpr ⟨h, List.nodup_cons.mpr ⟨List.not_mem_nil, List.nodup_nil⟩, fun a ha b hb => by
        rw [List.mem_singleton] at hb
        subst hb
        exact fun e => hn (e ▸ ha)⟩)
      refine ⟨h1, fun k => (h2 k).trans ?_⟩
      simp only [List.mem_append, List.mem_cons, List.not_mem_nil, or_false]
      exact or_assoc
theorem ded_nodup (ns : List Int) : (ded [] ns).Nodup := (ded_spec ns [] List.nodup_nil).1
theorem ded_mem (ns : List Int) (k : Int) : k ∈ ded [] ns ↔ k ∈ ns := by simpa using (ded_spec ns [] List.nodup_nil).2 k
theorem ded_len {ns ms : List Int} (h : ms.Nodup) (hm : ∀ k, k ∈ ms ↔ k ∈ ns) : ms.length = (ded [] ns).length := by
  refine (List.perm_iff_count.mpr fun k => ?_ : ms.Perm (ded [] ns)).length_eq
  rw [h.count, (ded_nodup ns).count]
  have : k ∈ ms ↔ k ∈ ded [] ns := (hm k).trans (ded_mem ns k).symm
  by_cases c : k ∈ ms
  · rw [if_pos c, if_pos (this.mp c)]
  · rw [if_neg c, if_neg fun z => c (this.mpr z)]
theorem ded_le (ns : List Int) : ∀ acc : List Int, (ded acc ns).length ≤ acc.length + ns.length := by
  induction ns with
  | nil => intro acc; exact Nat.le_refl _
  | cons n ns ih =>
    intro acc
    unfold ded
    split
    · have := ih acc; simp only [List.length_cons]; omega
    · have := ih (acc ++ [n]); simp only [List.length_append, List.length_cons, List.length_nil] at this ⊢; omega
/-- one after another, rising: there is one such row of given numbers -/
theorem rising_eq : ∀ {xs ys : List Int}, xs.Pairwise (· < ·) → ys.Pairwise (· < ·) → (∀ k, k ∈ xs ↔ k ∈ ys) → xs = ys
  | [], [], _, _, _ => rfl
  | [], y :: ys, _, _, h => absurd ((h y).mpr List.mem_cons_self) List.not_mem_nil
  | x :: xs, [], _, _, h => absurd ((h x).mp List.mem_cons_self) List.not_mem_nil
  | x :: xs, y :: ys, hx, hy, h => by
    obtain ⟨x1, x2⟩ := List.pairwise_cons.mp hx
    obtain ⟨y1, y2⟩ := List.pairwise_cons.mp hy
    have e : x = y := by
      rcases List.mem_cons.mp ((h x).mp List.mem_cons_self) with e | e
      · exact e
      · have l1 := y1 x e
        rcases List.mem_cons.mp ((h y).mpr List.mem_cons_self) with e2 | e2
        · exact e2.symm
        · have l2 := x1 y e2; omega
    subst e
    rw [rising_eq x2 y2 fun k => ?_]
    constructor
    · intro z
      rcases List.mem_cons.mp ((h k).mp (List.mem_cons_of_mem _ z)) with e | e
      · subst e; exact absurd (x1 k z) (by omega)
      · exact e
    · intro z
      rcases List.mem_cons.mp ((h k).mpr (List.mem_cons_of_mem _ z)) with e | e
      · subst e; exact absurd (y1 k z) (by omega)
      · exact e
/-- the numbers of a row, once each, rising -/
def rise (ns : List Int) : List Int := (ded [] ns).mergeSort fun a b => decide (a ≤ b)
theorem rise_mem (ns : List Int) (k : Int) : k ∈ rise ns ↔ k ∈ ns := by
  unfold rise
  rw [List.mem_mergeSort, ded_mem]
theorem rise_sorted (ns : List Int) : (rise ns).Pairwise (· < ·) := by
  have h1 : (rise ns).Pairwise (fun a b => decide (a ≤ b) = true) := List.pairwise_mergeSort (fun a b c h1 h2 => by simp only [decide_eq_true_eq] at *; omega) (fun a b => by simp only [Bool.or_eq_true, decide_eq_true_eq]; omega) _
  have h2 : (rise ns).Nodup := (List.mergeSort_perm _ _).nodup_iff.mpr (ded_nodup ns)
  exact (h1.and h2).imp fun ⟨a, b⟩ => by
    have := of_decide_eq_true a
    omega
variable {X : Cx} {w : Wd} {Wx : WXt} {a : Expr} {ta : TE} {pos : Pos} {ma : Env → M PyData}
/-- the set of a list or tuple of whole numbers -/
theorem call_setI {P : Program} {w : World} {A : Around} {E : Value → Shared → Prop} {s : Shared} {l : Addr} {its : Array Value} (ns : List Int) {Q : Value → Shared → Prop} (nh : A.handled = none) (il : s.heap.IsList l its ∨ s.heap.IsTuple l its) (ia : PyProof.Rows.IntsAre its.toList ns) (bd : ns.length + 1 < scanBound)
    (k : ∀ s2, SetMade w s ns s2 → Q (.ref s.heap.objs.size) s2) : wpAny (model P w) A (call (.type "set") [.ref l]) Q E s := by
  rcases il with il | il
  · exact call_set_listR ns nh il ia bd k
  · exact call_set_tupI ns nh il ia bd fun h' tk c r hc hk => k _ ⟨h', tk, c, rfl, r, hc, hk⟩
theorem setR_count {w : World} {h : Heap} {p : Addr} {ns : List Int} {c : Nat} (r : SetR w h p (fun j => decide (j ∈ ns)) c) : c = (ded [] ns).length := by
  obtain ⟨o, es, ep, t, _, _, _, _, nd, hm, _, _, hn, _⟩ := r
  rw [← hn, ← ded_len (ns := ns) nd fun k => by rw [← hm k, decide_eq_true_eq], List.length_map, Array.length_toList]
def tSetX (K : PySem.W.Frag) (ta : TE) (R : List Int → VK → Hp → Prop) : TE := fun σ H Q => ta σ H fun x H1 => ∃ (l : Addr) (ns : List Int), x = .ref l ∧ (SqL K H1 l (ns.map V.int) ∨ SqT K H1 l (ns.map V.int)) ∧ ns.length ≤ 4000 ∧ R ns Q H1
theorem at_setX {pins : List (Addr × Obj)} {s : Shared} {σ : L2.St} {H : Hp} {l : Addr} {ns : List Int} (I : Inv X pins σ H s) (h : SqL X.K H l (ns.map V.int) ∨ SqT X.K H l (ns.map V.int)) : ∃ its : Array Value, (s.heap.IsList l its ∨ s.heap.IsTuple l its) ∧ PyProof.Rows.IntsAre its.toList ns := by
  rcases h with h | h
  · obtain ⟨its, r, p, _⟩ := I.list h
    exact ⟨_, .inl p.isList, by simpa using RZ.intsAre_vals r⟩
  · obtain ⟨its, r, p, _⟩ := I.tuple h
    exact ⟨_, .inr p, by simpa using RZ.intsAre_vals r⟩
theorem pe_lenSetX {p p2 q : Pos} (hc : X.calm = true) (hg : Gl X "len") (hm : X.mg "len" = none) (hg2 : Gl X "set") (hm2 : X.mg "set" = none) (ha : PE X a ta) (na : starEach [a] X.env = (false, eval a X.env) :: starEach [] X.env) :
    PE X (.Call (.Name "len" p) [.Call (.Name "set" p2) [a] [] q] [] pos) (tSetX X.K ta fun ns Q H => Q (.int ((ded [] ns).length : Nat)) H) :=
  ⟨fun pins s σ H Q I h => PyProof.Rows.Call_ (ld_blt I hg hm boot_len (PyProof.Rows.callWith_builtin1 (PyProof.Rows.args_cons (PyProof.Rows.Call_ (ld_blt I hg2 hm2 PyProof.Rows.boot_set (PyProof.Rows.callWith_type1 (PyProof.Rows.args_cons (thn (ha.run pins s σ H _ I h) fun v s1 ⟨x, H1, I1, r1, l, ns, ex, hq, hl, q1⟩ => PyProof.Rows.args_nil (by
    subst ex
    cases r1
    obtain ⟨its, il, ia⟩ := at_setX I1 hq
    refine call_setI ns (I1.ok.hd hc) il ia (by unfold scanBound; omega) fun s2 ⟨h', tk, c, e2, r, hcn, hk⟩ => PyProof.Rows.args_nil ?_
    subst e2
    have hcc := setR_count r
    have I2 : Inv X pins σ H1 { s1 with heap := h', toks := tk } := I1.kept fun b o e => hk b o e
    obtain ⟨o, es, ep, t, ho, hex, hd, _, _, _, _, hf, hn, _⟩ := r
    exact call_len_set ho hex hd hf (by rw [hn]; omega) ⟨.int (c : Nat), H1, I2.tok _, ⟨_, by rw [hn]⟩, by rw [hcc]; exact q1⟩)) na) na rfl))) rfl) rfl rfl))⟩
theorem pe_sortSetX {p p2 q : Pos} (hc : X.calm = true) (hg : Gl X "sorted") (hm : X.mg "sorted" = none) (hg2 : Gl X "set") (hm2 : X.mg "set" = none) (ha : PE X a ta) (na : starEach [a] X.env = (false, eval a X.env) :: starEach [] X.env) :
    PE X (.Call (.Name "sorted" p) [.Call (.Name "set" p2) [a] [] q] [] pos) (tSetX X.K ta fun ns Q H => (ded [] ns).length < 64 ∧ ∀ r, H r = none → Q (.ref r) (upd H r (.lst ((rise ns).map V.int)))) :=
  ⟨fun pins s σ H Q I h => PyProof.Rows.Call_ (ld_blt I hg hm PyProof.Rows.boot_sorted (PyProof.Rows.callWith_builtin1 (PyProof.Rows.args_cons (PyProof.Rows.Call_ (ld_blt I hg2 hm2 PyProof.Rows.boot_set (PyProof.Rows.callWith_type1 (PyProof.Rows.args_cons (thn (ha.run pins s σ H _ I h) fun v s1 ⟨x, H1, I1, r1, l, ns, ex, hq, hl, h64, q1⟩ => PyProof.Rows.args_nil (by
    subst ex
    cases r1
    obtain ⟨its, il, ia⟩ := at_setX I1 hq
    refine call_setI ns (I1.ok.hd hc) il ia (by unfold scanBound; omega) fun s2 ⟨h', tk, c, e2, r0, hcn, hk⟩ => PyProof.Rows.args_nil ?_
    have hcc := setR_count r0
    have I2 : Inv X pins σ H1 s2 := by subst e2; exact I1.kept fun b o e => hk b o e
    have r : SetR X.w s2.heap s1.heap.objs.size (fun j => decide (j ∈ ns)) c := by subst e2; exact r0
    clear e2 r0
    refine sorted_set r (I2.ok.hd hc) (by omega) fun s' p out c2 ns2 k g o hp hgp hi hs hmm hl2 => ?_
    have e : ns2 = rise ns := rising_eq hs (rise_sorted ns) fun k => by rw [hmm k, decide_eq_true_eq, rise_mem]
    subst e
    have hn : H1 p = none := I2.hok.fresh hp
    have hlen : ((rise ns).map V.int).length ≤ sizeLine := by rw [List.length_map, hl2, sizeLine_eq]; omega
    have J : Inv X pins σ (upd H1 p (.lst ((rise ns).map V.int))) { s2 with heap := s'.heap, gens := s'.gens, drawn := s'.drawn, toks := s'.toks } :=
      I2.call (ch := []) (Un.laid k hp hn) (I2.hok.laid k hp ⟨hlen, out.toList, c2, vals_of_ints hi, hgp⟩) (by rw [g]; exact I2.bare) (fun _ z => nomatch z)
    have es : s' = { s2 with heap := s'.heap, gens := s'.gens, drawn := s'.drawn, toks := s'.toks } := by
      obtain ⟨x1, x2, x3, x4, x5⟩ := s'
      obtain ⟨y1, y2, y3, y4, y5⟩ := s2
      cases o
      rfl
    rw [es]
    exact ⟨.ref p, _, J, rfl, q1 p hn⟩)) na) na rfl))) rfl) rfl rfl))⟩
theorem held_ints {G H1 : Hp} {σ : L2.St} {ρ : Env} {ls : List PyData} {x : V} {d : PyData} {xs : List PyData} {ns : List Int} {K : PySem.W.Frag} (iv : IV w G H1 σ ρ ls) (r1 : Held G σ ρ x d) (hc : seqOf d = some xs) (hi : intsOf xs = some ns) :
    ∃ l, x = .ref l ∧ (SqL K H1 l (ns.map V.int) ∨ SqT K H1 l (ns.map V.int)) := by
  obtain ⟨l, rfl, hcase⟩ := held_src (K := K) iv r1 hc
  have sm : Same G G := fun _ _ e => e
  rcases hcase with ⟨vs, q, _, _, go⟩ | ⟨vs, q, _, _, go⟩
  · obtain ⟨_, us, e, r⟩ := go G H1 ⟨sm, ls, iv⟩
    rw [r.ints hi] at e
    exact ⟨l, rfl, .inl (.of e)⟩
  · obtain ⟨_, us, e, r⟩ := go G H1 ⟨sm, ls, iv⟩
    rw [r.ints hi] at e
    exact ⟨l, rfl, .inr (.of e)⟩
theorem sn_lenset {p p2 q : Pos} (hc : X.calm = true) (hg : Gl X "len") (hm : X.mg "len" = none) (hg2 : Gl X "set") (hm2 : X.mg "set" = none) (hs : ∀ x p, a ≠ .Starred x p) (ha : PE X a (Tm w Wx rH ma)) :
    PE X (.Call (.Name "len" p) [.Call (.Name "set" p2) [a] [] q] [] pos) (Tm w Wx rV fun ρ => M.bind (ma ρ) fun x => M.opt (f1 .lenset x)) :=
  pe_imp (pe_lenSetX hc hg hm hg2 hm2 ha (star1 hs [] X.env)) fun σ H Q ⟨G, ρ, ls, p⟩ => ⟨G, ρ, ls, p.bind.imp fun x H1 ⟨G1, ls1, d1, r1, s1, p1⟩ => by
    obtain ⟨v, ho, k⟩ := p1.fin
    obtain ⟨xs, h1, ho⟩ := Option.bind_eq_some_iff.mp (show (seqOf d1).bind _ = some v from ho)
    obtain ⟨ns, h2, ho⟩ := Option.bind_eq_some_iff.mp ho
    simp only [Option.ite_none_right_eq_some, Option.some.injEq] at ho
    obtain ⟨h3, rfl⟩ := ho
    obtain ⟨l, rfl, h4⟩ := held_ints (K := X.K) p1.1 r1 h1 h2
    exact ⟨l, ns, rfl, h4, h3, k _ G1 H1 (.refl p1.sub) (.int _)⟩⟩
theorem sn_sortset {p p2 q : Pos} (hc : X.calm = true) (hg : Gl X "sorted") (hm : X.mg "sorted" = none) (hg2 : Gl X "set") (hm2 : X.mg "set" = none) (hs : ∀ x p, a ≠ .Starred x p) (ha : PE X a (Tm w Wx rH ma)) :
    PE X (.Call (.Name "sorted" p) [.Call (.Name "set" p2) [a] [] q] [] pos) (Tm w Wx rN fun ρ => M.bind (ma ρ) fun x => M.opt (f1 .sortedset x)) :=
  pe_imp (pe_sortSetX hc hg hm hg2 hm2 ha (star1 hs [] X.env)) fun σ H Q ⟨G, ρ, ls, p⟩ => ⟨G, ρ, ls, (p.bind (rel2 := rN) (rel := rH)).imp fun x H1 ⟨G1, ls1, d1, r1, s1, p1⟩ => by
    obtain ⟨v, ho, k⟩ := p1.fin
    obtain ⟨xs, h1, ho⟩ := Option.bind_eq_some_iff.mp (show (seqOf d1).bind _ = some v from ho)
    obtain ⟨ns, h2, ho⟩ := Option.bind_eq_some_iff.mp ho
    simp only [Option.ite_none_right_eq_some, Option.some.injEq] at ho
    obtain ⟨⟨h3, h5⟩, rfl⟩ := ho
    obtain ⟨l, rfl, h4⟩ := held_ints (K := X.K) p1.1 r1 h1 h2
    refine ⟨l, ns, rfl, h4, h3, h5, fun r nr => k _ G1 _ (.own p1.sub nr) ⟨r, rfl, nr, ?_, _, upd_same, ?_⟩⟩
    · cases e : G1 r with
      | none => rfl
      | some o => rw [p1.sub r o e] at nr; cases nr
    · exact Reps.of_ints (rise ns)⟩
end Pv

set_option maxRecDepth 100000
set_option maxHeartbeats 1000000
/-! Targets; comprehensions. -/
namespace Pv
open PySem PySem.W L2
variable {X : Cx} {w : Wd} {Wx : WXt} {a b c e tg : Expr} {pos : Pos} {ma mb mc : Env → M PyData}
mutual
def slotsT : Tg → List Nat
  | .nm i => [i]
  | .tp ts => slotsTs ts
def slotsTs : Tgs → List Nat
  | .nil => []
  | .cons t ts => slotsT t ++ slotsTs ts
end
def locOrCell (os : Scope) (x : Str) : Bool := os.names.lookup x == some .local || os.names.lookup x == some .cell
mutual
def chkT (N : List Str) (os : Scope) : Tg → Expr → Bool
  | .nm i, .Name x _ => N[i]? == some x && locOrCell os x
  | .tp ts, .Tuple es _ _ => chkTs N os ts es
  | _, _ => false
def chkTs (N : List Str) (os : Scope) : Tgs → List Expr → Bool
  | .nil, [] => true
  | .cons t ts, e :: es => chkT N os t e && chkTs N os ts es
  | _, _ => false
end
def lenTs : Tgs → Nat
  | .nil => 0
  | .cons _ ts => lenTs ts + 1
/-- the scope os is the frame's own -/
structure Own (X : Cx) (os : Scope) : Prop where
  loc : ∀ x, os.names.lookup x = some .local → X.env.scope.names.lookup x = some .local
  cel : ∀ x, os.names.lookup x = some .cell → X.env.scope.names.lookup x = some .cell ∧ X.fn x = true
theorem IV.set {G H : Hp} {σ : L2.St} {ρ : Env} {ls : List PyData} {i : Nat} {v : V} {d : PyData} (h : IV w G H σ ρ ls) (r : Rep G v d) : IV w G H (σ.set i (some v)) (ρ.set i (.fz d)) ls := by
  refine ⟨h.iw, fun j s e => ?_, fun j k d1 d2 ne e1 e2 => ?_, by rw [List.length_set, List.length_set]; exact h.ln⟩
  · by_cases hj : i = j
    · subst hj
      have hlt : i < ρ.length := by
        have := (List.getElem?_eq_some_iff.mp e).1
        rwa [List.length_set] at this
      rw [List.getElem?_set_self hlt] at e
      cases e
      exact ⟨v, by rw [List.getElem?_set_self (by rw [h.ln]; exact hlt)], r⟩
    · rw [List.getElem?_set_ne hj] at e
      have q := h.sl j s e
      cases s with
      | no => trivial
      | fz d1 => obtain ⟨u, e1, r1⟩ := q; exact ⟨u, by rw [List.getElem?_set_ne hj]; exact e1, r1⟩
      | ow d1 => obtain ⟨u, e1, r1⟩ := q; exact ⟨u, by rw [List.getElem?_set_ne hj]; exact e1, r1⟩
      | st =>
        show (σ.set i (some v))[j]? = _
        rw [List.getElem?_set_ne hj]
        exact q
  · have f : ∀ {k : Nat} {d : PyData}, (ρ.set i (.fz d))[k]? = some (Slot.ow d1) ∨ True := fun {_ _} => .inr trivial
    have g : ∀ {k : Nat} {d3 : PyData}, (ρ.set i (Slot.fz d))[k]? = some (Slot.ow d3) → i ≠ k ∧ ρ[k]? = some (Slot.ow d3) := fun {k d3} e => by
      by_cases hk : i = k
      · subst hk
        have hlt : i < ρ.length := by
          have := (List.getElem?_eq_some_iff.mp e).1
          rwa [List.length_set] at this
        rw [List.getElem?_set_self hlt] at e
        cases e
      · rw [List.getElem?_set_ne hk] at e
        exact ⟨hk, e⟩
    obtain ⟨n1, q1⟩ := g e1
    obtain ⟨n2, q2⟩ := g e2
    rw [List.getElem?_set_ne n1, List.getElem?_set_ne n2]
    exact h.ds j k d1 d2 ne q1 q2
def gT (w : Wd) (t : Tg) : TG := fun v σ H Q => ∃ G ρ ls d ρ', IV w G H σ ρ ls ∧ Rep G v d ∧ bindT t d ρ = some ρ' ∧ ∀ σ', IV w G H σ' ρ' ls → (∀ i : Nat, i ∉ slotsT t → σ'[i]? = σ[i]?) → Q σ' H
def gTs (w : Wd) (t : Tgs) : TGs := fun vs σ H Q => ∃ G ρ ls ds ρ', IV w G H σ ρ ls ∧ Reps G vs ds ∧ bindTs t ds ρ = some ρ' ∧ ∀ σ', IV w G H σ' ρ' ls → (∀ i : Nat, i ∉ slotsTs t → σ'[i]? = σ[i]?) → Q σ' H
theorem pg_imp {e : Expr} {t t' : TG} (h : PG X e t) (k : ∀ v σ H Q, t' v σ H Q → t v σ H Q) : PG X e t' := ⟨fun pins s σ H v u Q I r hw => h.run pins s σ H v u Q I r (k v σ H Q hw)⟩
theorem pgs_imp {e : List Expr} {t t' : TGs} (h : PGs X e t) (k : ∀ v σ H Q, t' v σ H Q → t v σ H Q) : PGs X e t' := ⟨fun pins s σ H v u Q I r hw => h.run pins s σ H v u Q I r (k v σ H Q hw)⟩
theorem chkTs_len {N : List Str} {os : Scope} : ∀ {ts : Tgs} {es : List Expr}, chkTs N os ts es = true → (assignEach es X.env).length = lenTs ts ∧ (assignEach es X.env).findIdx? (·.1) = none
  | .nil, [], _ => ⟨rfl, rfl⟩
  | .cons t ts, e :: es, h => by
    simp only [chkTs, Bool.and_eq_true] at h
    obtain ⟨h1, h2⟩ := chkTs_len h.2
    cases e with
    | Starred x p => cases t <;> simp [chkT] at h
    | Name x p => exact ⟨congrArg (· + 1) h1, by show List.findIdx? _ ((false, _) :: assignEach es X.env) = none; rw [List.findIdx?_cons]; simp [h2]⟩
    | Tuple x p q => exact ⟨congrArg (· + 1) h1, by show List.findIdx? _ ((false, _) :: assignEach es X.env) = none; rw [List.findIdx?_cons]; simp [h2]⟩
    | _ => cases t <;> simp [chkT] at h
  | .nil, _ :: _, h => by simp [chkTs] at h
  | .cons _ _, [], h => by simp [chkTs] at h
theorem bindTs_len : ∀ {ts : Tgs} {ds : List PyData} {ρ ρ' : Env}, bindTs ts ds ρ = some ρ' → ds.length = lenTs ts
  | .nil, [], _, _, _ => rfl
  | .cons t ts, d :: ds, ρ, ρ', h => by
    simp only [bindTs] at h
    cases e : bindT t d ρ with
    | none => rw [e] at h; cases h
    | some ρ1 =>
      rw [e] at h
      exact congrArg (· + 1) (bindTs_len h)
  | .nil, _ :: _, _, _, h => by simp [bindTs] at h
  | .cons _ _, [], _, _, h => by simp [bindTs] at h
mutual
theorem sn_tg {N : List Str} {os : Scope} (hN : X.N = N) (nd : N.Nodup) (ow : Own X os) (hc : X.calm = true) : ∀ {t : Tg} {e : Expr}, chkT N os t e = true → PG X e (gT w t)
  | .nm i, .Name x p, h => by
    simp only [chkT, locOrCell, Bool.and_eq_true, Bool.or_eq_true, beq_iff_eq] at h
    obtain ⟨h1, h2⟩ := h
    have hl : Loc X.env.scope x := by
      rcases h2 with h2 | h2
      · exact .inl (ow.loc x h2)
      · exact .inr (ow.cel x h2).1
    have hf : X.fn x = true ∨ X.env.scope.names.lookup x = some .local := by
      rcases h2 with h2 | h2
      · exact .inr (ow.loc x h2)
      · exact .inl (ow.cel x h2).2
    subst hN
    refine pg_imp (pg_name nd h1 hl hf) fun v σ H Q ⟨G, ρ, ls, d, ρ', iv, r, hb, k⟩ => ?_
    simp only [bindT] at hb
    have hb' : ρ' = ρ.set i (.fz d) := by
      split at hb <;> simp at hb <;> exact hb.symm
    subst hb'
    exact k _ (iv.set r) fun j hj => by
      rw [List.getElem?_set_ne]
      intro e
      exact hj (by simp [slotsT, e])
  | .tp ts, .Tuple es k p, h => by
    simp only [chkT] at h
    obtain ⟨h1, h2⟩ := chkTs_len (X := X) h
    refine pg_imp (pg_tup (n := lenTs ts) hc (sn_tgs hN nd ow hc h) h1 h2) fun v σ H Q ⟨G, ρ, ls, d, ρ', iv, r, hb, kq⟩ => ?_
    cases r with
    | tup e r =>
      simp only [bindT] at hb
      exact ⟨_, _, rfl, .of (iv.iw.sub _ _ e), by rw [r.length]; exact bindTs_len hb, G, ρ, ls, _, ρ', iv, r, hb, kq⟩
    | _ => simp [bindT] at hb
  | .nm i, .Tuple .., h => by simp [chkT] at h
  | .tp _, .Name .., h => by simp [chkT] at h
  | .nm _, .BoolOp .., h => by simp [chkT] at h
  | .nm _, .NamedExpr .., h => by simp [chkT] at h
  | .nm _, .BinOp .., h => by simp [chkT] at h
  | .nm _, .UnaryOp .., h => by simp [chkT] at h
  | .nm _, .Lambda .., h => by simp [chkT] at h
  | .nm _, .IfExp .., h => by simp [chkT] at h
  | .nm _, .Dict .., h => by simp [chkT] at h
  | .nm _, .Set .., h => by simp [chkT] at h
  | .nm _, .ListComp .., h => by simp [chkT] at h
  | .nm _, .SetComp .., h => by simp [chkT] at h
  | .nm _, .DictComp .., h => by simp [chkT] at h
  | .nm _, .GeneratorExp .., h => by simp [chkT] at h
  | .nm _, .Await .., h => by simp [chkT] at h
  | .nm _, .Yield .., h => by simp [chkT] at h
  | .nm _, .YieldFrom .., h => by simp [chkT] at h
  | .nm _, .Compare .., h => by simp [chkT] at h
  | .nm _, .Call .., h => by simp [chkT] at h
  | .nm _, .FormattedValue .., h => by simp [chkT] at h
  | .nm _, .JoinedStr .., h => by simp [chkT] at h
  | .nm _, .Constant .., h => by simp [chkT] at h
  | .nm _, .Attribute .., h => by simp [chkT] at h
  | .nm _, .Subscript .., h => by simp [chkT] at h
  | .nm _, .Starred .., h => by simp [chkT] at h
  | .nm _, .List .., h => by simp [chkT] at h
  | .nm _, .Slice .., h => by simp [chkT] at h
  | .tp _, .BoolOp .., h => by simp [chkT] at h
  | .tp _, .NamedExpr .., h => by simp [chkT] at h
  | .tp _, .BinOp .., h => by simp [chkT] at h
  | .tp _, .UnaryOp .., h => by simp [chkT] at h
  | .tp _, .Lambda .., h => by simp [chkT] at h
  | .tp _, .IfExp .., h => by simp [chkT] at h
  | .tp _, .Dict .., h => by simp [chkT] at h
  | .tp _, .Set .., h => by simp [chkT] at h
  | .tp _, .ListComp .., h => by simp [chkT] at h
  | .tp _, .SetComp .., h => by simp [chkT] at h
  | .tp _, .DictComp .., h => by simp [chkT] at h
  | .tp _, .GeneratorExp .., h => by simp [chkT] at h
  | .tp _, .Await .., h => by simp [chkT] at h
  | .tp _, .Yield .., h => by simp [chkT] at h
  | .tp _, .YieldFrom .., h => by simp [chkT] at h
  | .tp _, .Compare .., h => by simp [chkT] at h
  | .tp _, .Call .., h => by simp [chkT] at h
  | .tp _, .FormattedValue .., h => by simp [chkT] at h
  | .tp _, .JoinedStr .., h => by simp [chkT] at h
  | .tp _, .Constant .., h => by simp [chkT] at h
  | .tp _, .Attribute .., h => by simp [chkT] at h
  | .tp _, .Subscript .., h => by simp [chkT] at h
  | .tp _, .Starred .., h => by simp [chkT] at h
  | .tp _, .List .., h => by simp [chkT] at h
  | .tp _, .Slice .., h => by simp [chkT] at h
theorem sn_tgs {N : List Str} {os : Scope} (hN : X.N = N) (nd : N.Nodup) (ow : Own X os) (hc : X.calm = true) : ∀ {t : Tgs} {e : List Expr}, chkTs N os t e = true → PGs X e (gTs w t)
  | .nil, [], _ => pgs_imp pgs_nil fun v σ H Q ⟨G, ρ, ls, d, ρ', iv, r, hb, kq⟩ => by
    cases r with
    | nil =>
      simp only [bindTs, Option.some.injEq] at hb
      subst hb
      exact ⟨rfl, kq σ iv fun _ _ => rfl⟩
    | cons _ _ => simp [bindTs] at hb
  | .cons t ts, e :: es, h => by
    simp only [chkTs, Bool.and_eq_true] at h
    have hs : (assignEach (e :: es) X.env).map (·.2) = assign e X.env :: (assignEach es X.env).map (·.2) := by
      cases e with
      | Starred x p => cases t <;> simp [chkT] at h
      | _ => rfl
    refine pgs_imp (pgs_cons (sn_tg hN nd ow hc h.1) (sn_tgs hN nd ow hc h.2) hs) fun v σ H Q ⟨G, ρ, ls, d, ρ', iv, r, hb, kq⟩ => ?_
    cases r with
    | nil => simp [bindTs] at hb
    | @cons v0 vs0 d0 ds0 r rs =>
      simp only [bindTs] at hb
      cases e1 : bindT t d0 ρ with
      | none => rw [e1] at hb; cases hb
      | some ρ1 =>
        rw [e1] at hb
        refine ⟨_, _, rfl, G, ρ, ls, d0, ρ1, iv, r, e1, fun σ1 iv1 k1 => ⟨G, ρ1, ls, ds0, ρ', iv1, rs, hb, fun σ2 iv2 k2 => kq σ2 iv2 fun i hi => ?_⟩⟩
        simp only [slotsTs, List.mem_append, not_or] at hi
        rw [k2 i hi.2, k1 i hi.1]
  | .nil, _ :: _, h => by simp [chkTs] at h
  | .cons _ _, [], h => by simp [chkTs] at h
end
end Pv

set_option maxRecDepth 100000
set_option maxHeartbeats 2000000
/-! Comprehensions. -/
namespace Pv
open PySem PySem.W L2
variable {X : Cx} {w : Wd} {Wx : WXt} {a b c e tg : Expr} {pos : Pos} {ma mb mc : Env → M PyData}
abbrev W0 : WXt := fun _ _ _ => False
theorem wipeE_len (ρ : Env) : ∀ vs : List Nat, (wipeE ρ vs).length = ρ.length
  | [] => rfl
  | v :: vs => by unfold wipeE; rw [List.length_set, wipeE_len ρ vs]
theorem wipe_at {σ : L2.St} : ∀ {vs : List Nat} {i : Nat}, i ∈ vs → i < σ.length → (wipe σ vs)[i]? = some none
  | v :: vs, i, h, hl => by
    unfold wipe
    by_cases e : v = i
    · subst e; rw [List.getElem?_set_self (by rw [wipe_length]; exact hl)]
    · rw [List.getElem?_set_ne e]
      exact wipe_at ((List.mem_cons.mp h).resolve_left fun z => e z.symm) hl
theorem wipe_congr {σ τ : L2.St} {vs : List Nat} (hl : σ.length = τ.length) (h : ∀ i : Nat, i ∉ vs → σ[i]? = τ[i]?) : wipe σ vs = wipe τ vs := by
  apply List.ext_getElem?
  intro i
  by_cases hi : i ∈ vs
  · by_cases hl2 : i < σ.length
    · rw [wipe_at hi hl2, wipe_at hi (by omega)]
    · rw [List.getElem?_eq_none (by rw [wipe_length]; omega), List.getElem?_eq_none (by rw [wipe_length]; omega)]
  · rw [wipe_out hi, wipe_out hi, h i hi]
theorem wipeE_out {ρ : Env} : ∀ {vs : List Nat} {i : Nat}, i ∉ vs → (wipeE ρ vs)[i]? = ρ[i]?
  | [], _, _ => rfl
  | v :: vs, i, h => by
    simp only [List.mem_cons, not_or] at h
    unfold wipeE
    rw [List.getElem?_set_ne (fun z => h.1 z.symm)]
    exact wipeE_out h.2
theorem wipeE_in {ρ : Env} : ∀ {vs : List Nat} {i : Nat} {s : Slot}, i ∈ vs → (wipeE ρ vs)[i]? = some s → s = .no
  | v :: vs, i, s, h, e => by
    unfold wipeE at e
    by_cases q : v = i
    · subst q
      have hlt : v < (wipeE ρ vs).length := by
        have := (List.getElem?_eq_some_iff.mp e).1
        rwa [List.length_set] at this
      rw [List.getElem?_set_self hlt] at e
      cases e; rfl
    · rw [List.getElem?_set_ne q] at e
      exact wipeE_in ((List.mem_cons.mp h).resolve_left fun z => q z.symm) e
theorem IV.wiped {G H : Hp} {σ : L2.St} {ρ : Env} {ls : List PyData} (h : IV w G H σ ρ ls) (vs : List Nat) : IV w G H (wipe σ vs) (wipeE ρ vs) ls := by
  refine ⟨h.iw, fun i s e => ?_, fun i j d d' ne e1 e2 => ?_, by rw [wipe_length, wipeE_len]; exact h.ln⟩
  · by_cases hi : i ∈ vs
    · have := wipeE_in hi e
      subst this
      trivial
    · rw [wipeE_out hi] at e
      have q := h.sl i s e
      cases s with
      | no => trivial
      | fz d1 => obtain ⟨u, e1, r1⟩ := q; exact ⟨u, by rw [wipe_out hi]; exact e1, r1⟩
      | ow d1 => obtain ⟨u, e1, r1⟩ := q; exact ⟨u, by rw [wipe_out hi]; exact e1, r1⟩
      | st => show (wipe σ vs)[i]? = _; rw [wipe_out hi]; exact q
  · have f : ∀ {k : Nat} {d : PyData}, (wipeE ρ vs)[k]? = some (Slot.ow d) → k ∉ vs ∧ ρ[k]? = some (Slot.ow d) := fun {k d} e => by
      by_cases hk : k ∈ vs
      · have := wipeE_in hk e; cases this
      · rw [wipeE_out hk] at e; exact ⟨hk, e⟩
    obtain ⟨n1, q1⟩ := f e1
    obtain ⟨n2, q2⟩ := f e2
    rw [wipe_out n1, wipe_out n2]
    exact h.ds i j d d' ne q1 q2
mutual
theorem bindT_len : ∀ {t : Tg} {d : PyData} {ρ ρ' : Env}, bindT t d ρ = some ρ' → ρ.length = ρ'.length
  | .nm i, d, ρ, ρ', h => by
    simp only [bindT] at h
    split at h <;> simp at h <;> subst h <;> simp
  | .tp ts, d, ρ, ρ', h => by
    cases d <;> simp only [bindT, reduceCtorEq] at h
    exact bindTs_len' h
theorem bindTs_len' : ∀ {t : Tgs} {d : List PyData} {ρ ρ' : Env}, bindTs t d ρ = some ρ' → ρ.length = ρ'.length
  | .nil, [], ρ, ρ', h => by simp only [bindTs, Option.some.injEq] at h; rw [h]
  | .cons t ts, d :: ds, ρ, ρ', h => by
    simp only [bindTs] at h
    cases e : bindT t d ρ with
    | none => rw [e] at h; cases h
    | some ρ1 =>
      rw [e] at h
      exact (bindT_len e).trans (bindTs_len' h)
  | .nil, _ :: _, _, _, h => by simp [bindTs] at h
  | .cons _ _, [], _, _, h => by simp [bindTs] at h
end
/-- an own list that no name holds is changed -/
theorem StR.other {G H : Hp} {ls : List PyData} {D : Addr} {o : HO} (s : StR w G H ls) (h : D ≠ w.sa) : StR w G (upd H D o) ls := by
  obtain ⟨lv, e, r⟩ := s
  exact ⟨lv, by rw [upd_ne (Ne.symm h)]; exact e, r⟩
theorem Ext.other {sa : Addr} {G H G' H' : Hp} {D : Addr} {o : HO} (x : Ext sa G H G' H') (n : H D = none) (ng : G' D = none) : Ext sa G H G' (upd H' D o) := by
  refine ⟨fun b u e => ?_, x.gk, fun b u ne e => ?_⟩
  · have : b ≠ D := fun z => by rw [z, ng] at e; cases e
    rw [upd_ne this]
    exact x.sub b u e
  · have : b ≠ D := fun z => by rw [z, n] at e; cases e
    rw [upd_ne this]
    exact x.hk b u ne e
theorem ok_of_bind {α β : Type} {m : M α} {f : α → M β} {ls ls' : List PyData} {b : β} (h : M.bind m f ls = .ok b ls') : ∃ a ls1, m ls = .ok a ls1 ∧ f a ls1 = .ok b ls' := by
  unfold M.bind at h
  cases e : m ls with
  | ok a ls1 => rw [e] at h; exact ⟨a, ls1, rfl, h⟩
  | exn _ _ => rw [e] at h; cases h
  | stuck => rw [e] at h; cases h
theorem ok_of_opt {α : Type} {o : Option α} {ls ls' : List PyData} {b : α} (h : M.opt o ls = .ok b ls') : o = some b ∧ ls' = ls := by
  cases o with
  | none => cases h
  | some a => cases h; exact ⟨rfl, rfl⟩
/-- one turn: what is pending for an item -/
def itemM (t : Tg) (vs : List Nat) (ρ : Env) (mt : Env → M Bool) (me : Env → M PyData) (x : PyData) : M (Option PyData) :=
  M.bind (M.opt (bindT t x (wipeE ρ vs))) fun ρ' => M.bind (mt ρ') fun k => if k = true then M.bind (me ρ') fun d => M.pure (some d) else M.pure none
theorem item_ok {t : Tg} {vs : List Nat} {ρ : Env} {mt : Env → M Bool} {me : Env → M PyData} {x : PyData} {ls ls' : List PyData} {o : Option PyData} (h : itemM t vs ρ mt me x ls = .ok o ls') :
    ∃ ρ' k ls1, bindT t x (wipeE ρ vs) = some ρ' ∧ mt ρ' ls = .ok k ls1 ∧ ((k = true ∧ ∃ d, me ρ' ls1 = .ok d ls' ∧ o = some d) ∨ (k = false ∧ ls' = ls1 ∧ o = none)) := by
  obtain ⟨ρ', ls0, h1, h2⟩ := ok_of_bind h
  obtain ⟨h0, rfl⟩ := ok_of_opt h1
  obtain ⟨k, ls1, h3, h4⟩ := ok_of_bind h2
  refine ⟨ρ', k, ls1, h0, h3, ?_⟩
  cases k with
  | true =>
    rw [if_pos rfl] at h4
    obtain ⟨d, ls2, h5, h6⟩ := ok_of_bind h4
    cases h6
    exact .inl ⟨rfl, d, h5, rfl⟩
  | false =>
    rw [if_neg Bool.false_ne_true] at h4
    cases h4
    exact .inr ⟨rfl, rfl, rfl⟩
theorem loopC_cons {f : PyData → M (Option PyData)} {x : PyData} {xs acc : List PyData} {ls : List PyData} {P : List PyData → List PyData → Prop} {Er : Ex → List PyData → Prop} {g : List PyData → M PyData} {P' : PyData → List PyData → Prop}
    (h : Out (M.bind (loopC f (x :: xs) acc) g ls) P' Er) : ∃ o ls', f x ls = .ok o ls' ∧ Out (M.bind (loopC f xs (match o with | some d => acc ++ [d] | none => acc)) g ls') P' Er := by
  unfold M.bind loopC at h
  cases e : f x ls with
  | ok o ls' =>
    rw [e] at h
    refine ⟨o, ls', rfl, ?_⟩
    cases o with
    | none => exact h
    | some d => exact h
  | exn _ _ => rw [e] at h; exact h.elim
  | stuck => rw [e] at h; exact h.elim
theorem lc_term {vs : List Nat} {t : Tg} {mi : Env → M (List PyData)} {mt : Env → M Bool} {me : Env → M PyData} {σ : L2.St} {H : Hp} {Q : VK} (hst : ∀ i ∈ slotsT t, i ∈ vs)
    (h : Tm w Wx rN (fun ρ => M.bind (mi ρ) fun xs => M.bind (loopC (itemM t vs ρ mt me) xs []) fun ds => M.pure (.list ds)) σ H Q) :
    tLc (Tm w Wx (rIb w) mi) (gT w t) (Tm w W0 rB mt) (Tm w W0 rV me) vs σ H Q :=
  let ⟨G, ρ, ls, p⟩ := h
  ⟨G, ρ, ls, p.bind.imp fun J H1 ⟨G1, ls1, xs, src, s1, p1⟩ => by
    intro D nD
    have sb1 := p1.sub
    have hDs : D ≠ w.sa := fun z => p1.1.iw.st.nn (by rw [← z]; exact nD)
    have gD : G1 D = none := by
      cases e : G1 D with
      | none => rfl
      | some o => rw [sb1 D o e] at nD; cases nD
    let Fin : List PyData → List PyData → Nat → Prop := fun accd ls2 i => Out (M.bind (loopC (itemM t vs ρ mt me) (xs.drop i) accd) (fun ds => M.pure (PyData.list ds)) ls2)
      (fun d ls' => ∀ v G' H', Ext w.sa G1 H1 G' H' → StR w G' H' ls' → rN H1 G' H' σ ρ v d → Q v H') (fun x ls' => ∀ G' H', Ext w.sa G1 H1 G' H' → StR w G' H' ls' → Wx x σ H')
    let Tn : Nat → Hp → Prop := fun i H => i ≤ xs.length ∧ ∃ G2 ls2 acc accd, Ext w.sa G1 H1 G2 H ∧ StR w G2 H ls2 ∧ G2 D = none ∧ H D = some (.lst acc) ∧ Reps G2 acc accd ∧ acc.length ≤ i ∧ Fin accd ls2 i
    refine ⟨fun i m H => m = xs.length - i ∧ Tn i H, ⟨_, rfl, Nat.zero_le _, G1, ls1, [], [], ?_, ?_, gD, upd_same, .nil, Nat.le_refl _, ?_⟩, ?_⟩
    · exact (Ext.refl sb1).other nD gD
    · exact p1.1.iw.st.other hDs
    · show Out _ _ _
      rw [List.drop_zero]
      exact p1.2
    · rintro i m H2 ⟨rfl, hi2, G2, ls2, acc, accd, x2, st2, gD2, hD2, rp2, hacc, fin⟩
      have iv2 : IV w G2 H2 σ ρ ls2 := p1.1.ext x2 st2
      have sm2 : Same G1 G2 := x2.same sb1
      by_cases hlt : i < xs.length
      · refine .inr ⟨src.go i G2 H2 ⟨sm2, ls2, iv2⟩ hlt, Tn (i + 1), fun H' tn => ⟨xs.length - (i + 1), by omega, rfl, tn⟩, fun x H3 y => ?_⟩
        have hd : xs[i]? = some xs[i] := List.getElem?_eq_getElem hlt
        obtain ⟨G3, g3, r3⟩ := src.yld i G2 H2 x H3 _ ⟨sm2, ls2, iv2⟩ hd y
        have fin' := fin
        simp only [Fin] at fin'
        rw [List.drop_eq_getElem_cons hlt] at fin'
        obtain ⟨o, ls3, hf, fin2⟩ := loopC_cons (P := fun _ _ => True) fin'
        obtain ⟨ρ', k, ls4, hb, hk, hcase⟩ := item_ok hf
        have st3 : StR w G3 H3 ls2 := g3.st iv2.iw.sub st2
        have iv3 := (iv2.ext g3.ext st3).wiped vs
        refine ⟨G3, wipeE ρ vs, ls2, xs[i], ρ', iv3, r3, hb, fun σ2 iv4 hσ2 => ⟨?_, ?_⟩⟩
        · refine (wipe_congr (by rw [iv4.ln, ← wipe_length σ vs, iv3.ln]; exact (bindT_len hb).symm) fun j hj => ?_)
          rw [hσ2 j (fun z => hj (hst j z)), wipe_out hj]
        · refine ⟨G3, ρ', ls2, iv4, ?_⟩
          rw [hk]
          intro b G4 H4 x4 st4 eb
          cases eb
          have nD3 : H3 D ≠ none := by rw [g3.hk D _ hD2]; simp
          have hD4 : H4 D = some (.lst acc) := x4.hk D _ hDs (g3.hk D _ hD2)
          have gD4 : G4 D = none := (x4.gk D nD3).trans ((g3.gk D (by rw [hD2]; simp)).trans gD2)
          have xx4 : Ext w.sa G1 H1 G4 H4 := (x2.trans st2.nn g3.ext).trans st3.nn x4
          have sm24 : Same G2 G4 := fun b u e => x4.same g3.sub b u (g3.same iv2.iw.sub b u e)
          rcases hcase with ⟨rfl, d, hme, rfl⟩ | ⟨rfl, rfl, rfl⟩
          · rw [if_pos rfl]
            refine ⟨G4, ρ', ls4, iv4.ext x4 st4, ?_⟩
            rw [hme]
            intro v G5 H5 x5 st5 r5
            have nD4 : H4 D ≠ none := by rw [hD4]; simp
            have hD5 : H5 D = some (.lst acc) := x5.hk D _ hDs hD4
            have gD5 : G5 D = none := (x5.gk D nD4).trans gD4
            have hz := src.len
            refine ⟨acc, hD5, by omega, by omega, G5, ls3, acc ++ [v], accd ++ [d], ?_, st5.other hDs, gD5, upd_same, ?_, by rw [List.length_append]; simp; omega, fin2⟩
            · exact (xx4.trans st4.nn x5).other nD gD5
            · exact ((rp2.mono sm24).mono (x5.same x4.sub)).append (.cons r5 .nil)
          · rw [if_neg Bool.false_ne_true]
            exact ⟨by omega, G4, ls3, acc, accd, xx4, st4, gD4, hD4, rp2.mono sm24, by omega, fin2⟩
      · have e : i = xs.length := by omega
        subst e
        refine .inl ⟨src.stop G2 H2 ⟨sm2, ls2, iv2⟩, ?_⟩
        have fin3 := fin
        simp only [Fin] at fin3
        rw [List.drop_length] at fin3
        exact fin3 (.ref D) G2 H2 x2 st2 ⟨D, rfl, nD, gD2, acc, hD2, rp2⟩⟩
theorem sn_lc {iter : Expr} {ifs : List Expr} {elt : Expr} {scope : Scope} {own : List (Str × Nat)} {vs : List Nat} {t : Tg} {mi : Env → M (List PyData)} {mt : Env → M Bool} {me : Env → M PyData}
    (hcalm : X.calm = true) (nd : X.N.Nodup) (hi : PI X tg iter (Tm w Wx (rIb w) mi)) (ok : BlkOk X.N X.env.scope scope own) (hvs : own.map (·.2) = vs) (hst : ∀ i ∈ slotsT t, i ∈ vs)
    (hg : ∀ (s : Shared) (H : Hp) (C : Addr) (cl : List (Str × Addr)) (fp : List Addr), PG (X.blk s H scope (compEnvC scope cl C X.env) fp) tg (gT w t))
    (ht : ∀ (s : Shared) (H : Hp) (C : Addr) (cl : List (Str × Addr)) (fp : List Addr), PTs (X.blk s H scope (compEnvC scope cl C X.env) fp) ifs (Tm w W0 rB mt))
    (he : ∀ (s : Shared) (H : Hp) (C : Addr) (cl : List (Str × Addr)) (fp : List Addr), PE (X.blk s H scope (compEnvC scope cl C X.env) fp) elt (Tm w W0 rV me))
    (hs : ∀ x, foldedSetIterable iter X.env x = pure x) :
    PE X (.ListComp elt [⟨tg, iter, ifs, 0⟩] scope pos) (Tm w Wx rN fun ρ => M.bind (mi ρ) fun xs => M.bind (loopC (itemM t vs ρ mt me) xs []) fun ds => M.pure (.list ds)) :=
  by
  subst hvs
  exact pe_imp (pe_lc hcalm nd hi ok hg ht he hs) fun σ H Q h => lc_term hst h
end Pv

set_option maxRecDepth 100000
set_option maxHeartbeats 1000000
/-! A comprehension with two for's. -/
namespace Pv
open PySem PySem.W L2
variable {X : Cx} {w : Wd} {Wx : WXt} {pos : Pos}
/-- the heap has grown, the state and one own list D may have changed -/
structure ExtD (sa D : Addr) (G H G' H' : Hp) : Prop where
  sub : Same G' H'
  gk : ∀ b, b ≠ D → H b ≠ none → G' b = G b
  gd : G' D = none
  hk : ∀ b o, b ≠ sa → b ≠ D → H b = some o → H' b = some o
section
variable {sa D : Addr} {G H G' H' G2 H2 : Hp}
theorem ExtD.refl (s : Same G H) (g : G D = none) : ExtD sa D G H G H := ⟨s, fun _ _ _ => rfl, g, fun _ _ _ _ e => e⟩
theorem ExtD.same (x : ExtD sa D G H G' H') (s : Same G H) (g : G D = none) : Same G G' := fun b o e => by
  have n : b ≠ D := fun z => by rw [z, g] at e; cases e
  rw [x.gk b n (by rw [s b o e]; simp)]
  exact e
theorem ExtD.nn (x : ExtD sa D G H G' H') (hs : H' sa ≠ none) {b : Addr} (hb : b ≠ D) (n : H b ≠ none) : H' b ≠ none := by
  by_cases e : b = sa
  · rw [e]; exact hs
  · cases q : H b with
    | none => exact absurd q n
    | some o => rw [x.hk b o e hb q]; simp
theorem ExtD.ext (x : ExtD sa D G H G' H') (hs : H' sa ≠ none) (nD : H' D ≠ none) (y : Ext sa G' H' G2 H2) : ExtD sa D G H G2 H2 :=
  ⟨y.sub, fun b hb n => (y.gk b (x.nn hs hb n)).trans (x.gk b hb n), (y.gk D nD).trans x.gd, fun b o h1 h2 e => y.hk b o h1 (x.hk b o h1 h2 e)⟩
theorem ExtD.upd (x : ExtD sa D G H G' H') {o : HO} : ExtD sa D G H G' (L2.upd H' D o) :=
  ⟨fun b u e => by rw [upd_ne (fun z => by rw [z, x.gd] at e; cases e)]; exact x.sub b u e, x.gk, x.gd, fun b u h1 h2 e => by rw [upd_ne h2]; exact x.hk b u h1 h2 e⟩
theorem Ext.thenD (a : Ext sa G H G' H') (hs : H' sa ≠ none) (nD : H D = none) (x : ExtD sa D G' H' G2 H2) : Ext sa G H G2 H2 := by
  have ne : ∀ b, H b ≠ none → b ≠ D := fun b n z => n (by rw [z]; exact nD)
  exact ⟨x.sub, fun b n => (x.gk b (ne b n) (a.nn hs n)).trans (a.gk b n), fun b o h1 e => x.hk b o h1 (ne b (by rw [e]; simp)) (a.hk b o h1 e)⟩
end
theorem IV.extD {G H G' H' : Hp} {σ : L2.St} {ρ : Env} {ls ls' : List PyData} {D : Addr} (v : IV w G H σ ρ ls) (h0 : w.H0 D = none) (gD : G D = none) (nD : ∀ (i : Nat) (d : PyData), ρ[i]? = some (Slot.ow d) → σ[i]? ≠ some (some (.ref D)))
    (x : ExtD w.sa D G H G' H') (s : StR w G' H' ls') : IV w G' H' σ ρ ls' := by
  have sm : Same G G' := x.same v.iw.sub gD
  have old : ∀ b, w.H0 b ≠ none → b ≠ D := fun b n z => n (by rw [z]; exact h0)
  have nn : ∀ b, w.H0 b ≠ none → H b ≠ none := fun b n => by
    by_cases e : b = w.sa
    · rw [e]; exact v.iw.st.nn
    · cases q : w.H0 b with
      | none => exact absurd q n
      | some o => rw [v.iw.hk b o e q]; simp
  refine ⟨⟨x.sub, fun b n => (x.gk b (old b n) (nn b n)).trans (v.iw.gk b n), fun b o ne e => x.hk b o ne (old b (by rw [e]; simp)) (v.iw.hk b o ne e), s, v.iw.sg, v.iw.so⟩, fun i t e => ?_, v.ds, v.ln⟩
  have q := v.sl i t e
  cases t with
  | no => trivial
  | fz d => obtain ⟨u, e, r⟩ := q; exact ⟨u, e, r.mono sm⟩
  | ow d =>
    obtain ⟨a, e1, g, h1, o⟩ := q
    have ne : a ≠ w.sa := fun z => v.iw.so (by rw [← z]; exact h1)
    have neD : a ≠ D := fun z => nD i d e (by rw [e1, z])
    exact ⟨a, e1, (x.gk a neD o.nn).trans g, h1, o.mono sm fun u q => x.hk a u ne neD q⟩
  | st => exact q
mutual
theorem bindT_ow : ∀ {t : Tg} {d : PyData} {ρ ρ' : Env}, bindT t d ρ = some ρ' → ∀ (i : Nat) (e : PyData), ρ'[i]? = some (Slot.ow e) → ρ[i]? = some (Slot.ow e) ∧ i ∉ slotsT t
  | .nm j, d, ρ, ρ', h, i, e, q => by
    have h : (match ρ[j]? with | some .st => none | some _ => some (ρ.set j (.fz d)) | none => none) = some ρ' := h
    have : ρ' = ρ.set j (.fz d) := by
      split at h
      · cases h
      · cases h; rfl
      · cases h
    subst this
    rw [List.getElem?_set] at q
    split at q
    · split at q <;> cases q
    · rename_i hne
      exact ⟨q, by show i ∉ [j]; simp; exact fun z => hne z.symm⟩
  | .tp ts, .tuple ds, ρ, ρ', h, i, e, q => bindTs_ow (t := ts) h i e q
  | .tp _, .none, _, _, h, _, _, _ => by simp [bindT] at h
  | .tp _, .bool _, _, _, h, _, _, _ => by simp [bindT] at h
  | .tp _, .int _, _, _, h, _, _, _ => by simp [bindT] at h
  | .tp _, .str _, _, _, h, _, _, _ => by simp [bindT] at h
  | .tp _, .list _, _, _, h, _, _, _ => by simp [bindT] at h
  | .tp _, .dict _, _, _, h, _, _, _ => by simp [bindT] at h
theorem bindTs_ow : ∀ {t : Tgs} {d : List PyData} {ρ ρ' : Env}, bindTs t d ρ = some ρ' → ∀ (i : Nat) (e : PyData), ρ'[i]? = some (Slot.ow e) → ρ[i]? = some (Slot.ow e) ∧ i ∉ slotsTs t
  | .nil, [], ρ, ρ', h, i, e, q => by
    have h : some ρ = some ρ' := h
    cases h
    exact ⟨q, by simp [slotsTs]⟩
  | .cons t ts, d :: ds, ρ, ρ', h, i, e, q => by
    obtain ⟨ρ1, e1, e2⟩ := Option.bind_eq_some_iff.mp (show (bindT t d ρ).bind (fun ρ' => bindTs ts ds ρ') = some ρ' from h)
    obtain ⟨q1, n1⟩ := bindTs_ow e2 i e q
    obtain ⟨q2, n2⟩ := bindT_ow e1 i e q1
    exact ⟨q2, by simp [slotsTs]; exact ⟨n2, n1⟩⟩
  | .nil, _ :: _, _, _, h, _, _, _ => by simp [bindTs] at h
  | .cons _ _, [], _, _, h, _, _, _ => by simp [bindTs] at h
end
/-- one turn of the outer for -/
def turn2 (t t1 : Tg) (vs vs1 : List Nat) (ρ : Env) (mt : Env → M Bool) (mi1 : Env → M (List PyData)) (mt1 : Env → M Bool) (me : Env → M PyData) (acc : List PyData) (x : PyData) : M (List PyData) :=
  M.bind (M.opt (bindT t x (wipeE ρ vs))) fun ρ' => M.bind (mt ρ') fun k => if k = true then M.bind (mi1 ρ') fun ys => M.bind (M.guard (decide (acc.length + ys.length ≤ 1000000))) fun _ => loopC (itemM t1 vs1 ρ' mt1 me) ys acc else M.pure acc
theorem ok_of_guard {b : Bool} {ls ls' : List PyData} {u : Unit} (h : M.guard b ls = .ok u ls') : b = true ∧ ls' = ls := by
  unfold M.guard at h
  cases b with
  | true => cases h; exact ⟨rfl, rfl⟩
  | false => cases h
theorem turn2_ok {t t1 : Tg} {vs vs1 : List Nat} {ρ : Env} {mt : Env → M Bool} {mi1 : Env → M (List PyData)} {mt1 : Env → M Bool} {me : Env → M PyData} {acc acc' : List PyData} {x : PyData} {ls ls' : List PyData}
    (h : turn2 t t1 vs vs1 ρ mt mi1 mt1 me acc x ls = .ok acc' ls') : ∃ ρ' k ls1, bindT t x (wipeE ρ vs) = some ρ' ∧ mt ρ' ls = .ok k ls1 ∧
      ((k = true ∧ ∃ ys ls2, mi1 ρ' ls1 = .ok ys ls2 ∧ acc.length + ys.length ≤ 1000000 ∧ loopC (itemM t1 vs1 ρ' mt1 me) ys acc ls2 = .ok acc' ls') ∨ (k = false ∧ ls' = ls1 ∧ acc' = acc)) := by
  obtain ⟨ρ', ls0, h1, h2⟩ := ok_of_bind h
  obtain ⟨h0, rfl⟩ := ok_of_opt h1
  obtain ⟨k, ls1, h3, h4⟩ := ok_of_bind h2
  refine ⟨ρ', k, ls1, h0, h3, ?_⟩
  cases k with
  | true =>
    rw [if_pos rfl] at h4
    obtain ⟨ys, ls2, h5, h6⟩ := ok_of_bind h4
    obtain ⟨_, ls3, h7, h8⟩ := ok_of_bind h6
    obtain ⟨h9, rfl⟩ := ok_of_guard h7
    exact .inl ⟨rfl, ys, _, h5, of_decide_eq_true h9, h8⟩
  | false =>
    rw [if_neg Bool.false_ne_true] at h4
    cases h4
    exact .inr ⟨rfl, rfl, rfl⟩
theorem loopC_ok {f : PyData → M (Option PyData)} {x : PyData} {xs acc acc' : List PyData} {ls ls' : List PyData} (h : loopC f (x :: xs) acc ls = .ok acc' ls') : ∃ o ls1, f x ls = .ok o ls1 ∧ loopC f xs (match o with | some d => acc ++ [d] | none => acc) ls1 = .ok acc' ls' := by
  unfold loopC at h
  cases e : f x ls with
  | ok o ls1 =>
    rw [e] at h
    cases o with
    | none => exact ⟨none, ls1, rfl, h⟩
    | some d => exact ⟨some d, ls1, rfl, h⟩
  | exn _ _ => rw [e] at h; cases h
  | stuck => rw [e] at h; cases h
theorem loopC2_cons {f : List PyData → PyData → M (List PyData)} {x : PyData} {xs acc : List PyData} {ls : List PyData} {Er : Ex → List PyData → Prop} {g : List PyData → M PyData} {P' : PyData → List PyData → Prop}
    (h : Out (M.bind (loopC2 f (x :: xs) acc) g ls) P' Er) : ∃ acc' ls', f acc x ls = .ok acc' ls' ∧ Out (M.bind (loopC2 f xs acc') g ls') P' Er := by
  unfold M.bind loopC2 at h
  cases e : f acc x ls with
  | ok o ls' => rw [e] at h; exact ⟨o, ls', rfl, h⟩
  | exn _ _ => rw [e] at h; exact h.elim
  | stuck => rw [e] at h; exact h.elim
theorem lc2_term {vs vs1 : List Nat} {t t1 : Tg} {mi mi1 : Env → M (List PyData)} {mt mt1 : Env → M Bool} {me : Env → M PyData} {σ : L2.St} {H : Hp} {Q : VK} (hst : ∀ i ∈ slotsT t, i ∈ vs) (hst1 : ∀ i ∈ slotsT t1, i ∈ vs1)
    (h : Tm w Wx rN (fun ρ => M.bind (mi ρ) fun xs => M.bind (loopC2 (turn2 t t1 vs vs1 ρ mt mi1 mt1 me) xs []) fun ds => M.pure (.list ds)) σ H Q) :
    tLc2 (Tm w Wx (rIb w) mi) (gT w t) (Tm w W0 rB mt) (Tm w W0 (rIb w) mi1) (gT w t1) (Tm w W0 rB mt1) (Tm w W0 rV me) vs vs1 σ H Q :=
  let ⟨G, ρ, ls, p⟩ := h
  ⟨G, ρ, ls, p.bind.imp fun J H1 ⟨G1, ls1, xs, src, s1, p1⟩ => by
    intro D nD
    have sb1 := p1.sub
    have hDs : D ≠ w.sa := fun z => p1.1.iw.st.nn (by rw [← z]; exact nD)
    have h0D : w.H0 D = none := by
      cases e : w.H0 D with
      | none => rfl
      | some o => rw [p1.1.iw.hk D o hDs e] at nD; cases nD
    have gD : G1 D = none := by
      cases e : G1 D with
      | none => rfl
      | some o => rw [sb1 D o e] at nD; cases nD
    let f := turn2 t t1 vs vs1 ρ mt mi1 mt1 me
    let Fin : List PyData → List PyData → Nat → Prop := fun accd ls2 i => Out (M.bind (loopC2 f (xs.drop i) accd) (fun ds => M.pure (PyData.list ds)) ls2)
      (fun d ls' => ∀ v G' H', Ext w.sa G1 H1 G' H' → StR w G' H' ls' → rN H1 G' H' σ ρ v d → Q v H') (fun x ls' => ∀ G' H', Ext w.sa G1 H1 G' H' → StR w G' H' ls' → Wx x σ H')
    let Tn : Nat → Hp → Prop := fun i H => i ≤ xs.length ∧ ∃ G2 ls2 acc accd, Ext w.sa G1 H1 G2 H ∧ StR w G2 H ls2 ∧ G2 D = none ∧ H D = some (.lst acc) ∧ Reps G2 acc accd ∧ Fin accd ls2 i
    refine ⟨fun i m H => m = xs.length - i ∧ Tn i H, ⟨_, rfl, Nat.zero_le _, G1, ls1, [], [], (Ext.refl sb1).other nD gD, p1.1.iw.st.other hDs, gD, upd_same, .nil, ?_⟩, ?_⟩
    · show Out _ _ _
      rw [List.drop_zero]
      exact p1.2
    · rintro i m H2 ⟨rfl, hi2, G2, ls2, acc, accd, x2, st2, gD2, hD2, rp2, fin⟩
      have iv2 : IV w G2 H2 σ ρ ls2 := p1.1.ext x2 st2
      have sm2 : Same G1 G2 := x2.same sb1
      by_cases hlt : i < xs.length
      · refine .inr ⟨src.go i G2 H2 ⟨sm2, ls2, iv2⟩ hlt, Tn (i + 1), fun H' tn => ⟨xs.length - (i + 1), by omega, rfl, tn⟩, fun x H3 y => ?_⟩
        have hd : xs[i]? = some xs[i] := List.getElem?_eq_getElem hlt
        obtain ⟨G3, g3, r3⟩ := src.yld i G2 H2 x H3 _ ⟨sm2, ls2, iv2⟩ hd y
        have fin' := fin
        simp only [Fin] at fin'
        rw [List.drop_eq_getElem_cons hlt] at fin'
        obtain ⟨accd', ls3, hf, fin2⟩ := loopC2_cons fin'
        obtain ⟨ρ', k, ls4, hb, hk, hcase⟩ := turn2_ok hf
        have st3 : StR w G3 H3 ls2 := g3.st iv2.iw.sub st2
        have iv3 := (iv2.ext g3.ext st3).wiped vs
        refine ⟨G3, wipeE ρ vs, ls2, xs[i], ρ', iv3, r3, hb, fun σ2 iv4 hσ2 => ⟨?_, ?_⟩⟩
        · refine (wipe_congr (by rw [iv4.ln, ← wipe_length σ vs, iv3.ln]; exact (bindT_len hb).symm) fun j hj => ?_)
          rw [hσ2 j (fun z => hj (hst j z)), wipe_out hj]
        · have own2 : ∀ (i : Nat) (d : PyData), ρ'[i]? = some (Slot.ow d) → σ2[i]? ≠ some (some (.ref D)) := fun j d ej => by
            obtain ⟨e1, n1⟩ := bindT_ow hb j d ej
            rw [hσ2 j n1]
            by_cases hj : j ∈ vs
            · cases wipeE_in hj e1
            · rw [wipeE_out hj] at e1
              rw [wipe_out hj]
              obtain ⟨a, e2, _, _, o⟩ := p1.1.sl j _ e1
              rw [e2]
              intro z
              cases z
              exact o.nn nD
          refine ⟨G3, ρ', ls2, iv4, ?_⟩
          rw [hk]
          intro b G4 H4 x4 st4 eb
          cases eb
          have nD3 : H3 D ≠ none := by rw [g3.hk D _ hD2]; simp
          have hD4 : H4 D = some (.lst acc) := x4.hk D _ hDs (g3.hk D _ hD2)
          have gD3 : G3 D = none := (g3.gk D (by rw [hD2]; simp)).trans gD2
          have gD4 : G4 D = none := (x4.gk D nD3).trans gD3
          have xx4 : Ext w.sa G1 H1 G4 H4 := (x2.trans st2.nn g3.ext).trans st3.nn x4
          have sm24 : Same G2 G4 := fun b u e => x4.same g3.sub b u (g3.same iv2.iw.sub b u e)
          have iv44 : IV w G4 H4 σ2 ρ' ls4 := iv4.ext x4 st4
          rcases hcase with ⟨rfl, ys, ls5, hmi, hzz, hloop⟩ | ⟨rfl, rfl, rfl⟩
          · rw [if_pos rfl]
            refine ⟨G4, ρ', ls4, iv44, ?_⟩
            rw [hmi]
            intro J1 G5 H5 x5 st5 src1
            have nD4 : H4 D ≠ none := by rw [hD4]; simp
            have hD5 : H5 D = some (.lst acc) := x5.hk D _ hDs hD4
            have gD5 : G5 D = none := (x5.gk D nD4).trans gD4
            have xx5 : Ext w.sa G1 H1 G5 H5 := xx4.trans st4.nn x5
            have sm45 : Same G4 G5 := x5.same x4.sub
            have iv55 : IV w G5 H5 σ2 ρ' ls5 := iv44.ext x5 st5
            let Tn1 : Nat → Hp → Prop := fun j H => j ≤ ys.length ∧ ∃ G6 ls6 ac acd, ExtD w.sa D G5 H5 G6 H ∧ StR w G6 H ls6 ∧ H D = some (.lst ac) ∧ Reps G6 ac acd ∧ ac.length ≤ acc.length + j ∧ loopC (itemM t1 vs1 ρ' mt1 me) (ys.drop j) acd ls6 = .ok accd' ls3
            refine ⟨fun j k H => k = ys.length - j ∧ Tn1 j H, ⟨_, rfl, Nat.zero_le _, G5, ls5, acc, accd, .refl x5.sub gD5, st5, hD5, (rp2.mono sm24).mono sm45, Nat.le_refl _, by rw [List.drop_zero]; exact hloop⟩, ?_⟩
            rintro j k H6 ⟨rfl, hj6, G6, ls6, ac, acd, x6, st6, hD6, rp6, hac, lp⟩
            have sm56 : Same G5 G6 := x6.same x5.sub gD5
            have iv6 : IV w G6 H6 σ2 ρ' ls6 := iv55.extD h0D gD5 own2 x6 st6
            have nD6 : H6 D ≠ none := by rw [hD6]; simp
            by_cases hjt : j < ys.length
            · refine .inr ⟨src1.go j G6 H6 ⟨sm56, ls6, iv6⟩ hjt, Tn1 (j + 1), fun H' tn => ⟨ys.length - (j + 1), by omega, rfl, tn⟩, fun x H7 y1 => ?_⟩
              have hd1 : ys[j]? = some ys[j] := List.getElem?_eq_getElem hjt
              obtain ⟨G7, g7, r7⟩ := src1.yld j G6 H6 x H7 _ ⟨sm56, ls6, iv6⟩ hd1 y1
              rw [List.drop_eq_getElem_cons hjt] at lp
              obtain ⟨o, ls8, hf1, lp2⟩ := loopC_ok lp
              obtain ⟨ρ2, k2, ls9, hb1, hk1, hcase1⟩ := item_ok hf1
              have st7 : StR w G7 H7 ls6 := g7.st iv6.iw.sub st6
              have iv7 := (iv6.ext g7.ext st7).wiped vs1
              have x7 : ExtD w.sa D G5 H5 G7 H7 := x6.ext st6.nn nD6 g7.ext
              refine ⟨G7, wipeE ρ' vs1, ls6, ys[j], ρ2, iv7, r7, hb1, fun σ3 iv8 hσ3 => ⟨?_, ?_⟩⟩
              · refine (wipe_congr (by rw [iv8.ln, ← wipe_length σ2 vs1, iv7.ln]; exact (bindT_len hb1).symm) fun q hq => ?_)
                rw [hσ3 q (fun z => hq (hst1 q z)), wipe_out hq]
              · refine ⟨G7, ρ2, ls6, iv8, ?_⟩
                rw [hk1]
                intro b G9 H9 x9 st9 eb
                cases eb
                have nD7 : H7 D ≠ none := by rw [g7.hk D _ hD6]; simp
                have hD9 : H9 D = some (.lst ac) := x9.hk D _ hDs (g7.hk D _ hD6)
                have y9 : ExtD w.sa D G5 H5 G9 H9 := x7.ext st7.nn nD7 x9
                have sm69 : Same G6 G9 := fun b u e => x9.same g7.sub b u (g7.same iv6.iw.sub b u e)
                rcases hcase1 with ⟨rfl, d, hme, rfl⟩ | ⟨rfl, rfl, rfl⟩
                · rw [if_pos rfl]
                  refine ⟨G9, ρ2, ls9, iv8.ext x9 st9, ?_⟩
                  rw [hme]
                  intro v GA HA xA stA rA
                  have nD9 : H9 D ≠ none := by rw [hD9]; simp
                  have hDA : HA D = some (.lst ac) := xA.hk D _ hDs hD9
                  have yA : ExtD w.sa D G5 H5 GA HA := y9.ext st9.nn nD9 xA
                  have hz : 1000000 < sizeLine := by rw [sizeLine_eq]; decide
                  have hl : acc.length = accd.length := rp2.length
                  refine ⟨ac, hDA, by omega, by omega, GA, ls8, ac ++ [v], acd ++ [d], yA.upd, stA.other hDs, upd_same, ?_, by rw [List.length_append]; simp; omega, lp2⟩
                  exact ((rp6.mono sm69).mono (xA.same x9.sub)).append (.cons rA .nil)
                · rw [if_neg Bool.false_ne_true]
                  exact ⟨by omega, G9, ls8, ac, acd, y9, st9, hD9, rp6.mono sm69, by omega, lp2⟩
            · have e : j = ys.length := by omega
              subst e
              rw [List.drop_length] at lp
              have lp : (R.ok acd ls6 : R (List PyData)) = .ok accd' ls3 := lp
              cases lp
              exact .inl ⟨src1.stop G6 H6 ⟨sm56, _, iv6⟩, by omega, G6, _, ac, _, xx5.thenD st5.nn nD x6, st6, x6.gd, hD6, rp6, fin2⟩
          · rw [if_neg Bool.false_ne_true]
            exact ⟨by omega, G4, ls3, acc, accd', xx4, st4, gD4, hD4, rp2.mono sm24, fin2⟩
      · have e : i = xs.length := by omega
        subst e
        refine .inl ⟨src.stop G2 H2 ⟨sm2, ls2, iv2⟩, ?_⟩
        have fin3 := fin
        simp only [Fin] at fin3
        rw [List.drop_length] at fin3
        exact fin3 (.ref D) G2 H2 x2 st2 ⟨D, rfl, nD, gD2, acc, hD2, rp2⟩⟩
end Pv
namespace Pv
open PySem PySem.W L2
variable {X : Cx} {w : Wd} {Wx : WXt} {pos : Pos}
theorem sn_lc2 {tg iter tg1 iter1 : Expr} {ifs ifs1 : List Expr} {elt : Expr} {scope : Scope} {own : List (Str × Nat)} {vs vs1 : List Nat} {t t1 : Tg} {mi mi1 : Env → M (List PyData)} {mt mt1 : Env → M Bool} {me : Env → M PyData}
    (hcalm : X.calm = true) (nd : X.N.Nodup) (hi : PI X tg iter (Tm w Wx (rIb w) mi)) (ok : BlkOk X.N X.env.scope scope own) (hvs : own.map (·.2) = vs) (hst : ∀ i ∈ slotsT t, i ∈ vs) (hst1 : ∀ i ∈ slotsT t1, i ∈ vs1) (hv1 : ∀ i ∈ vs1, i ∈ vs)
    (hg : ∀ (s : Shared) (H : Hp) (C : Addr) (cl : List (Str × Addr)) (fp : List Addr), PG (X.blk s H scope (compEnvC scope cl C X.env) fp) tg (gT w t))
    (ht : ∀ (s : Shared) (H : Hp) (C : Addr) (cl : List (Str × Addr)) (fp : List Addr), PTs (X.blk s H scope (compEnvC scope cl C X.env) fp) ifs (Tm w W0 rB mt))
    (hi1 : ∀ (s : Shared) (H : Hp) (C : Addr) (cl : List (Str × Addr)) (fp : List Addr), PI (X.blk s H scope (compEnvC scope cl C X.env) fp) tg1 iter1 (Tm w W0 (rIb w) mi1))
    (hg1 : ∀ (s : Shared) (H : Hp) (C : Addr) (cl : List (Str × Addr)) (fp : List Addr), PG (X.blk s H scope (compEnvC scope cl C X.env) fp) tg1 (gT w t1))
    (ht1 : ∀ (s : Shared) (H : Hp) (C : Addr) (cl : List (Str × Addr)) (fp : List Addr), PTs (X.blk s H scope (compEnvC scope cl C X.env) fp) ifs1 (Tm w W0 rB mt1))
    (he : ∀ (s : Shared) (H : Hp) (C : Addr) (cl : List (Str × Addr)) (fp : List Addr), PE (X.blk s H scope (compEnvC scope cl C X.env) fp) elt (Tm w W0 rV me))
    (hs : ∀ x, foldedSetIterable iter X.env x = pure x) (hs1 : ∀ env x, foldedSetIterable iter1 env x = pure x) :
    PE X (.ListComp elt [⟨tg, iter, ifs, 0⟩, ⟨tg1, iter1, ifs1, 0⟩] scope pos) (Tm w Wx rN fun ρ => M.bind (mi ρ) fun xs => M.bind (loopC2 (turn2 t t1 vs vs1 ρ mt mi1 mt1 me) xs []) fun ds => M.pure (.list ds)) := by
  subst hvs
  exact pe_imp (pe_lc2 hcalm nd hi ok hv1 hg ht hi1 hg1 ht1 he hs hs1) fun σ H Q h => lc2_term hst hst1 h
end Pv

set_option maxRecDepth 100000
set_option maxHeartbeats 1000000
/-! Calls of the text's own defs. -/
namespace Pv
open PySem PySem.W L2
/-- a def that does what F says: from data, with the drawing state at sa (handed over where st) -/
def SpF (EC : Ex → Addr) (st : Bool) (F : List PyData → M PyData) : Sp := fun vs H Q E => ∃ G ls sa ws ds lv, Same G H ∧ G sa = none ∧ H sa = some (.lst lv) ∧ Reps G lv ls ∧
  vs = (if st = true then [V.ref sa] else []) ++ ws ∧ Reps G ws ds ∧
  Out (F ds ls) (fun d ls' => ∀ v G' H', Ext sa G H G' H' → (∃ lv', H' sa = some (.lst lv') ∧ Reps G' lv' ls') → Rep G' v d → Q v H')
    (fun x ls' => ∀ G' H', Ext sa G H G' H' → (∃ lv', H' sa = some (.lst lv') ∧ Reps G' lv' ls') → E (.ref (EC x)) none H')
def bnames : List Str := ["len", "list", "tuple", "sorted", "sum", "min", "max", "abs", "int", "str", "bool", "set", "isinstance", "range", "enumerate", "zip"]
/-- what is known around a body or a block -/
structure Con (X : Cx) (W : WX) (EC : Ex → Addr) (fn : Nat → Option (Str × Bool)) (Φ : Nat → List PyData → M PyData) (k : Nat) : Prop where
  calm : X.calm = true
  nd : X.N.Nodup
  rm : Room k X.A
  tk : Takes X W
  bn : ∀ x ∈ bnames, X.mg x = none
  fn : ∀ f x st, fn f = some (x, st) → ∃ addr fd ps, FnOk X.prog X.w X.K X.mg X.base (L2.CX X.prog X.w) k addr fd ps (SpF EC st (Φ f)) ∧ X.mg x = some (.ref addr) ∧ PySem.W.keepIn X.K (.ref addr) = true ∧ Binds X.K fd ps []
abbrev wxOf (W : WX) (EC : Ex → Addr) : WXt := fun x σ H => W (.ref (EC x)) none σ H
variable {X : Cx} {w : Wd} {W : WX} {EC : Ex → Addr} {fn : Nat → Option (Str × Bool)} {Φ : Nat → List PyData → M PyData} {k : Nat} {e : Expr} {es : List Expr} {pos : Pos} {ms : Env → M (List PyData)}
theorem Con.un (C : Con X W EC fn Φ k) : X.A.units + 200 < cLine := by have := C.rm.un; omega
theorem Con.blk (C : Con X W EC fn Φ k) (s : Shared) (H : Hp) (scope : Scope) (env : PySem.Env) (fp : List Addr) : Con (X.blk s H scope env fp) (fun _ _ _ _ => False) EC fn Φ k :=
  ⟨C.calm, C.nd, C.rm, takes0, C.bn, C.fn⟩
theorem wx0 : wxOf (fun _ _ _ _ => False) EC = W0 := rfl
theorem sn_own {f : Nat} {x : Str} {p : Pos} (C : Con X W EC fn Φ k) (hf : fn f = some (x, false)) (hg : Gl X x) (hd : (x == ("__debug__" : Str)) = false) (hs : ∀ x p, e ≠ .Starred x p) (hpl : (backTo pos (starEach es X.env)).any (·.1) = false) (ha : PA X (e :: es) (Tm w (wxOf W EC) rVs ms)) :
    PE X (.Call (.Name x p) (e :: es) [] pos) (Tm w (wxOf W EC) rV fun ρ => M.bind (ms ρ) fun xs => Φ f xs) := by
  obtain ⟨addr, fd, ps, F, h1, h2, h3⟩ := C.fn f x false hf
  refine pe_imp (pe_callS (E := WE W) F C.rm hg h1 h2 h3 (fun σ => passAt C.tk σ) ha hd (star1 hs es X.env) hpl) fun σ H Q ⟨G, ρ, ls, p⟩ => ⟨G, ρ, ls, p.bind.imp fun vs H1 ⟨G1, ls1, ds, r1, s1, p1⟩ => ?_⟩
  obtain ⟨lv, e1, r2⟩ := p1.1.iw.st
  exact ⟨G1, ls1, w.sa, vs, ds, lv, p1.sub, p1.1.iw.sag, e1, r2, rfl, r1, p1.2⟩
theorem sn_ownS {f i : Nat} {x y : Str} {p p2 : Pos} (C : Con X W EC fn Φ k) (hf : fn f = some (x, true)) (hg : Gl X x) (hd : (x == ("__debug__" : Str)) = false)
    (hN : X.N[i]? = some y) (hv : Vis X.env.scope y) (hy : (y == ("__debug__" : Str)) = false) (hcd : (y == ("__classdict__" : Str)) = false) (hpl : (backTo pos (starEach es X.env)).any (·.1) = false) (ha : PA X es (Tm w (wxOf W EC) rVs ms)) :
    PE X (.Call (.Name x p) (.Name y p2 :: es) [] pos) (Tm w (wxOf W EC) rV fun ρ => M.bind (stOk ρ (some i)) fun _ => M.bind (ms ρ) fun xs => Φ f xs) := by
  obtain ⟨addr, fd, ps, F, h1, h2, h3⟩ := C.fn f x true hf
  refine pe_imp (pe_callS (E := WE W) F C.rm hg h1 h2 h3 (fun σ => passAt C.tk σ) (pa_cons (pe_var hN hv hy hcd) ha rfl) hd rfl hpl) fun σ H Q ⟨G, ρ, ls, p⟩ => ?_
  cases e : ρ[i]? with
  | none => simp only [stOk, e] at p; exact p.2.elim
  | some s =>
    cases s with
    | st =>
      simp only [stOk, e, M.pure_bind] at p
      have e1 : σ[i]? = some (some (.ref w.sa)) := p.1.sl i _ e
      refine ⟨_, e1, G, ρ, ls, p.bind.imp fun vs H1 ⟨G1, ls1, ds, r1, s1, p1⟩ => ?_⟩
      obtain ⟨lv, e2, r2⟩ := p1.1.iw.st
      exact ⟨G1, ls1, w.sa, vs, ds, lv, p1.sub, p1.1.iw.sag, e2, r2, rfl, r1, p1.2⟩
    | _ => simp only [stOk, e] at p; exact p.2.elim
theorem no_run {m : Env → M PyData} {Wx : WXt} (h : ∀ ρ, m ρ = M.stuck) : PE X e (Tm w Wx rV m) := ⟨fun pins s σ H Q I ⟨G, ρ, ls, p⟩ => (p.no (h ρ)).elim⟩
end Pv

set_option maxRecDepth 100000
set_option maxHeartbeats 2000000
/-! The small Python's expressions held against the text's, and what they do. -/
namespace Pv
open PySem PySem.W L2
def visOk (sc : Scope) (x : Str) : Bool := sc.names.lookup x == some .local || sc.names.lookup x == some .cell || sc.names.lookup x == some .free
def plainN (x : Str) : Bool := !(x == ("__debug__" : Str)) && !(x == ("__classdict__" : Str))
def nameOk (N : List Str) (sc : Scope) (i : Nat) (x : Str) : Bool := N[i]? == some x && visOk sc x && plainN x
def globOk (sc : Scope) (x : Str) : Bool := sc.names.lookup x == some .globalImplicit && !(x == ("__debug__" : Str))
def isStar : Expr → Bool
  | .Starred _ _ => true
  | _ => false
def isSlice : Expr → Bool
  | .Slice _ _ _ _ => true
  | _ => false
def cstOk : PyData → Const → Bool
  | .none, .none => true
  | .bool b, .bool c => b == c
  | .int b, .int c => b == c
  | .str b, .str c => b == c
  | _, _ => false
def F1.nm : F1 → Str
  | .len => "len" | .list => "list" | .tuple => "tuple" | .sorted => "sorted" | .sum => "sum" | .min => "min" | .max => "max" | .abs => "abs" | .int => "int" | .str => "str"
  | .lenset => "" | .sortedset => "" | .join => ""
def F1.plain : F1 → Bool
  | .lenset => false | .sortedset => false | .join => false | _ => true
def F2.nm : F2 → Str
  | .min => "min" | .max => "max"
def exprLen : Es → Nat
  | .nil => 0
  | .cons _ es => exprLen es + 1
def tstOk : E → Bool
  | .and a b => tstOk a && tstOk b
  | .or a b => tstOk a && tstOk b
  | .not a => tstOk a
  | .ite _ _ _ => false
  | _ => true
def ownsOf (N : List Str) (vs : List Nat) : List (Str × Nat) := vs.filterMap fun i => (N[i]?).map fun x => (x, i)

/-! views of the text's expressions -/
def call1 : Expr → Option (Str × Expr)
  | .Call (.Name g _) [x] [] _ => some (g, x)
  | _ => none
theorem call1_of {e : Expr} {g : Str} {x : Expr} (h : call1 e = some (g, x)) : ∃ p q, e = .Call (.Name g p) [x] [] q := by
  unfold call1 at h
  split at h
  · cases h; exact ⟨_, _, rfl⟩
  · cases h
def call2 : Expr → Option (Str × Expr × Expr)
  | .Call (.Name g _) [x, y] [] _ => some (g, x, y)
  | _ => none
theorem call2_of {e : Expr} {g : Str} {x y : Expr} (h : call2 e = some (g, x, y)) : ∃ p q, e = .Call (.Name g p) [x, y] [] q := by
  unfold call2 at h
  split at h
  · cases h; exact ⟨_, _, rfl⟩
  · cases h
def callN : Expr → Option (Str × Expr × List Expr)
  | .Call (.Name g _) (x :: xs) [] _ => some (g, x, xs)
  | _ => none
theorem callN_of {e : Expr} {g : Str} {x : Expr} {xs : List Expr} (h : callN e = some (g, x, xs)) : ∃ p q, e = .Call (.Name g p) (x :: xs) [] q := by
  unfold callN at h
  split at h
  · cases h; exact ⟨_, _, rfl⟩
  · cases h
def call3 : Expr → Option (Str × Expr × Expr × Expr)
  | .Call (.Name g _) [x, y, z] [] _ => some (g, x, y, z)
  | _ => none
theorem call3_of {e : Expr} {g : Str} {x y z : Expr} (h : call3 e = some (g, x, y, z)) : ∃ p q, e = .Call (.Name g p) [x, y, z] [] q := by
  unfold call3 at h
  split at h
  · cases h; exact ⟨_, _, rfl⟩
  · cases h
/-- f(..).m(x) -/
def methV : Expr → Option (Expr × Str × Bool × Expr)
  | .Call (.Attribute (.Call g (y :: ys) [] q) m ap) [x] [] cp => some (.Call g (y :: ys) [] q, m, ap.endLine == cp.line, x)
  | _ => none
theorem methV_of {e o x : Expr} {m : Str} {b : Bool} (h : methV e = some (o, m, b, x)) : ∃ g y ys q ap cp, o = .Call g (y :: ys) [] q ∧ e = .Call (.Attribute o m ap) [x] [] cp ∧ b = (ap.endLine == cp.line) := by
  unfold methV at h
  split at h
  · cases h; exact ⟨_, _, _, _, _, _, rfl, rfl, rfl⟩
  · cases h
def nmV : Expr → Option Str
  | .Name y _ => some y
  | _ => none
theorem nmV_of {e : Expr} {y : Str} (h : nmV e = some y) : ∃ p, e = .Name y p := by
  unfold nmV at h
  split at h
  · cases h; exact ⟨_, rfl⟩
  · cases h
def tup2V : Expr → Option (Str × Str)
  | .Tuple [.Name y _, .Name z _] _ _ => some (y, z)
  | _ => none
theorem tup2V_of {e : Expr} {y z : Str} (h : tup2V e = some (y, z)) : ∃ p q k r, e = .Tuple [.Name y p, .Name z q] k r := by
  unfold tup2V at h
  split at h
  · cases h; exact ⟨_, _, _, _, rfl⟩
  · cases h
def joinV : Expr → Option (Str × Str × Bool × Expr)
  | .Call (.Attribute (.Constant (.str s) _ _) m p2) [x] [] p => some (s, m, p2.endLine == p.line, x)
  | _ => none
theorem joinV_of {e : Expr} {s m : Str} {b : Bool} {x : Expr} (h : joinV e = some (s, m, b, x)) : ∃ j q p2 p, e = .Call (.Attribute (.Constant (.str s) j q) m p2) [x] [] p ∧ b = (p2.endLine == p.line) := by
  unfold joinV at h
  split at h
  · cases h; exact ⟨_, _, _, _, rfl, rfl⟩
  · cases h
def slcV : Expr → Option (Expr × Option Expr × Option Expr)
  | .Subscript x (.Slice l h none _) _ => some (x, l, h)
  | _ => none
theorem slcV_of {e x : Expr} {l u : Option Expr} (h : slcV e = some (x, l, u)) : ∃ p q, e = .Subscript x (.Slice l u none p) q := by
  unfold slcV at h
  split at h
  · cases h; exact ⟨_, _, rfl⟩
  · cases h
def revV : Expr → Option (Expr × Int)
  | .Subscript x (.Slice none none (some (.UnaryOp .USub (.Constant (.int i) _ _) _)) _) _ => some (x, i)
  | _ => none
theorem revV_of {e x : Expr} {i : Int} (h : revV e = some (x, i)) : ∃ j p q r t, e = .Subscript x (.Slice none none (some (.UnaryOp .USub (.Constant (.int i) j p) q)) r) t := by
  unfold revV at h
  split at h
  · cases h; exact ⟨_, _, _, _, _, rfl⟩
  · cases h
def dctV : Expr → Bool
  | .Dict [] [] _ => true
  | _ => false
theorem dctV_of {e : Expr} (h : dctV e = true) : ∃ p, e = .Dict [] [] p := by
  unfold dctV at h
  split at h
  · exact ⟨_, rfl⟩
  · cases h
def lcV : Expr → Option (Expr × Expr × Expr × List Expr × Scope)
  | .ListComp elt [⟨tg, iter, ifs, 0⟩] scope _ => some (elt, tg, iter, ifs, scope)
  | _ => none
theorem lcV_of {e elt tg iter : Expr} {ifs : List Expr} {scope : Scope} (h : lcV e = some (elt, tg, iter, ifs, scope)) : ∃ p, e = .ListComp elt [⟨tg, iter, ifs, 0⟩] scope p := by
  unfold lcV at h
  split at h
  · cases h; exact ⟨_, rfl⟩
  · cases h
def boolV : Expr → Option (BoolOp × Expr × Expr × List Expr × Pos)
  | .BoolOp op (x :: y :: r) p => some (op, x, y, r, p)
  | _ => none
theorem boolV_of {e x y : Expr} {r : List Expr} {op : BoolOp} {p : Pos} (h : boolV e = some (op, x, y, r, p)) : e = .BoolOp op (x :: y :: r) p := by
  unfold boolV at h
  split at h
  · cases h; rfl
  · cases h
/-- what stands behind the first of a chain of and, or -/
def restOf (op : BoolOp) (y : Expr) (r : List Expr) (p : Pos) : Expr :=
  match r with
  | [] => y
  | _ :: _ => .BoolOp op (y :: r) p
def lc2V : Expr → Option (Expr × (Expr × Expr × List Expr) × (Expr × Expr × List Expr) × Scope)
  | .ListComp elt [⟨tg, iter, ifs, 0⟩, ⟨tg1, iter1, ifs1, 0⟩] scope _ => some (elt, (tg, iter, ifs), (tg1, iter1, ifs1), scope)
  | _ => none
theorem lc2V_of {e elt tg iter tg1 iter1 : Expr} {ifs ifs1 : List Expr} {scope : Scope} (h : lc2V e = some (elt, (tg, iter, ifs), (tg1, iter1, ifs1), scope)) : ∃ p, e = .ListComp elt [⟨tg, iter, ifs, 0⟩, ⟨tg1, iter1, ifs1, 0⟩] scope p := by
  unfold lc2V at h
  split at h
  · cases h; exact ⟨_, rfl⟩
  · cases h
def isTupX : Expr → Bool
  | .Tuple _ _ _ => true
  | _ => false
theorem isTupX_of {e : Expr} (h : isTupX e = true) : ∃ es k p, e = .Tuple es k p := by
  cases e <;> first | exact ⟨_, _, _, rfl⟩ | cases h
def It.pair : It → Bool
  | .enum _ => true
  | .zip _ _ => true
  | .zip3 _ _ _ => true
  | _ => false
def tgOk (it : It) (tg : Expr) : Bool := !it.pair || isTupX tg
def isSet : Expr → Bool
  | .Set _ _ _ => true
  | _ => false
def slcT (N : List Str) (vs : List Nat) (t : Tg) : Bool := ((ownsOf N vs).map (·.2) == vs) && (slotsT t).all (vs.contains ·)
section
variable (fn : Nat → Option (Str × Bool)) (N : List Str)
mutual
def chkE (sc : Scope) : E → Expr → Bool
  | .var i, .Name x _ => nameOk N sc i x
  | .bor i, .Name x _ => nameOk N sc i x
  | .cst d, .Constant c _ _ => cstOk d c
  | .bin op a b, .BinOp x op' y _ => op == op' && chkE sc a x && chkE sc b y
  | .neg a, .UnaryOp .USub x _ => chkE sc a x
  | .not a, .UnaryOp .Not x _ => chkE sc a x
  | .and a b, e => match boolV e with
    | some (op, x, y, r, p) => op == .And && chkE sc a x && chkE sc b (restOf .And y r p)
    | none => false
  | .or a b, e => match boolV e with
    | some (op, x, y, r, p) => op == .Or && chkE sc a x && chkE sc b (restOf .Or y r p)
    | none => false
  | .cmp op a b, .Compare x [op'] [y] _ => op == op' && !behindInMarks op y && chkE sc a x && chkE sc b y
  | .chn o1 o2 a b c, .Compare x [o1', o2'] [y, z] _ => o1 == o1' && o2 == o2' && !behindInMarks o2 z && chkE sc a x && chkE sc b y && chkE sc c z
  | .ite c a b, .IfExp x y z _ => chkE sc c x && tstOk c && chkE sc a y && chkE sc b z
  | .isi a t, e => match call2 e with
    | some (f, x, y) => f == "isinstance" && globOk sc f && (match nmV y with | some y => globOk sc y && y == Str.ofString t.name | none => false) && !isStar x && chkE sc a x
    | none => false
  | .isi2 a t u, e => match call2 e with
    | some (f, x, y) => f == "isinstance" && globOk sc f && (match tup2V y with | some (y, z) => globOk sc y && y == Str.ofString t.name && globOk sc z && z == Str.ofString u.name | none => false) && !isStar x && chkE sc a x
    | none => false
  | .fn1 f a, e => match f with
    | .join => match joinV e with
      | some (s, m, b, x) => s == ⟨#[]⟩ && m == "join" && b && !isStar x && chkE sc a x
      | none => false
    | .lenset => match call1 e with
      | some (g, x) => g == "len" && globOk sc g && !isStar x && (match call1 x with
        | some (g2, y) => g2 == "set" && globOk sc g2 && !isStar y && chkE sc a y
        | none => false)
      | none => false
    | .sortedset => match call1 e with
      | some (g, x) => g == "sorted" && globOk sc g && !isStar x && (match call1 x with
        | some (g2, y) => g2 == "set" && globOk sc g2 && !isStar y && chkE sc a y
        | none => false)
      | none => false
    | f => match call1 e with
      | some (g, x) => f.plain && g == f.nm && globOk sc g && !isStar x && chkE sc a x
      | none => false
  | .fn2 f a b, e => match call2 e with
    | some (g, x, y) => g == f.nm && globOk sc g && !isStar x && !isStar y && chkE sc a x && chkE sc b y
    | none => false
  | .cnt a b, e => match methV e with
    | some (o, m, l, x) => m == "count" && l && !isStar x && chkE sc a o && chkE sc b x
    | none => false
  | .own f none as, e => match callN e with
    | some (g, x, xs) => fn f == some (g, false) && globOk sc g && chkEs sc as (x :: xs)
    | none => false
  | .own f (some i) as, e => match callN e with
    | some (g, x, xs) => fn f == some (g, true) && globOk sc g && (match nmV x with | some y => nameOk N sc i y | none => false) && chkEs sc as xs
    | none => false
  | .idx a i, .Subscript x y _ => !isSlice y && chkE sc a x && chkE sc i y
  | .sid i a, .Subscript z y _ => (match nmV z with | some x => nameOk N sc i x | none => false) && !isSlice y && chkE sc a y
  | .slc a lo hi, e => match slcV e with
    | some (x, l, h) => chkE sc a x && chkO sc lo l && chkO sc hi h
    | none => false
  | .rev a, e => match revV e with
    | some (x, i) => i == 1 && chkE sc a x
    | none => false
  | .tup es, .Tuple xs _ _ => chkEs sc es xs && decide (exprLen es ≤ 1000)
  | .lst es, .List xs _ => chkEs sc es xs && decide (exprLen es ≤ 1000)
  | .dct, e => dctV e
  | .lof (.rng1 a), e => match call1 e with
    | some (g, x) => g == "list" && globOk sc g && !isStar x && (match call1 x with
      | some (g2, y) => g2 == "range" && globOk sc g2 && !isStar y && chkE sc a y
      | none => false)
    | none => false
  | .lof (.rng2 a b), e => match call1 e with
    | some (g, x) => g == "list" && globOk sc g && !isStar x && (match call2 x with
      | some (g2, y, z) => g2 == "range" && globOk sc g2 && !isStar y && !isStar z && chkE sc a y && chkE sc b z
      | none => false)
    | none => false
  | .tof (.rng1 a), e => match call1 e with
    | some (g, x) => g == "tuple" && globOk sc g && !isStar x && (match call1 x with
      | some (g2, y) => g2 == "range" && globOk sc g2 && !isStar y && chkE sc a y
      | none => false)
    | none => false
  | .lc2 vs vs1 t it c t1 it1 c1 el, e => match lc2V e with
    | some (elt, (tg, iter, ifs), (tg1, iter1, ifs1), scope) => (blkC N sc scope (ownsOf N vs) && slcT N vs t && (slotsT t1).all (vs1.contains ·) && vs1.all (vs.contains ·) && tgOk it tg && tgOk it1 tg1 && chkT N scope t tg && chkT N scope t1 tg1 && !isSet iter && !isSet iter1) &&
      (chkI sc it iter && chkIf (relS scope sc) c ifs && chkI (relS scope sc) it1 iter1 && chkIf (relS scope sc) c1 ifs1 && chkE (relS scope sc) el elt)
    | none => false
  | .lc vs t it c el, e => match lcV e with
    | some (elt, tg, iter, ifs, scope) => blkC N sc scope (ownsOf N vs) && (slcT N vs t && tgOk it tg) && chkT N scope t tg && !isSet iter && chkI sc it iter && chkIf (relS scope sc) c ifs && chkE (relS scope sc) el elt
    | none => false
  | _, _ => false
def chkEs (sc : Scope) : Es → List Expr → Bool
  | .nil, [] => true
  | .cons e es, x :: xs => !isStar x && chkE sc e x && chkEs sc es xs
  | _, _ => false
def chkO (sc : Scope) : O → Option Expr → Bool
  | .none, none => true
  | .some e, some x => chkE sc e x
  | _, _ => false
/-- the tests of a comprehension: none, or one -/
def chkIf (sc : Scope) : O → List Expr → Bool
  | .none, [] => true
  | .some c, [x] => tstOk c && chkE sc c x
  | _, _ => false
def chkI (sc : Scope) : It → Expr → Bool
  | .rng1 a, e => match call1 e with
    | some (f, x) => f == "range" && globOk sc f && !isStar x && chkE sc a x
    | none => false
  | .rng2 a b, e => match call2 e with
    | some (f, x, y) => f == "range" && globOk sc f && !isStar x && !isStar y && chkE sc a x && chkE sc b y
    | none => false
  | .rng3 a b c, e => match call3 e with
    | some (f, x, y, z) => f == "range" && globOk sc f && !isStar x && !isStar y && !isStar z && chkE sc a x && chkE sc b y && chkE sc c z
    | none => false
  | .enum a, e => match call1 e with
    | some (f, x) => f == "enumerate" && globOk sc f && !isStar x && chkE sc a x
    | none => false
  | .zip a b, e => match call2 e with
    | some (f, x, y) => f == "zip" && globOk sc f && !isStar x && !isStar y && chkE sc a x && chkE sc b y
    | none => false
  | .seq a, x => chkE sc a x
  | _, _ => false
end
end
end Pv
namespace Pv
open PySem
example (fn N) (sc : Scope) (a b : E) (x y : Expr) (p : Pos) : chkE fn N sc (.bin .Add a b) (.BinOp x .Add y p) = (Operator.Add == Operator.Add && chkE fn N sc a x && chkE fn N sc b y) := rfl
example (fn N) (sc : Scope) (a b : E) (e : Expr) : chkE fn N sc (.and a b) e = (match boolV e with
    | some (op, x, y, r, p) => op == .And && chkE fn N sc a x && chkE fn N sc b (restOf .And y r p)
    | none => false) := rfl
end Pv

set_option maxRecDepth 100000
set_option maxHeartbeats 4000000
/-! The soundness of the reading of expressions. -/
namespace Pv
open PySem PySem.W L2
variable {fn : Nat → Option (Str × Bool)} {N : List Str} {sc : Scope} {X : Cx} {w : Wd} {W : WX} {EC : Ex → Addr} {Φ : Nat → List PyData → M PyData} {k : Nat}
structure Snd (X : Cx) (w : Wd) (Wx : WXt) (Φ : Nat → List PyData → M PyData) (c : E) (e : Expr) : Prop where
  v : isBor c = false → PE X e (Tm w Wx rV fun ρ => ev Φ ρ c)
  h : PE X e (Tm w Wx rH fun ρ => ev Φ ρ c)
  t : tstOk c = true → PT X e (Tm w Wx rB fun ρ => M.bind (ev Φ ρ c) tst)
theorem Snd.of {c : E} {e : Expr} {Wx : WXt} (v : PE X e (Tm w Wx rV fun ρ => ev Φ ρ c)) (he : ∀ whole, isTrue e X.env whole = (do let v ← whole; standAt e.pos; holding [v] (truthy v))) : Snd X w Wx Φ c e :=
  ⟨fun _ => v, sn_held v, fun _ => sn_truth (sn_held v) he⟩
theorem Snd.of2 {c : E} {e : Expr} {Wx : WXt} (v : PE X e (Tm w Wx rV fun ρ => ev Φ ρ c)) (t : tstOk c = true → PT X e (Tm w Wx rB fun ρ => M.bind (ev Φ ρ c) tst)) : Snd X w Wx Φ c e :=
  ⟨fun _ => v, sn_held v, t⟩
/-- as a value that is kept -/
theorem Snd.kp {c : E} {e : Expr} {Wx : WXt} (s : Snd X w Wx Φ c e) : PE X e (Tm w Wx rV fun ρ => evV Φ ρ c) := by
  cases h : isBor c with
  | true => exact no_run fun ρ => by unfold evV; rw [h]; rfl
  | false =>
    have e : (fun ρ => evV Φ ρ c) = fun ρ => ev Φ ρ c := by funext ρ; unfold evV; rw [h]; rfl
    rw [e]
    exact s.v h
/-- .. as a test of a kept value -/
theorem Snd.kt {c : E} {e : Expr} {Wx : WXt} (s : Snd X w Wx Φ c e) (ht : tstOk c = true) : PT X e (Tm w Wx rB fun ρ => M.bind (evV Φ ρ c) tst) := by
  cases h : isBor c with
  | true =>
    refine ⟨fun pins s σ H Q I ⟨G, ρ, ls, p⟩ => (p.no ?_).elim⟩
    show M.bind (evV Φ ρ c) tst = M.stuck
    unfold evV
    rw [h]
    rfl
  | false =>
    have e : (fun ρ => M.bind (evV Φ ρ c) tst) = fun ρ => M.bind (ev Φ ρ c) tst := by funext ρ; unfold evV; rw [h]; rfl
    rw [e]
    exact s.t ht
theorem nameOk_of {i : Nat} {x : Str} (hN : X.N = N) (hsc : X.env.scope = sc) (h : nameOk N sc i x = true) : X.N[i]? = some x ∧ Vis X.env.scope x ∧ (x == ("__debug__" : Str)) = false ∧ (x == ("__classdict__" : Str)) = false := by
  simp only [nameOk, visOk, plainN, Bool.and_eq_true, Bool.or_eq_true, beq_iff_eq, Bool.not_eq_true'] at h
  obtain ⟨⟨h1, h2⟩, h3, h4⟩ := h
  subst hN hsc
  refine ⟨h1, ?_, h3, h4⟩
  rcases h2 with (h2 | h2) | h2
  · exact .inl h2
  · exact .inr (.inl h2)
  · exact .inr (.inr h2)
theorem globOk_of {x : Str} (hsc : X.env.scope = sc) (h : globOk sc x = true) : Gl X x ∧ (x == ("__debug__" : Str)) = false := by
  simp only [globOk, Bool.and_eq_true, beq_iff_eq, Bool.not_eq_true'] at h
  subst hsc
  exact ⟨h.1, h.2⟩
theorem star_of {e : Expr} (h : (!isStar e) = true) : ∀ x p, e ≠ .Starred x p := fun x p z => by subst z; simp [isStar] at h
theorem slice_of {e : Expr} (h : (!isSlice e) = true) : ∀ l u p, e ≠ .Slice l u none p := fun l u p z => by subst z; simp [isSlice] at h
theorem stars_pl {es : List Expr} {sc : Scope} : ∀ {c : Es} {es : List Expr} {pos : Pos}, chkEs fn N sc c es = true → (backTo pos (starEach es X.env)).any (·.1) = false
  | .nil, [], _, _ => rfl
  | .cons c cs, e :: es, pos, h => by
    have h : (!isStar e && chkE fn N sc c e && chkEs fn N sc cs es) = true := h
    simp only [Bool.and_eq_true] at h
    rw [star1 (star_of h.1.1) es X.env]
    show (false || (backTo pos (starEach es X.env)).any (·.1)) = false
    rw [stars_pl (es := es) h.2]
    rfl
  | .nil, _ :: _, _, h => (Bool.false_ne_true h).elim
  | .cons _ _, [], _, h => (Bool.false_ne_true h).elim
theorem evs_len : ∀ {c : Es} {ρ : Env} {ls ls' ds : List PyData}, evs Φ ρ c ls = .ok ds ls' → ds.length = exprLen c
  | .nil, ρ, ls, ls', ds, h => by cases h; rfl
  | .cons e es, ρ, ls, ls', ds, h => by
    obtain ⟨x, ls1, _, h2⟩ := ok_of_bind (show M.bind (evV Φ ρ e) (fun x => M.bind (evs Φ ρ es) fun xs => M.pure (x :: xs)) ls = _ from h)
    obtain ⟨xs, ls2, h3, h4⟩ := ok_of_bind h2
    cases h4
    exact congrArg (· + 1) (evs_len h3)
theorem bn_of (C : Con X W EC fn Φ k) {x : Str} (h : x ∈ bnames) : X.mg x = none := C.bn x h
theorem sn_fn1 (C : Con X W EC fn Φ k) {f : F1} {g : Str} {p pos : Pos} {x : Expr} {m : Env → M PyData} (hp : f.plain = true) (hg : g = f.nm) (hgl : Gl X g) (hs : ∀ y p, x ≠ .Starred y p) (ha : PE X x (Tm w (wxOf W EC) rH m)) :
    PE X (.Call (.Name g p) [x] [] pos) (Tm w (wxOf W EC) rV fun ρ => M.bind (m ρ) fun y => M.opt (f1 f y)) := by
  have hu := C.un
  subst hg
  cases f with
  | len => exact sn_callB call_len1 hgl (C.bn _ (by decide)) (by decide +kernel) (by decide) (by decide) hs ha
  | list => exact sn_callT (r1_of_new call_list1) hgl (C.bn _ (by decide)) (by decide +kernel) (by decide) (by decide) hs ha
  | tuple => exact sn_callT (call_tuple1 C.calm) hgl (C.bn _ (by decide)) (by decide +kernel) (by decide) (by decide) hs ha
  | sorted => exact sn_callB (r1_of_new (call_sorted1 C.calm hu)) hgl (C.bn _ (by decide)) (by decide +kernel) (by decide) (by decide) hs ha
  | sum => exact sn_callB (call_sum1 C.calm) hgl (C.bn _ (by decide)) (by decide +kernel) (by decide) (by decide) hs ha
  | min => exact sn_callB (call_min1 C.calm hu) hgl (C.bn _ (by decide)) (by decide +kernel) (by decide) (by decide) hs ha
  | max => exact sn_callB (call_max1 C.calm hu) hgl (C.bn _ (by decide)) (by decide +kernel) (by decide) (by decide) hs ha
  | abs => exact sn_callB call_abs1 hgl (C.bn _ (by decide)) (by decide +kernel) (by decide) (by decide) hs ha
  | int => exact sn_callT call_int1' hgl (C.bn _ (by decide)) (by decide +kernel) (by decide) (by decide) hs ha
  | str => exact sn_callT call_str1 hgl (C.bn _ (by decide)) (by decide +kernel) (by decide) (by decide) hs ha
  | _ => cases hp
theorem own_of {scope : Scope} {env : PySem.Env} {s : Shared} {H : Hp} {C : Addr} {cl : List (Str × Addr)} {fp : List Addr} : Own (X.blk s H scope (compEnvC scope cl C X.env) fp) scope :=
  ⟨fun x h => lookup_relS_keep (by decide) h, fun x h => ⟨lookup_relS_keep (by decide) h, by show (scope.names.lookup x == some .cell) = true; rw [h]; rfl⟩⟩
theorem folded_of {e : Expr} (h : (!isSet e) = true) : ∀ x, foldedSetIterable e X.env x = pure x := by
  intro x
  cases e with
  | Set es k p => cases h
  | _ => rfl
theorem two_of {a : Pv.E} {n1 n2 : Str} {e : Expr} (h : (match call1 e with
      | some (g, x) => g == n1 && globOk sc g && !isStar x && (match call1 x with
        | some (g2, y) => g2 == n2 && globOk sc g2 && !isStar y && chkE fn N sc a y
        | none => false)
      | none => false) = true) : ∃ g x g2 y, call1 e = some (g, x) ∧ call1 x = some (g2, y) ∧ g = n1 ∧ globOk sc g = true ∧ (!isStar x) = true ∧ g2 = n2 ∧ globOk sc g2 = true ∧ (!isStar y) = true ∧ chkE fn N sc a y = true := by
  cases hv : call1 e with
  | none => rw [hv] at h; cases h
  | some v =>
    obtain ⟨g, x⟩ := v
    rw [hv] at h
    cases hv2 : call1 x with
    | none => simp only [hv2, Bool.and_false] at h; cases h
    | some v2 =>
      obtain ⟨g2, y⟩ := v2
      simp only [hv2, Bool.and_eq_true, beq_iff_eq] at h
      exact ⟨g, x, g2, y, rfl, hv2, h.1.1.1, h.1.1.2, h.1.2, h.2.1.1.1, h.2.1.1.2, h.2.1.2, h.2.2⟩
theorem two2_of {a b : Pv.E} {n1 n2 : Str} {e : Expr} (h : (match call1 e with
      | some (g, x) => g == n1 && globOk sc g && !isStar x && (match call2 x with
        | some (g2, y, z) => g2 == n2 && globOk sc g2 && !isStar y && !isStar z && chkE fn N sc a y && chkE fn N sc b z
        | none => false)
      | none => false) = true) : ∃ g x g2 y z, call1 e = some (g, x) ∧ call2 x = some (g2, y, z) ∧ g = n1 ∧ globOk sc g = true ∧ (!isStar x) = true ∧ g2 = n2 ∧ globOk sc g2 = true ∧ (!isStar y) = true ∧ (!isStar z) = true ∧ chkE fn N sc a y = true ∧ chkE fn N sc b z = true := by
  cases hv : call1 e with
  | none => rw [hv] at h; cases h
  | some v =>
    obtain ⟨g, x⟩ := v
    rw [hv] at h
    cases hv2 : call2 x with
    | none => simp only [hv2, Bool.and_false] at h; cases h
    | some v2 =>
      obtain ⟨g2, y, z⟩ := v2
      simp only [hv2, Bool.and_eq_true, beq_iff_eq] at h
      exact ⟨g, x, g2, y, z, rfl, hv2, h.1.1.1, h.1.1.2, h.1.2, h.2.1.1.1.1.1, h.2.1.1.1.1.2, h.2.1.1.1.2, h.2.1.1.2, h.2.1.2, h.2.2⟩
theorem sem_ite (m : M PyData) (f g : M PyData) : M.bind (M.bind m tst) (fun t => if t = true then f else g) = M.bind m fun x => M.bind (M.opt (truth x)) fun t => if t = true then f else g := M.bind_assoc _ _ _
mutual
theorem sE (fn : Nat → Option (Str × Bool)) (N : List Str) (w : Wd) (EC : Ex → Addr) (Φ : Nat → List PyData → M PyData) (k : Nat) : ∀ (c : E) {sc : Scope} {X : Cx} {W : WX}, Con X W EC fn Φ k → X.N = N → X.env.scope = sc → ∀ {e : Expr}, chkE fn N sc c e = true → Snd X w (wxOf W EC) Φ c e
  | .var i, sc, X, W, C, hN, hsc, e, h => by
    cases e with
    | Name x p =>
      have h : nameOk N sc i x = true := h
      obtain ⟨h1, h2, h3, h4⟩ := nameOk_of hN hsc h
      exact .of (sn_var h1 h2 h3 h4) fun _ => rfl
    | _ => exact (Bool.false_ne_true h).elim
  | .bor i, sc, X, W, C, hN, hsc, e, h => by
    cases e with
    | Name x p =>
      have h : nameOk N sc i x = true := h
      obtain ⟨h1, h2, h3, h4⟩ := nameOk_of hN hsc h
      exact ⟨fun z => (by cases z), sn_bor h1 h2 h3 h4, fun _ => sn_truth (sn_bor h1 h2 h3 h4) fun _ => rfl⟩
    | _ => exact (Bool.false_ne_true h).elim
  | .gint _ _, sc, X, W, C, hN, hsc, e, h => by cases e <;> exact (Bool.false_ne_true h).elim
  | .cst d, sc, X, W, C, hN, hsc, e, h => by
    cases e with
    | Constant c j p =>
      have h : cstOk d c = true := h
      cases d <;> cases c <;> simp only [cstOk, Bool.false_eq_true, beq_iff_eq] at h
      · exact .of (sn_cst pe_non fun _ => .non) fun _ => rfl
      · subst h; exact .of (sn_cst pe_bl fun _ => .bl _) fun _ => rfl
      · subst h; exact .of (sn_cst pe_int fun _ => .int _) fun _ => rfl
      · subst h; exact .of (sn_cst pe_str fun _ => .str _) fun _ => rfl
    | _ => exact (Bool.false_ne_true h).elim
  | .bin op a b, sc, X, W, C, hN, hsc, e, h => by
    cases e with
    | BinOp x op' y p =>
      have h : (op == op' && chkE fn N sc a x && chkE fn N sc b y) = true := h
      simp only [Bool.and_eq_true, beq_iff_eq] at h
      obtain ⟨⟨rfl, h1⟩, h2⟩ := h
      exact .of (sn_bin op (sE fn N w EC Φ k a C hN hsc h1).kp (sE fn N w EC Φ k b C hN hsc h2).kp) fun _ => rfl
    | _ => exact (Bool.false_ne_true h).elim
  | .neg a, sc, X, W, C, hN, hsc, e, h => by
    cases e with
    | UnaryOp op x p =>
      cases op with
      | USub => exact .of (sn_neg (sE fn N w EC Φ k a C hN hsc (show chkE fn N sc a x = true from h)).kp) fun _ => rfl
      | _ => exact (Bool.false_ne_true h).elim
    | _ => exact (Bool.false_ne_true h).elim
  | .not a, sc, X, W, C, hN, hsc, e, h => by
    cases e with
    | UnaryOp op x p =>
      cases op with
      | Not =>
        have s := sE fn N w EC Φ k a C hN hsc (show chkE fn N sc a x = true from h)
        exact .of2 (sn_not s.h) fun ht => pt_run (sn_tnot (s.t ht)) fun ρ => (not_tst _).symm
      | _ => exact (Bool.false_ne_true h).elim
    | _ => exact (Bool.false_ne_true h).elim
  | .and a b, sc, X, W, C, hN, hsc, e, h => by
    have h : (match boolV e with
      | some (op, x, y, r, p) => op == .And && chkE fn N sc a x && chkE fn N sc b (restOf .And y r p)
      | none => false) = true := h
    cases hv : boolV e with
    | none => rw [hv] at h; cases h
    | some v =>
      obtain ⟨op, x, y, r, p⟩ := v
      rw [hv] at h
      have h : (op == .And && chkE fn N sc a x && chkE fn N sc b (restOf .And y r p)) = true := h
      simp only [Bool.and_eq_true, beq_iff_eq] at h
      obtain ⟨⟨rfl, h1⟩, h2⟩ := h
      have := boolV_of hv
      subst this
      have s1 := sE fn N w EC Φ k a C hN hsc h1
      have s2 := sE fn N w EC Φ k b C hN hsc h2
      cases r with
      | nil =>
        have s2 : Snd X w (wxOf W EC) Φ b y := s2
        refine .of2 (sn_and s1.kp (sn_one s2.kp)) fun ht => ?_
        have ht : (tstOk a && tstOk b) = true := ht
        rw [Bool.and_eq_true] at ht
        exact pt_run (sn_tand (s1.kt ht.1) (pw_and1 (s2.kt ht.2))).pt fun ρ => (andor_tst _ _ _).symm
      | cons z r =>
        have s2 : Snd X w (wxOf W EC) Φ b (.BoolOp .And (y :: z :: r) p) := s2
        refine .of2 (sn_and s1.kp s2.kp) fun ht => ?_
        have ht : (tstOk a && tstOk b) = true := ht
        rw [Bool.and_eq_true] at ht
        have q := s2.kt ht.2
        exact pt_run (sn_tand (s1.kt ht.1) (⟨fun wh pins s σ H Q I hw => q.run pins s σ H Q I hw⟩ : PW X _ _)).pt fun ρ => (andor_tst _ _ _).symm
  | .or a b, sc, X, W, C, hN, hsc, e, h => by
    have h : (match boolV e with
      | some (op, x, y, r, p) => op == .Or && chkE fn N sc a x && chkE fn N sc b (restOf .Or y r p)
      | none => false) = true := h
    cases hv : boolV e with
    | none => rw [hv] at h; cases h
    | some v =>
      obtain ⟨op, x, y, r, p⟩ := v
      rw [hv] at h
      have h : (op == .Or && chkE fn N sc a x && chkE fn N sc b (restOf .Or y r p)) = true := h
      simp only [Bool.and_eq_true, beq_iff_eq] at h
      obtain ⟨⟨rfl, h1⟩, h2⟩ := h
      have := boolV_of hv
      subst this
      have s1 := sE fn N w EC Φ k a C hN hsc h1
      have s2 := sE fn N w EC Φ k b C hN hsc h2
      cases r with
      | nil =>
        have s2 : Snd X w (wxOf W EC) Φ b y := s2
        refine .of2 (sn_or s1.kp (sn_one s2.kp)) fun ht => ?_
        have ht : (tstOk a && tstOk b) = true := ht
        rw [Bool.and_eq_true] at ht
        exact pt_run (sn_tor (s1.kt ht.1) (pw_or1 (s2.kt ht.2))).pt fun ρ => (andor_tst _ _ _).symm
      | cons z r =>
        have s2 : Snd X w (wxOf W EC) Φ b (.BoolOp .Or (y :: z :: r) p) := s2
        refine .of2 (sn_or s1.kp s2.kp) fun ht => ?_
        have ht : (tstOk a && tstOk b) = true := ht
        rw [Bool.and_eq_true] at ht
        have q := s2.kt ht.2
        exact pt_run (sn_tor (s1.kt ht.1) (⟨fun wh pins s σ H Q I hw => q.run pins s σ H Q I hw⟩ : PW X _ _)).pt fun ρ => (andor_tst _ _ _).symm
  | .cmp op a b, sc, X, W, C, hN, hsc, e, h => by
    cases e with
    | Compare x ops ys p =>
      match ops, ys, h with
      | [op'], [y], h =>
        have h : (op == op' && !behindInMarks op y && chkE fn N sc a x && chkE fn N sc b y) = true := h
        simp only [Bool.and_eq_true, beq_iff_eq, Bool.not_eq_true'] at h
        obtain ⟨⟨⟨rfl, h0⟩, h1⟩, h2⟩ := h
        have s1 := sE fn N w EC Φ k a C hN hsc h1
        have s2 := sE fn N w EC Φ k b C hN hsc h2
        exact .of2 (sn_cmp C.un op s1.h s2.h h0) fun _ => sn_tcmp C.un op s1.h s2.h h0
      | [], _, h => exact (Bool.false_ne_true h).elim
      | _ :: _ :: _, _, h => exact (Bool.false_ne_true h).elim
      | [_], [], h => exact (Bool.false_ne_true h).elim
      | [_], _ :: _ :: _, h => exact (Bool.false_ne_true h).elim
    | _ => exact (Bool.false_ne_true h).elim
  | .chn o1 o2 a b c, sc, X, W, C, hN, hsc, e, h => by
    cases e with
    | Compare x ops ys p =>
      match ops, ys, h with
      | [o1', o2'], [y, z], h =>
        have h : (o1 == o1' && o2 == o2' && !behindInMarks o2 z && chkE fn N sc a x && chkE fn N sc b y && chkE fn N sc c z) = true := h
        simp only [Bool.and_eq_true, beq_iff_eq, Bool.not_eq_true'] at h
        obtain ⟨⟨⟨⟨⟨rfl, rfl⟩, h0⟩, h1⟩, h2⟩, h3⟩ := h
        have s1 := sE fn N w EC Φ k a C hN hsc h1
        have s2 := sE fn N w EC Φ k b C hN hsc h2
        have s3 := sE fn N w EC Φ k c C hN hsc h3
        exact .of2 (sn_chn C.un o1 o2 s1.h s2.h s3.h h0) fun _ => sn_tchn C.un o1 o2 s1.h s2.h s3.h h0
      | [], _, h => exact (Bool.false_ne_true h).elim
      | [_], _, h => exact (Bool.false_ne_true h).elim
      | _ :: _ :: _ :: _, _, h => exact (Bool.false_ne_true h).elim
      | [_, _], [], h => exact (Bool.false_ne_true h).elim
      | [_, _], [_], h => exact (Bool.false_ne_true h).elim
      | [_, _], _ :: _ :: _ :: _, h => exact (Bool.false_ne_true h).elim
    | _ => exact (Bool.false_ne_true h).elim
  | .ite c a b, sc, X, W, C, hN, hsc, e, h => by
    cases e with
    | IfExp x y z p =>
      have h : (chkE fn N sc c x && tstOk c && chkE fn N sc a y && chkE fn N sc b z) = true := h
      simp only [Bool.and_eq_true] at h
      obtain ⟨⟨⟨h1, ht⟩, h2⟩, h3⟩ := h
      have s1 := sE fn N w EC Φ k c C hN hsc h1
      have q := sn_ite (pos := p) (s1.t ht) (sE fn N w EC Φ k a C hN hsc h2).kp (sE fn N w EC Φ k b C hN hsc h3).kp
      have e : (fun ρ => ev Φ ρ (.ite c a b)) = fun ρ => M.bind (M.bind (ev Φ ρ c) tst) fun t => if t = true then evV Φ ρ a else evV Φ ρ b := by
        funext ρ
        exact (sem_ite _ _ _).symm
      exact .of2 (by rw [e]; exact q) fun z => by cases z
    | _ => exact (Bool.false_ne_true h).elim
  | .isi a t, sc, X, W, C, hN, hsc, e, h => by
    have h : (match call2 e with
      | some (f, x, y0) => f == "isinstance" && globOk sc f && (match nmV y0 with | some y => globOk sc y && y == Str.ofString t.name | none => false) && !isStar x && chkE fn N sc a x
      | none => false) = true := h
    cases hv : call2 e with
    | none => rw [hv] at h; cases h
    | some v =>
      obtain ⟨f, x, y0⟩ := v
      rw [hv] at h
      have h : (f == "isinstance" && globOk sc f && (match nmV y0 with | some y => globOk sc y && y == Str.ofString t.name | none => false) && !isStar x && chkE fn N sc a x) = true := h
      simp only [Bool.and_eq_true, beq_iff_eq] at h
      obtain ⟨⟨⟨⟨h1, h2⟩, h3⟩, h5⟩, h6⟩ := h
      cases hv2 : nmV y0 with
      | none => rw [hv2] at h3; cases h3
      | some y =>
        rw [hv2] at h3
        have h3 : (globOk sc y && y == Str.ofString t.name) = true := h3
        simp only [Bool.and_eq_true, beq_iff_eq] at h3
        obtain ⟨h3, h4⟩ := h3
        obtain ⟨p, q, rfl⟩ := call2_of hv
        obtain ⟨p2, rfl⟩ := nmV_of hv2
        have hy : y ∈ bnames := by subst h4; cases t <;> decide
        exact .of (sn_isi (globOk_of hsc h2).1 h1 (C.bn _ (by subst h1; decide)) (globOk_of hsc h3).1 h4 (C.bn _ hy) (star_of h5) (sE fn N w EC Φ k a C hN hsc h6).h) fun _ => rfl
  | .isi2 a t u, sc, X, W, C, hN, hsc, e, h => by
    have h : (match call2 e with
      | some (f, x, y0) => f == "isinstance" && globOk sc f && (match tup2V y0 with | some (y, z) => globOk sc y && y == Str.ofString t.name && globOk sc z && z == Str.ofString u.name | none => false) && !isStar x && chkE fn N sc a x
      | none => false) = true := h
    cases hv : call2 e with
    | none => rw [hv] at h; cases h
    | some v =>
      obtain ⟨f, x, y0⟩ := v
      rw [hv] at h
      have h : (f == "isinstance" && globOk sc f && (match tup2V y0 with | some (y, z) => globOk sc y && y == Str.ofString t.name && globOk sc z && z == Str.ofString u.name | none => false) && !isStar x && chkE fn N sc a x) = true := h
      simp only [Bool.and_eq_true, beq_iff_eq] at h
      obtain ⟨⟨⟨⟨h1, h2⟩, h3⟩, h5⟩, h6⟩ := h
      cases hv2 : tup2V y0 with
      | none => rw [hv2] at h3; cases h3
      | some yz =>
        obtain ⟨y, z⟩ := yz
        rw [hv2] at h3
        have h3 : (globOk sc y && y == Str.ofString t.name && globOk sc z && z == Str.ofString u.name) = true := h3
        simp only [Bool.and_eq_true, beq_iff_eq] at h3
        obtain ⟨⟨⟨h3, h4⟩, h7⟩, h8⟩ := h3
        obtain ⟨p, q, rfl⟩ := call2_of hv
        obtain ⟨p2, p3, k2, p4, rfl⟩ := tup2V_of hv2
        have hy : y ∈ bnames := by subst h4; cases t <;> decide
        have hz : z ∈ bnames := by subst h8; cases u <;> decide
        exact .of (sn_isi2 (globOk_of hsc h2).1 h1 (C.bn _ (by subst h1; decide)) (globOk_of hsc h3).1 h4 (C.bn _ hy) (globOk_of hsc h7).1 h8 (C.bn _ hz) (star_of h5) (sE fn N w EC Φ k a C hN hsc h6).h) fun _ => rfl
  | .fn1 f a, sc, X, W, C, hN, hsc, e, h => by
    by_cases hj : f = .join
    · subst hj
      have h : (match joinV e with
        | some (s, m, b, x) => s == ⟨#[]⟩ && m == "join" && b && !isStar x && chkE fn N sc a x
        | none => false) = true := h
      cases hv : joinV e with
      | none => rw [hv] at h; cases h
      | some v =>
        obtain ⟨s, m, b, x⟩ := v
        rw [hv] at h
        have h : (s == ⟨#[]⟩ && m == "join" && b && !isStar x && chkE fn N sc a x) = true := h
        simp only [Bool.and_eq_true] at h
        obtain ⟨⟨⟨⟨h1, h2⟩, h3⟩, h4⟩, h5⟩ := h
        rw [beq_iff_eq] at h1 h2
        obtain ⟨j, q, p2, p, rfl, hb⟩ := joinV_of hv
        subst h1 h2
        rw [hb] at h3
        exact .of (sn_join (star_of h4) h3 (sE fn N w EC Φ k a C hN hsc h5).h) fun _ => rfl
    · by_cases hj2 : f = .lenset
      · subst hj2
        obtain ⟨g, x, g2, y, hv, hv2, h1, h2, h3, h4, h5, h6, h7⟩ := two_of (fn := fn) (N := N) (n1 := "len") (n2 := "set") (a := a) (sc := sc) (e := e) h
        obtain ⟨p, q, rfl⟩ := call1_of hv
        obtain ⟨p2, q2, rfl⟩ := call1_of hv2
        subst h1 h4
        exact .of (sn_lenset C.calm (globOk_of hsc h2).1 (C.bn _ (by decide)) (globOk_of hsc h5).1 (C.bn _ (by decide)) (star_of h6) (sE fn N w EC Φ k a C hN hsc h7).h) fun _ => rfl
      by_cases hj3 : f = .sortedset
      · subst hj3
        obtain ⟨g, x, g2, y, hv, hv2, h1, h2, h3, h4, h5, h6, h7⟩ := two_of (fn := fn) (N := N) (n1 := "sorted") (n2 := "set") (a := a) (sc := sc) (e := e) h
        obtain ⟨p, q, rfl⟩ := call1_of hv
        obtain ⟨p2, q2, rfl⟩ := call1_of hv2
        subst h1 h4
        exact .of (sn_new (sn_sortset C.calm (globOk_of hsc h2).1 (C.bn _ (by decide)) (globOk_of hsc h5).1 (C.bn _ (by decide)) (star_of h6) (sE fn N w EC Φ k a C hN hsc h7).h)) fun _ => rfl
      have h : (match call1 e with
        | some (g, x) => f.plain && g == f.nm && globOk sc g && !isStar x && chkE fn N sc a x
        | none => false) = true := by cases f <;> first | exact h | exact absurd rfl hj | exact absurd rfl hj2 | exact absurd rfl hj3
      cases hv : call1 e with
      | none => rw [hv] at h; cases h
      | some v =>
        obtain ⟨g, x⟩ := v
        rw [hv] at h
        have h : (f.plain && g == f.nm && globOk sc g && !isStar x && chkE fn N sc a x) = true := h
        simp only [Bool.and_eq_true, beq_iff_eq] at h
        obtain ⟨⟨⟨⟨h1, h2⟩, h3⟩, h4⟩, h5⟩ := h
        obtain ⟨p, q, rfl⟩ := call1_of hv
        exact .of (sn_fn1 C h1 h2 (globOk_of hsc h3).1 (star_of h4) (sE fn N w EC Φ k a C hN hsc h5).h) fun _ => rfl
  | .fn2 f a b, sc, X, W, C, hN, hsc, e, h => by
    have h : (match call2 e with
      | some (g, x, y) => g == f.nm && globOk sc g && !isStar x && !isStar y && chkE fn N sc a x && chkE fn N sc b y
      | none => false) = true := h
    cases hv : call2 e with
    | none => rw [hv] at h; cases h
    | some v =>
      obtain ⟨g, x, y⟩ := v
      rw [hv] at h
      have h : (g == f.nm && globOk sc g && !isStar x && !isStar y && chkE fn N sc a x && chkE fn N sc b y) = true := h
      simp only [Bool.and_eq_true, beq_iff_eq] at h
      obtain ⟨⟨⟨⟨⟨h1, h2⟩, h3⟩, h4⟩, h5⟩, h6⟩ := h
      obtain ⟨p, q, rfl⟩ := call2_of hv
      exact .of (sn_f2 (f := f) C.calm C.un (globOk_of hsc h2).1 (by subst h1; cases f <;> rfl) (C.bn _ (by subst h1; cases f <;> decide)) (star_of h3) (star_of h4) (sE fn N w EC Φ k a C hN hsc h5).kp (sE fn N w EC Φ k b C hN hsc h6).kp) fun _ => rfl
  | .cnt a b, sc, X, W, C, hN, hsc, e, h => by
    have h : (match methV e with
      | some (o, m, l, x) => m == "count" && l && !isStar x && chkE fn N sc a o && chkE fn N sc b x
      | none => false) = true := h
    cases hv : methV e with
    | none => rw [hv] at h; cases h
    | some v =>
      obtain ⟨o, m, l, x⟩ := v
      rw [hv] at h
      have h : (m == "count" && l && !isStar x && chkE fn N sc a o && chkE fn N sc b x) = true := h
      simp only [Bool.and_eq_true, beq_iff_eq] at h
      obtain ⟨⟨⟨⟨rfl, h2⟩, h3⟩, h4⟩, h5⟩ := h
      obtain ⟨g, y, ys, q, ap, cp, rfl, rfl, rfl⟩ := methV_of hv
      exact .of (sn_cnt (star_of h3) (by cases g <;> rfl) h2 (sE fn N w EC Φ k a C hN hsc h4).h (sE fn N w EC Φ k b C hN hsc h5).kp) fun _ => rfl
  | .own f none es, sc, X, W, C, hN, hsc, e, h => by
    have h : (match callN e with
      | some (g, x, xs) => fn f == some (g, false) && globOk sc g && chkEs fn N sc es (x :: xs)
      | none => false) = true := h
    cases hv : callN e with
    | none => rw [hv] at h; cases h
    | some v =>
      obtain ⟨g, x, xs⟩ := v
      rw [hv] at h
      have h : (fn f == some (g, false) && globOk sc g && chkEs fn N sc es (x :: xs)) = true := h
      simp only [Bool.and_eq_true, beq_iff_eq] at h
      obtain ⟨⟨h1, h2⟩, h3⟩ := h
      obtain ⟨h4, h5⟩ := globOk_of hsc h2
      obtain ⟨p, q, rfl⟩ := callN_of hv
      cases es with
      | nil => exact (Bool.false_ne_true h3).elim
      | cons a as =>
        have h3' : (!isStar x && chkE fn N sc a x && chkEs fn N sc as xs) = true := h3
        simp only [Bool.and_eq_true] at h3'
        exact .of (sn_own C h1 h4 h5 (star_of h3'.1.1) (stars_pl (es := xs) h3'.2) (sEs fn N w EC Φ k (.cons a as) C hN hsc h3)) fun _ => rfl
  | .own f (some i) es, sc, X, W, C, hN, hsc, e, h => by
    have h : (match callN e with
      | some (g, x, xs) => fn f == some (g, true) && globOk sc g && (match nmV x with | some y => nameOk N sc i y | none => false) && chkEs fn N sc es xs
      | none => false) = true := h
    cases hv : callN e with
    | none => rw [hv] at h; cases h
    | some v =>
      obtain ⟨g, x, xs⟩ := v
      rw [hv] at h
      have h : (fn f == some (g, true) && globOk sc g && (match nmV x with | some y => nameOk N sc i y | none => false) && chkEs fn N sc es xs) = true := h
      simp only [Bool.and_eq_true, beq_iff_eq] at h
      obtain ⟨⟨⟨h1, h2⟩, h3⟩, h6⟩ := h
      obtain ⟨h4, h5⟩ := globOk_of hsc h2
      obtain ⟨p, q, rfl⟩ := callN_of hv
      cases hv2 : nmV x with
      | none => rw [hv2] at h3; cases h3
      | some y =>
        rw [hv2] at h3
        obtain ⟨p2, rfl⟩ := nmV_of hv2
        obtain ⟨h7, h8, h9, h10⟩ := nameOk_of hN hsc h3
        exact .of (sn_ownS C h1 h4 h5 h7 h8 h9 h10 (stars_pl (es := xs) h6) (sEs fn N w EC Φ k es C hN hsc h6)) fun _ => rfl
  | .idx a i, sc, X, W, C, hN, hsc, e, h => by
    cases e with
    | Subscript x y p =>
      have h : (!isSlice y && chkE fn N sc a x && chkE fn N sc i y) = true := h
      simp only [Bool.and_eq_true] at h
      exact .of (sn_idx (slice_of h.1.1) (sE fn N w EC Φ k a C hN hsc h.1.2).h (sE fn N w EC Φ k i C hN hsc h.2).kp) fun _ => rfl
    | _ => exact (Bool.false_ne_true h).elim
  | .sid i a, sc, X, W, C, hN, hsc, e, h => by
    cases e with
    | Subscript z y p =>
      have h : ((match nmV z with | some x => nameOk N sc i x | none => false) && !isSlice y && chkE fn N sc a y) = true := h
      simp only [Bool.and_eq_true] at h
      obtain ⟨⟨h1, h2⟩, h3⟩ := h
      cases hv2 : nmV z with
      | none => rw [hv2] at h1; cases h1
      | some x =>
        rw [hv2] at h1
        obtain ⟨p2, rfl⟩ := nmV_of hv2
        obtain ⟨h7, h8, h9, h10⟩ := nameOk_of hN hsc h1
        exact .of (sn_sid h7 h8 h9 h10 (slice_of h2) (sE fn N w EC Φ k a C hN hsc h3).kp) fun _ => rfl
    | _ => exact (Bool.false_ne_true h).elim
  | .slc a lo hi, sc, X, W, C, hN, hsc, e, h => by
    have h : (match slcV e with
      | some (x, l, u) => chkE fn N sc a x && chkO fn N sc lo l && chkO fn N sc hi u
      | none => false) = true := h
    cases hv : slcV e with
    | none => rw [hv] at h; cases h
    | some v =>
      obtain ⟨x, l, u⟩ := v
      rw [hv] at h
      have h : (chkE fn N sc a x && chkO fn N sc lo l && chkO fn N sc hi u) = true := h
      simp only [Bool.and_eq_true] at h
      obtain ⟨⟨h1, h2⟩, h3⟩ := h
      obtain ⟨p, q, rfl⟩ := slcV_of hv
      exact .of (sn_slc (sE fn N w EC Φ k a C hN hsc h1).h (sO fn N w EC Φ k lo C hN hsc h2) (sO fn N w EC Φ k hi C hN hsc h3)) fun _ => rfl
  | .rev a, sc, X, W, C, hN, hsc, e, h => by
    have h : (match revV e with
      | some (x, i) => i == 1 && chkE fn N sc a x
      | none => false) = true := h
    cases hv : revV e with
    | none => rw [hv] at h; cases h
    | some v =>
      obtain ⟨x, i⟩ := v
      rw [hv] at h
      have h : (i == 1 && chkE fn N sc a x) = true := h
      simp only [Bool.and_eq_true, beq_iff_eq] at h
      obtain ⟨rfl, h⟩ := h
      obtain ⟨j, p, q, r, t, rfl⟩ := revV_of hv
      exact .of (sn_rev (sE fn N w EC Φ k a C hN hsc h).h) fun _ => rfl
  | .tup es, sc, X, W, C, hN, hsc, e, h => by
    cases e with
    | Tuple xs n p =>
      have h : (chkEs fn N sc es xs && decide (exprLen es ≤ 1000)) = true := h
      rw [Bool.and_eq_true] at h
      exact .of (sn_tup (sEs fn N w EC Φ k es C hN hsc h.1) fun ρ ls ds ls' q => by rw [evs_len q]; exact of_decide_eq_true h.2) fun _ => rfl
    | _ => exact (Bool.false_ne_true h).elim
  | .lst es, sc, X, W, C, hN, hsc, e, h => by
    cases e with
    | List xs p =>
      have h : (chkEs fn N sc es xs && decide (exprLen es ≤ 1000)) = true := h
      rw [Bool.and_eq_true] at h
      exact .of (sn_new (sn_lst (sEs fn N w EC Φ k es C hN hsc h.1) fun ρ ls ds ls' q => by rw [evs_len q]; exact of_decide_eq_true h.2)) fun _ => rfl
    | _ => exact (Bool.false_ne_true h).elim
  | .dct, sc, X, W, C, hN, hsc, e, h => by
    obtain ⟨p, rfl⟩ := dctV_of (show dctV e = true from h)
    exact .of sn_dct fun _ => rfl
  | .lof (.rng1 a), sc, X, W, C, hN, hsc, e, h => by
    obtain ⟨g, x, g2, y, hv, hv2, h1, h2, h3, h4, h5, h6, h7⟩ := two_of (fn := fn) (N := N) (n1 := "list") (n2 := "range") (a := a) (sc := sc) (e := e) h
    obtain ⟨p, q, rfl⟩ := call1_of hv
    obtain ⟨p2, q2, rfl⟩ := call1_of hv2
    subst h1 h4
    exact .of (sn_new (sn_lof1 C.calm (globOk_of hsc h2).1 (C.bn _ (by decide)) (globOk_of hsc h5).1 (C.bn _ (by decide)) (star_of h6) (sE fn N w EC Φ k a C hN hsc h7).kp)) fun _ => rfl
  | .lof (.rng2 a b), sc, X, W, C, hN, hsc, e, h => by
    obtain ⟨g, x, g2, y, z, hv, hv2, h1, h2, h3, h4, h5, h6, h8, h7, h9⟩ := two2_of (fn := fn) (N := N) (n1 := "list") (n2 := "range") (a := a) (b := b) (sc := sc) (e := e) h
    obtain ⟨p, q, rfl⟩ := call1_of hv
    obtain ⟨p2, q2, rfl⟩ := call2_of hv2
    subst h1 h4
    exact .of (sn_new (sn_lof2 C.calm (globOk_of hsc h2).1 (C.bn _ (by decide)) (globOk_of hsc h5).1 (C.bn _ (by decide)) (star_of h6) (star_of h8) (sE fn N w EC Φ k a C hN hsc h7).kp (sE fn N w EC Φ k b C hN hsc h9).kp)) fun _ => rfl
  | .lof (.seq _), sc, X, W, C, hN, hsc, e, h => by cases e <;> exact (Bool.false_ne_true h).elim
  | .lof (.rng3 ..), sc, X, W, C, hN, hsc, e, h => by cases e <;> exact (Bool.false_ne_true h).elim
  | .lof (.enum _), sc, X, W, C, hN, hsc, e, h => by cases e <;> exact (Bool.false_ne_true h).elim
  | .lof (.zip ..), sc, X, W, C, hN, hsc, e, h => by cases e <;> exact (Bool.false_ne_true h).elim
  | .lof (.zip3 ..), sc, X, W, C, hN, hsc, e, h => by cases e <;> exact (Bool.false_ne_true h).elim
  | .tof (.rng1 a), sc, X, W, C, hN, hsc, e, h => by
    obtain ⟨g, x, g2, y, hv, hv2, h1, h2, h3, h4, h5, h6, h7⟩ := two_of (fn := fn) (N := N) (n1 := "tuple") (n2 := "range") (a := a) (sc := sc) (e := e) h
    obtain ⟨p, q, rfl⟩ := call1_of hv
    obtain ⟨p2, q2, rfl⟩ := call1_of hv2
    subst h1 h4
    exact .of (sn_tof1 C.calm (globOk_of hsc h2).1 (C.bn _ (by decide)) (globOk_of hsc h5).1 (C.bn _ (by decide)) (star_of h6) (sE fn N w EC Φ k a C hN hsc h7).kp) fun _ => rfl
  | .tof (.rng2 ..), sc, X, W, C, hN, hsc, e, h => by cases e <;> exact (Bool.false_ne_true h).elim
  | .tof (.seq _), sc, X, W, C, hN, hsc, e, h => by cases e <;> exact (Bool.false_ne_true h).elim
  | .tof (.rng3 ..), sc, X, W, C, hN, hsc, e, h => by cases e <;> exact (Bool.false_ne_true h).elim
  | .tof (.enum _), sc, X, W, C, hN, hsc, e, h => by cases e <;> exact (Bool.false_ne_true h).elim
  | .tof (.zip ..), sc, X, W, C, hN, hsc, e, h => by cases e <;> exact (Bool.false_ne_true h).elim
  | .tof (.zip3 ..), sc, X, W, C, hN, hsc, e, h => by cases e <;> exact (Bool.false_ne_true h).elim
  | .lc vs t it c el, sc, X, W, C, hN, hsc, e, h => by
    have h : (match lcV e with
      | some (elt, tg, iter, ifs, scope) => blkC N sc scope (ownsOf N vs) && (slcT N vs t && tgOk it tg) && chkT N scope t tg && !isSet iter && chkI fn N sc it iter && chkIf fn N (relS scope sc) c ifs && chkE fn N (relS scope sc) el elt
      | none => false) = true := h
    cases hv : lcV e with
    | none => rw [hv] at h; cases h
    | some v =>
      obtain ⟨elt, tg, iter, ifs, scope⟩ := v
      rw [hv] at h
      have h : (blkC N sc scope (ownsOf N vs) && (slcT N vs t && tgOk it tg) && chkT N scope t tg && !isSet iter && chkI fn N sc it iter && chkIf fn N (relS scope sc) c ifs && chkE fn N (relS scope sc) el elt) = true := h
      simp only [Bool.and_eq_true] at h
      obtain ⟨⟨⟨⟨⟨⟨h1, h2⟩, h4⟩, hset⟩, h5⟩, h7⟩, h6⟩ := h
      obtain ⟨p, rfl⟩ := lcV_of hv
      obtain ⟨h2, h2t⟩ := h2
      have h2 : (((ownsOf N vs).map (·.2) == vs) && (slotsT t).all (vs.contains ·)) = true := h2
      simp only [Bool.and_eq_true, beq_iff_eq, List.all_eq_true, List.contains_iff_mem] at h2
      have ok : BlkOk X.N X.env.scope scope (ownsOf N vs) := by rw [hN, hsc]; exact blkOk_by h1
      have q := sn_lc (pos := p) (t := t) (vs := vs) (mt := fun ρ => evT Φ ρ c) (me := fun ρ => evV Φ ρ el) C.calm C.nd (sI fn N w EC Φ k it C hN hsc h5 h2t) ok h2.1 h2.2
        (fun s H A cl fp => sn_tg (X := X.blk s H scope (compEnvC scope cl A X.env) fp) hN (by rw [← hN]; exact C.nd) (own_of (env := X.env)) C.calm h4)
        (fun s H A cl fp => sIf fn N w EC Φ k c (C.blk s H scope (compEnvC scope cl A X.env) fp) hN (by show relS scope X.env.scope = _; rw [hsc]) h7)
        (fun s H A cl fp => (sE fn N w EC Φ k el (C.blk s H scope (compEnvC scope cl A X.env) fp) hN (by show relS scope X.env.scope = _; rw [hsc]) h6).kp) (folded_of hset)
      exact .of (sn_new q) fun _ => rfl
  | .lc2 vs vs1 t it c t1 it1 c1 el, sc, X, W, C, hN, hsc, e, h => by
    have h : (match lc2V e with
      | some (elt, (tg, iter, ifs), (tg1, iter1, ifs1), scope) => (blkC N sc scope (ownsOf N vs) && slcT N vs t && (slotsT t1).all (vs1.contains ·) && vs1.all (vs.contains ·) && tgOk it tg && tgOk it1 tg1 && chkT N scope t tg && chkT N scope t1 tg1 && !isSet iter && !isSet iter1) &&
        (chkI fn N sc it iter && chkIf fn N (relS scope sc) c ifs && chkI fn N (relS scope sc) it1 iter1 && chkIf fn N (relS scope sc) c1 ifs1 && chkE fn N (relS scope sc) el elt)
      | none => false) = true := h
    cases hv : lc2V e with
    | none => rw [hv] at h; cases h
    | some v =>
      obtain ⟨elt, ⟨tg, iter, ifs⟩, ⟨tg1, iter1, ifs1⟩, scope⟩ := v
      rw [hv] at h
      simp only [Bool.and_eq_true] at h
      obtain ⟨⟨⟨⟨⟨⟨⟨⟨⟨⟨h1, h2⟩, h3⟩, h4⟩, t1'⟩, t2'⟩, g1⟩, g2⟩, hset⟩, hset1⟩, ⟨⟨⟨i1, c1'⟩, i2⟩, c2'⟩, h6⟩ := h
      obtain ⟨p, rfl⟩ := lc2V_of hv
      have h2 : (((ownsOf N vs).map (·.2) == vs) && (slotsT t).all (vs.contains ·)) = true := h2
      simp only [Bool.and_eq_true, beq_iff_eq, List.all_eq_true, List.contains_iff_mem] at h2 h3 h4
      have ok : BlkOk X.N X.env.scope scope (ownsOf N vs) := by rw [hN, hsc]; exact blkOk_by h1
      have hrel : relS scope X.env.scope = relS scope sc := by rw [hsc]
      have q := sn_lc2 (pos := p) (t := t) (t1 := t1) (vs := vs) (vs1 := vs1) (mt := fun ρ => evT Φ ρ c) (mt1 := fun ρ => evT Φ ρ c1) (me := fun ρ => evV Φ ρ el) C.calm C.nd (sI fn N w EC Φ k it C hN hsc i1 t1') ok h2.1 h2.2 h3 h4
        (fun s H A cl fp => sn_tg (X := X.blk s H scope (compEnvC scope cl A X.env) fp) hN (by rw [← hN]; exact C.nd) (own_of (env := X.env)) C.calm g1)
        (fun s H A cl fp => sIf fn N w EC Φ k c (C.blk s H scope (compEnvC scope cl A X.env) fp) hN hrel c1')
        (fun s H A cl fp => sI fn N w EC Φ k it1 (C.blk s H scope (compEnvC scope cl A X.env) fp) hN hrel i2 t2')
        (fun s H A cl fp => sn_tg (X := X.blk s H scope (compEnvC scope cl A X.env) fp) hN (by rw [← hN]; exact C.nd) (own_of (env := X.env)) C.calm g2)
        (fun s H A cl fp => sIf fn N w EC Φ k c1 (C.blk s H scope (compEnvC scope cl A X.env) fp) hN hrel c2')
        (fun s H A cl fp => (sE fn N w EC Φ k el (C.blk s H scope (compEnvC scope cl A X.env) fp) hN hrel h6).kp) (folded_of hset) (fun env x => by cases iter1 with | Set es k p => cases hset1 | _ => rfl)
      exact .of (sn_new q) fun _ => rfl
theorem sEs (fn : Nat → Option (Str × Bool)) (N : List Str) (w : Wd) (EC : Ex → Addr) (Φ : Nat → List PyData → M PyData) (k : Nat) : ∀ (c : Es) {sc : Scope} {X : Cx} {W : WX}, Con X W EC fn Φ k → X.N = N → X.env.scope = sc → ∀ {es : List Expr}, chkEs fn N sc c es = true → PA X es (Tm w (wxOf W EC) rVs fun ρ => evs Φ ρ c)
  | .nil, sc, X, W, C, hN, hsc, es, h => by
    cases es with
    | nil => exact sn_nil
    | cons _ _ => exact (Bool.false_ne_true h).elim
  | .cons c cs, sc, X, W, C, hN, hsc, es, h => by
    cases es with
    | nil => exact (Bool.false_ne_true h).elim
    | cons e es =>
      have h : (!isStar e && chkE fn N sc c e && chkEs fn N sc cs es) = true := h
      simp only [Bool.and_eq_true] at h
      exact sn_cons (star_of h.1.1) (sE fn N w EC Φ k c C hN hsc h.1.2).kp (sEs fn N w EC Φ k cs C hN hsc h.2)
theorem sO (fn : Nat → Option (Str × Bool)) (N : List Str) (w : Wd) (EC : Ex → Addr) (Φ : Nat → List PyData → M PyData) (k : Nat) : ∀ (c : O) {sc : Scope} {X : Cx} {W : WX}, Con X W EC fn Φ k → X.N = N → X.env.scope = sc → ∀ {e : Option Expr}, chkO fn N sc c e = true → PO X e (Tm w (wxOf W EC) rO fun ρ => evO Φ ρ c)
  | .none, sc, X, W, C, hN, hsc, e, h => by
    cases e with
    | none => exact sn_part (.inl ⟨rfl, fun _ => rfl⟩)
    | some _ => exact (Bool.false_ne_true h).elim
  | .some c, sc, X, W, C, hN, hsc, e, h => by
    cases e with
    | none => exact (Bool.false_ne_true h).elim
    | some e => exact sn_part (.inr ⟨e, _, rfl, (sE fn N w EC Φ k c C hN hsc (show chkE fn N sc c e = true from h)).kp, fun _ => rfl⟩)
theorem sIf (fn : Nat → Option (Str × Bool)) (N : List Str) (w : Wd) (EC : Ex → Addr) (Φ : Nat → List PyData → M PyData) (k : Nat) : ∀ (c : O) {sc : Scope} {X : Cx} {W : WX}, Con X W EC fn Φ k → X.N = N → X.env.scope = sc → ∀ {es : List Expr}, chkIf fn N sc c es = true → PTs X es (Tm w (wxOf W EC) rB fun ρ => evT Φ ρ c)
  | .none, sc, X, W, C, hN, hsc, es, h => by
    cases es with
    | nil => exact ⟨fun pins s σ H Q I ⟨G, ρ, ls, p⟩ => pts_nil.run pins s σ H Q I (p.pure true G H (.refl p.sub) rfl)⟩
    | cons _ _ => exact (Bool.false_ne_true h).elim
  | .some c, sc, X, W, C, hN, hsc, es, h => by
    cases es with
    | nil => exact (Bool.false_ne_true h).elim
    | cons x xs =>
      cases xs with
      | cons _ _ => exact (Bool.false_ne_true h).elim
      | nil =>
        have h : (tstOk c && chkE fn N sc c x) = true := h
        rw [Bool.and_eq_true] at h
        exact pts_one ((sE fn N w EC Φ k c C hN hsc h.2).t h.1)
theorem sI (fn : Nat → Option (Str × Bool)) (N : List Str) (w : Wd) (EC : Ex → Addr) (Φ : Nat → List PyData → M PyData) (k : Nat) : ∀ (c : It) {sc : Scope} {X : Cx} {W : WX}, Con X W EC fn Φ k → X.N = N → X.env.scope = sc → ∀ {e tg : Expr}, chkI fn N sc c e = true → tgOk c tg = true → PI X tg e (Tm w (wxOf W EC) (rIb w) fun ρ => evI Φ ρ c)
  | .seq a, sc, X, W, C, hN, hsc, e, tg, h, _ => sn_seqB (sE fn N w EC Φ k a C hN hsc (show chkE fn N sc a e = true by cases e <;> exact h)).h
  | .rng1 a, sc, X, W, C, hN, hsc, e, tg, h, _ => by
    have h : (match call1 e with
      | some (g, x) => g == "range" && globOk sc g && !isStar x && chkE fn N sc a x
      | none => false) = true := h
    cases hv : call1 e with
    | none => rw [hv] at h; cases h
    | some v =>
      obtain ⟨g, x⟩ := v
      rw [hv] at h
      have h : (g == "range" && globOk sc g && !isStar x && chkE fn N sc a x) = true := h
      simp only [Bool.and_eq_true, beq_iff_eq] at h
      obtain ⟨⟨⟨h1, h2⟩, h3⟩, h4⟩ := h
      obtain ⟨p, q, rfl⟩ := call1_of hv
      exact it_held (sn_rng1 h1 (globOk_of hsc h2).1 (C.bn _ (by subst h1; decide)) (star_of h3) (sE fn N w EC Φ k a C hN hsc h4).kp)
  | .rng2 a b, sc, X, W, C, hN, hsc, e, tg, h, _ => by
    have h : (match call2 e with
      | some (g, x, y) => g == "range" && globOk sc g && !isStar x && !isStar y && chkE fn N sc a x && chkE fn N sc b y
      | none => false) = true := h
    cases hv : call2 e with
    | none => rw [hv] at h; cases h
    | some v =>
      obtain ⟨g, x, y⟩ := v
      rw [hv] at h
      have h : (g == "range" && globOk sc g && !isStar x && !isStar y && chkE fn N sc a x && chkE fn N sc b y) = true := h
      simp only [Bool.and_eq_true, beq_iff_eq] at h
      obtain ⟨⟨⟨⟨⟨h1, h2⟩, h3⟩, h5⟩, h4⟩, h6⟩ := h
      obtain ⟨p, q, rfl⟩ := call2_of hv
      exact it_held (sn_rng2 h1 (globOk_of hsc h2).1 (C.bn _ (by subst h1; decide)) (star_of h3) (star_of h5) (sE fn N w EC Φ k a C hN hsc h4).kp (sE fn N w EC Φ k b C hN hsc h6).kp)
  | .rng3 a b c, sc, X, W, C, hN, hsc, e, tg, h, _ => by
    have h : (match call3 e with
      | some (g, x, y, z) => g == "range" && globOk sc g && !isStar x && !isStar y && !isStar z && chkE fn N sc a x && chkE fn N sc b y && chkE fn N sc c z
      | none => false) = true := h
    cases hv : call3 e with
    | none => rw [hv] at h; cases h
    | some v =>
      obtain ⟨g, x, y, z⟩ := v
      rw [hv] at h
      have h : (g == "range" && globOk sc g && !isStar x && !isStar y && !isStar z && chkE fn N sc a x && chkE fn N sc b y && chkE fn N sc c z) = true := h
      simp only [Bool.and_eq_true, beq_iff_eq] at h
      obtain ⟨⟨⟨⟨⟨⟨⟨h1, h2⟩, h3⟩, h4⟩, h5⟩, h6⟩, h7⟩, h8⟩ := h
      obtain ⟨p, q, rfl⟩ := call3_of hv
      exact it_held (sn_rng3 h1 (globOk_of hsc h2).1 (C.bn _ (by subst h1; decide)) (star_of h3) (star_of h4) (star_of h5) (sE fn N w EC Φ k a C hN hsc h6).kp (sE fn N w EC Φ k b C hN hsc h7).kp (sE fn N w EC Φ k c C hN hsc h8).kp)
  | .enum a, sc, X, W, C, hN, hsc, e, tg, h, ht => by
    have h : (match call1 e with
      | some (g, x) => g == "enumerate" && globOk sc g && !isStar x && chkE fn N sc a x
      | none => false) = true := h
    cases hv : call1 e with
    | none => rw [hv] at h; cases h
    | some v =>
      obtain ⟨g, x⟩ := v
      rw [hv] at h
      have h : (g == "enumerate" && globOk sc g && !isStar x && chkE fn N sc a x) = true := h
      simp only [Bool.and_eq_true, beq_iff_eq] at h
      obtain ⟨⟨⟨h1, h2⟩, h3⟩, h4⟩ := h
      obtain ⟨p, q, rfl⟩ := call1_of hv
      obtain ⟨es, kk, tp, rfl⟩ := isTupX_of (e := tg) ht
      exact sn_enum h1 (globOk_of hsc h2).1 (C.bn _ (by subst h1; decide)) (star_of h3) (sE fn N w EC Φ k a C hN hsc h4).h
  | .zip a b, sc, X, W, C, hN, hsc, e, tg, h, ht => by
    have h : (match call2 e with
      | some (g, x, y) => g == "zip" && globOk sc g && !isStar x && !isStar y && chkE fn N sc a x && chkE fn N sc b y
      | none => false) = true := h
    cases hv : call2 e with
    | none => rw [hv] at h; cases h
    | some v =>
      obtain ⟨g, x, y⟩ := v
      rw [hv] at h
      have h : (g == "zip" && globOk sc g && !isStar x && !isStar y && chkE fn N sc a x && chkE fn N sc b y) = true := h
      simp only [Bool.and_eq_true, beq_iff_eq] at h
      obtain ⟨⟨⟨⟨⟨h1, h2⟩, h3⟩, h5⟩, h4⟩, h6⟩ := h
      obtain ⟨p, q, rfl⟩ := call2_of hv
      obtain ⟨es, kk, tp, rfl⟩ := isTupX_of (e := tg) ht
      exact sn_zip h1 (globOk_of hsc h2).1 (C.bn _ (by subst h1; decide)) (star_of h3) (star_of h5) (sE fn N w EC Φ k a C hN hsc h4).h (sE fn N w EC Φ k b C hN hsc h6).h
  | .zip3 .., sc, X, W, C, hN, hsc, e, tg, h, _ => by cases e <;> exact (Bool.false_ne_true h).elim
end
end Pv

set_option maxRecDepth 100000
set_option maxHeartbeats 2000000
/-! How a body's state changes: own lists and the drawing state; what a statement's run is. -/
namespace Pv
open PySem PySem.W L2
variable {X : Cx} {w : Wd} {Wx : WXt} {G H G' H' : Hp} {σ : L2.St} {ρ : Env} {ls ls' : List PyData}

theorem IW.fresh {a : Addr} (h : IW w G H ls) (n : H a = none) : w.H0 a = none := by
  cases e : w.H0 a with
  | none => rfl
  | some o =>
    by_cases ha : a = w.sa
    · subst ha
      exact absurd n h.st.nn
    · rw [h.hk a o ha e] at n
      cases n
/-- a name gets a new own list -/
theorem IV.setOwn {a : Addr} {d : PyData} {i : Nat} (h0 : IV w G H σ ρ ls) (h : IV w G' H' σ ρ ls') (n : H a = none) (g : G' a = none) (o : OwnAt G' H' a d) :
    IV w G' H' (σ.set i (some (.ref a))) (ρ.set i (.ow d)) ls' := by
  have ha := h0.iw.fresh n
  have lt : ∀ {j : Nat} {s : Slot}, (ρ.set i (.ow d))[j]? = some s → (i = j ∧ i < ρ.length ∧ s = .ow d) ∨ (i ≠ j ∧ ρ[j]? = some s) := fun {j s} e => by
    by_cases hj : i = j
    · subst hj
      have hlt : i < ρ.length := by
        have := (List.getElem?_eq_some_iff.mp e).1
        rwa [List.length_set] at this
      rw [List.getElem?_set_self hlt] at e
      cases e
      exact .inl ⟨rfl, hlt, rfl⟩
    · rw [List.getElem?_set_ne hj] at e
      exact .inr ⟨hj, e⟩
  have old : ∀ {j : Nat} {d : PyData}, ρ[j]? = some (Slot.ow d) → σ[j]? ≠ some (some (V.ref a)) := fun {j d} e z => by
    obtain ⟨b, e1, _, _, o⟩ := h0.sl j _ e
    rw [e1] at z
    cases z
    exact o.nn n
  refine ⟨h.iw, fun j s e => ?_, fun j k d1 d2 ne e1 e2 => ?_, by rw [List.length_set, List.length_set]; exact h.ln⟩
  · rcases lt e with ⟨rfl, hlt, rfl⟩ | ⟨hj, e⟩
    · exact ⟨a, by rw [List.getElem?_set_self (by rw [h.ln]; exact hlt)], g, ha, o⟩
    · have q := h.sl j s e
      cases s with
      | no => trivial
      | fz d1 => obtain ⟨u, e1, r1⟩ := q; exact ⟨u, by rw [List.getElem?_set_ne hj]; exact e1, r1⟩
      | ow d1 => obtain ⟨u, e1, r1⟩ := q; exact ⟨u, by rw [List.getElem?_set_ne hj]; exact e1, r1⟩
      | st =>
        show (σ.set i (some (.ref a)))[j]? = _
        rw [List.getElem?_set_ne hj]
        exact q
  · rcases lt e1 with ⟨rfl, hlt, _⟩ | ⟨hj, e1⟩ <;> rcases lt e2 with ⟨rfl, hlt2, _⟩ | ⟨hk, e2⟩
    · exact absurd rfl ne
    · rw [List.getElem?_set_self (by rw [h.ln]; exact hlt), List.getElem?_set_ne hk]
      exact fun z => old e2 z.symm
    · rw [List.getElem?_set_self (by rw [h.ln]; exact hlt2), List.getElem?_set_ne hj]
      exact old e1
    · rw [List.getElem?_set_ne hj, List.getElem?_set_ne hk]
      exact h.ds j k d1 d2 ne e1 e2
theorem same_updN {a : Addr} {o : HO} (s : Same G H) (n : G a = none) : Same G (upd H a o) := fun b u e => by
  have : b ≠ a := fun z => by rw [z, n] at e; cases e
  rw [upd_ne this]
  exact s b u e
/-- an own list is changed -/
theorem IV.mut {i : Nat} {a : Addr} {xs xs' : List PyData} {vs' : List V} (h : IV w G H σ ρ ls) (e : ρ[i]? = some (.ow (.list xs))) (es : σ[i]? = some (some (.ref a))) (r : Reps G vs' xs') :
    IV w G (upd H a (.lst vs')) σ (ρ.set i (.ow (.list xs'))) ls := by
  obtain ⟨a', e1, g, h0, o⟩ := h.sl i _ e
  rw [es] at e1
  cases e1
  have hi : i < ρ.length := (List.getElem?_eq_some_iff.mp e).1
  have ns : w.sa ≠ a := fun z => h.iw.so (by rw [z]; exact h0)
  have sb : Same G (upd H a (.lst vs')) := same_updN h.iw.sub g
  have lt : ∀ {j : Nat} {s : Slot}, (ρ.set i (.ow (.list xs')))[j]? = some s → (i = j ∧ s = .ow (.list xs')) ∨ (i ≠ j ∧ ρ[j]? = some s) := fun {j s} e => by
    by_cases hj : i = j
    · subst hj
      rw [List.getElem?_set_self hi] at e
      cases e
      exact .inl ⟨rfl, rfl⟩
    · rw [List.getElem?_set_ne hj] at e
      exact .inr ⟨hj, e⟩
  refine ⟨⟨sb, h.iw.gk, fun b u nb q => ?_, ?_, h.iw.sg, h.iw.so⟩, fun j s q => ?_, fun j k d1 d2 ne q1 q2 => ?_, by rw [List.length_set]; exact h.ln⟩
  · have : b ≠ a := fun z => by rw [z, h0] at q; cases q
    rw [upd_ne this]
    exact h.iw.hk b u nb q
  · obtain ⟨lv, q1, q2⟩ := h.iw.st
    exact ⟨lv, by rw [upd_ne ns]; exact q1, q2⟩
  · rcases lt q with ⟨rfl, rfl⟩ | ⟨hj, q⟩
    · exact ⟨a, es, g, h0, vs', upd_same, r⟩
    · have p := h.sl j s q
      cases s with
      | no => trivial
      | fz d1 => exact p
      | st => exact p
      | ow d1 =>
        obtain ⟨b, e1, g1, h1, o1⟩ := p
        have : b ≠ a := fun z => h.ds i j _ _ hj e q (by rw [es, e1, z])
        exact ⟨b, e1, g1, h1, o1.mono (fun _ _ z => z) fun u z => by rw [upd_ne this]; exact z⟩
  · have f : ∀ {k : Nat} {d : PyData}, (ρ.set i (.ow (.list xs')))[k]? = some (Slot.ow d) → ∃ d, ρ[k]? = some (Slot.ow d) := fun {k d} q => by
      rcases lt q with ⟨rfl, _⟩ | ⟨_, q⟩
      · exact ⟨_, e⟩
      · exact ⟨_, q⟩
    obtain ⟨d3, q3⟩ := f q1
    obtain ⟨d4, q4⟩ := f q2
    exact h.ds j k _ _ ne q3 q4
/-- the drawing state is changed -/
theorem IV.mutSt {vs' : List V} (h : IV w G H σ ρ ls) (r : Reps G vs' ls') : IV w G (upd H w.sa (.lst vs')) σ ρ ls' := by
  have sb : Same G (upd H w.sa (.lst vs')) := same_updN h.iw.sub h.iw.sag
  refine ⟨⟨sb, h.iw.gk, fun b u nb q => ?_, ⟨vs', upd_same, r⟩, h.iw.sg, h.iw.so⟩, fun j s q => ?_, h.ds, h.ln⟩
  · rw [upd_ne nb]
    exact h.iw.hk b u nb q
  · have p := h.sl j s q
    cases s with
    | no => trivial
    | fz d1 => exact p
    | st => exact p
    | ow d1 =>
      obtain ⟨b, e1, g1, h1, o1⟩ := p
      have : b ≠ w.sa := fun z => h.iw.so (by rw [← z]; exact h1)
      exact ⟨b, e1, g1, h1, o1.mono (fun _ _ z => z) fun u z => by rw [upd_ne this]; exact z⟩
/-- an own list is from now on never changed -/
theorem IV.frz {i : Nat} {xs : List PyData} (h : IV w G H σ ρ ls) (e : ρ[i]? = some (.ow (.list xs))) : ∃ G', Same G G' ∧ IV w G' H σ (ρ.set i (.fz (.list xs))) ls := by
  obtain ⟨a, e1, g, h0, vs, eH, r⟩ := h.sl i _ e
  have hi : i < ρ.length := (List.getElem?_eq_some_iff.mp e).1
  have sm : Same G (upd G a (.lst vs)) := Same.upd g
  have lt : ∀ {j : Nat} {s : Slot}, (ρ.set i (.fz (.list xs)))[j]? = some s → (i = j ∧ s = .fz (.list xs)) ∨ (i ≠ j ∧ ρ[j]? = some s) := fun {j s} e => by
    by_cases hj : i = j
    · subst hj
      rw [List.getElem?_set_self hi] at e
      cases e
      exact .inl ⟨rfl, rfl⟩
    · rw [List.getElem?_set_ne hj] at e
      exact .inr ⟨hj, e⟩
  refine ⟨upd G a (.lst vs), sm, ⟨Grow.froze h.iw.sub eH, fun b nb => ?_, h.iw.hk, ?_, h.iw.sg, h.iw.so⟩, fun j s q => ?_, fun j k d1 d2 ne q1 q2 => ?_, by rw [List.length_set]; exact h.ln⟩
  · have : b ≠ a := fun z => nb (by rw [z]; exact h0)
    rw [upd_ne this]
    exact h.iw.gk b nb
  · obtain ⟨lv, q1, q2⟩ := h.iw.st
    exact ⟨lv, q1, q2.mono sm⟩
  · rcases lt q with ⟨rfl, rfl⟩ | ⟨hj, q⟩
    · exact ⟨_, e1, .lst upd_same (r.mono sm)⟩
    · have p := h.sl j s q
      cases s with
      | no => trivial
      | fz d1 => obtain ⟨u, e2, r2⟩ := p; exact ⟨u, e2, r2.mono sm⟩
      | st => exact p
      | ow d1 =>
        obtain ⟨b, e2, g1, h1, o1⟩ := p
        have : b ≠ a := fun z => h.ds i j _ _ hj e q (by rw [e1, e2, z])
        exact ⟨b, e2, by rw [upd_ne this]; exact g1, h1, o1.mono sm fun u z => z⟩
  · rcases lt q1 with ⟨_, z⟩ | ⟨_, q1⟩
    · cases z
    · rcases lt q2 with ⟨_, z⟩ | ⟨_, q2⟩
      · cases z
      · exact h.ds j k _ _ ne q1 q2
theorem IV.frzs : ∀ (is : List Nat) {G : Hp}, IV w G H σ ρ ls → ∃ G', Same G G' ∧ IV w G' H σ (frzE ρ is) ls
  | [], G, h => ⟨G, fun _ _ e => e, h⟩
  | i :: is, G, h => by
    obtain ⟨G1, s1, h1⟩ := IV.frzs is h
    unfold frzE
    split
    · rename_i xs e
      obtain ⟨G2, s2, h2⟩ := h1.frz e
      exact ⟨G2, fun b o q => s2 b o (s1 b o q), h2⟩
    · exact ⟨G1, s1, h1⟩
/-- a name is forgotten -/
theorem IV.drop {i : Nat} (h : IV w G H σ ρ ls) : IV w G H σ (ρ.set i .no) ls := by
  have lt : ∀ {j : Nat} {s : Slot}, (ρ.set i .no)[j]? = some s → s = .no ∨ ρ[j]? = some s := fun {j s} e => by
    by_cases hj : i = j
    · subst hj
      have hlt : i < ρ.length := by
        have := (List.getElem?_eq_some_iff.mp e).1
        rwa [List.length_set] at this
      rw [List.getElem?_set_self hlt] at e
      cases e
      exact .inl rfl
    · rw [List.getElem?_set_ne hj] at e
      exact .inr e
  refine ⟨h.iw, fun j s e => ?_, fun j k d1 d2 ne e1 e2 => ?_, by rw [List.length_set]; exact h.ln⟩
  · rcases lt e with rfl | e
    · trivial
    · exact h.sl j s e
  · rcases lt e1 with z | e1
    · cases z
    · rcases lt e2 with z | e2
      · cases z
      · exact h.ds j k _ _ ne e1 e2
/-- an own list goes over to another name -/
theorem IV.move {i j : Nat} {d : PyData} {v : V} (h : IV w G H σ ρ ls) (hij : i ≠ j) (e : ρ[j]? = some (.ow d)) (es : σ[j]? = some (some v)) : IV w G H (σ.set i (some v)) ((ρ.set i (.ow d)).set j .no) ls := by
  have hj : j < ρ.length := (List.getElem?_eq_some_iff.mp e).1
  have lt : ∀ {k : Nat} {s : Slot}, ((ρ.set i (.ow d)).set j .no)[k]? = some s → (k = j ∧ s = .no) ∨ (k ≠ j ∧ k = i ∧ i < ρ.length ∧ s = .ow d) ∨ (k ≠ j ∧ k ≠ i ∧ ρ[k]? = some s) := fun {k s} q => by
    by_cases hk : j = k
    · subst hk
      rw [List.getElem?_set_self (by rw [List.length_set]; exact hj)] at q
      cases q
      exact .inl ⟨rfl, rfl⟩
    · rw [List.getElem?_set_ne hk] at q
      by_cases hk2 : i = k
      · subst hk2
        have hlt : i < ρ.length := by
          have := (List.getElem?_eq_some_iff.mp q).1
          rwa [List.length_set] at this
        rw [List.getElem?_set_self hlt] at q
        cases q
        exact .inr (.inl ⟨Ne.symm hk, rfl, hlt, rfl⟩)
      · rw [List.getElem?_set_ne hk2] at q
        exact .inr (.inr ⟨Ne.symm hk, Ne.symm hk2, q⟩)
  refine ⟨h.iw, fun k s q => ?_, fun k l d1 d2 ne q1 q2 => ?_, by rw [List.length_set, List.length_set, List.length_set]; exact h.ln⟩
  · rcases lt q with ⟨rfl, rfl⟩ | ⟨_, rfl, hlt, rfl⟩ | ⟨_, hk, q⟩
    · trivial
    · obtain ⟨a, e1, r⟩ := h.sl j _ e
      rw [es] at e1
      exact ⟨a, by rw [List.getElem?_set_self (by rw [h.ln]; exact hlt)]; exact e1, r⟩
    · have p := h.sl k s q
      cases s with
      | no => trivial
      | fz d1 => obtain ⟨u, e1, r1⟩ := p; exact ⟨u, by rw [List.getElem?_set_ne (Ne.symm hk)]; exact e1, r1⟩
      | ow d1 => obtain ⟨u, e1, r1⟩ := p; exact ⟨u, by rw [List.getElem?_set_ne (Ne.symm hk)]; exact e1, r1⟩
      | st =>
        show (σ.set i (some v))[k]? = _
        rw [List.getElem?_set_ne (Ne.symm hk)]
        exact p
  · rcases lt q1 with ⟨_, z⟩ | ⟨k1, k2, hlt, _⟩ | ⟨k1, k2, p1⟩
    · cases z
    · rcases lt q2 with ⟨_, z⟩ | ⟨l1, l2, _, _⟩ | ⟨l1, l2, p2⟩
      · cases z
      · exact absurd (k2.trans l2.symm) ne
      · subst k2
        rw [List.getElem?_set_self (by rw [h.ln]; exact hlt), List.getElem?_set_ne (Ne.symm l2), ← es]
        exact h.ds j l _ _ (Ne.symm l1) e p2
    · rcases lt q2 with ⟨_, z⟩ | ⟨l1, l2, hlt, _⟩ | ⟨l1, l2, p2⟩
      · cases z
      · subst l2
        rw [List.getElem?_set_self (by rw [h.ln]; exact hlt), List.getElem?_set_ne (Ne.symm k2), ← es]
        exact h.ds k j _ _ k1 p1 e
      · rw [List.getElem?_set_ne (Ne.symm k2), List.getElem?_set_ne (Ne.symm l2)]
        exact h.ds k l _ _ ne p1 p2

/-! ### statements -/
def okS (w : Wd) (D : Ends) (G : Hp) : Fl → List PyData → Prop
  | .nx ρ', ls' => ∀ G' σ' H', Same G G' → IV w G' H' σ' ρ' ls' → D.nx σ' H'
  | .brk ρ', ls' => ∀ G' σ' H', Same G G' → IV w G' H' σ' ρ' ls' → D.bk σ' H'
  | .cnt ρ', ls' => ∀ G' σ' H', Same G G' → IV w G' H' σ' ρ' ls' → D.ct σ' H'
  | .ret d, ls' => ∀ v G' H', IW w G' H' ls' → Rep G' v d → D.rt v H'
def exS (w : Wd) (Wx : WXt) (x : Ex) (ls' : List PyData) : Prop := ∀ σ' G' H', IW w G' H' ls' → Wx x σ' H'
def Ds (w : Wd) (Wx : WXt) (D : Ends) (m : M Fl) (G : Hp) (ρ : Env) (ls : List PyData) (σ : L2.St) (H : Hp) : Prop :=
  IV w G H σ ρ ls ∧ Out (m ls) (okS w D G) (exS w Wx)
def Ts (w : Wd) (Wx : WXt) (m : Env → M Fl) : TS := fun D σ H => ∃ G ρ ls, Ds w Wx D (m ρ) G ρ ls σ H
theorem okS.mono {D : Ends} {G G1 : Hp} (s : Same G G1) : ∀ {f : Fl} {ls : List PyData}, okS w D G f ls → okS w D G1 f ls
  | .nx _, _, h => fun G' σ' H' s' i => h G' σ' H' (fun b o e => s' b o (s b o e)) i
  | .brk _, _, h => fun G' σ' H' s' i => h G' σ' H' (fun b o e => s' b o (s b o e)) i
  | .cnt _, _, h => fun G' σ' H' s' i => h G' σ' H' (fun b o e => s' b o (s b o e)) i
  | .ret _, _, h => h
theorem Out.imp {α : Type} {r : R α} {ok ok' : α → List PyData → Prop} {er er' : Ex → List PyData → Prop} (h : Out r ok er) (k : ∀ a ls, ok a ls → ok' a ls) (k2 : ∀ x ls, er x ls → er' x ls) : Out r ok' er' := by
  cases r with
  | ok a ls => exact k a ls h
  | exn x ls => exact k2 x ls h
  | stuck => exact h
/-- an expression's run, then the rest of a statement -/
theorem Ds.bind {α β : Type} {D : Ends} {rel : Rl β α} {m : M α} {f : α → M Fl} (h : Ds w Wx D (M.bind m f) G ρ ls σ H) :
    Pd w Wx rel m G ρ ls σ H fun v H1 => ∃ G1 ls1 d, rel H G1 H1 σ ρ v d ∧ Same G G1 ∧ Ds w Wx D (f d) G1 ρ ls1 σ H1 := by
  refine ⟨h.1, ?_⟩
  have h2 := h.2
  unfold M.bind at h2
  cases e : m ls with
  | ok a ls' =>
    rw [e] at h2
    exact fun v G1 H1 x s r => ⟨G1, ls', a, r, x.same h.1.iw.sub, h.1.ext x s, Out.imp h2 (fun _ _ q => q.mono (x.same h.1.iw.sub)) fun _ _ q => q⟩
  | exn x ls' =>
    rw [e] at h2
    exact fun G1 H1 y s => h2 σ G1 H1 (h.1.iw.ext y s)
  | stuck => rw [e] at h2; exact h2
theorem Ds.opt {α : Type} {D : Ends} {o : Option α} {f : α → M Fl} (h : Ds w Wx D (M.bind (M.opt o) f) G ρ ls σ H) : ∃ c, o = some c ∧ Ds w Wx D (f c) G ρ ls σ H := by
  cases o with
  | none => exact h.2.elim
  | some c => exact ⟨c, rfl, h⟩
theorem Ds.nx {D : Ends} {ρ' : Env} (h : Ds w Wx D (M.pure (.nx ρ')) G ρ ls σ H) : ∀ G' σ' H', Same G G' → IV w G' H' σ' ρ' ls → D.nx σ' H' := h.2
/-- statements one after another -/
theorem Ds.seq {D : Ends} {m : M Fl} {f : Env → M Fl} (h : Ds w Wx D (M.bind m fun r => match r with | .nx ρ' => f ρ' | r => M.pure r) G ρ ls σ H) :
    Ds w Wx { D with nx := Ts w Wx f D } m G ρ ls σ H := by
  refine ⟨h.1, ?_⟩
  have h2 := h.2
  unfold M.bind at h2
  cases e : m ls with
  | ok a ls' =>
    rw [e] at h2
    cases a with
    | nx ρ' => exact fun G' σ' H' s i => ⟨G', ρ', ls', i, Out.imp h2 (fun _ _ q => q.mono s) fun _ _ q => q⟩
    | ret d => exact h2
    | brk ρ' => exact h2
    | cnt ρ' => exact h2
  | exn x ls' => rw [e] at h2; exact h2
  | stuck => rw [e] at h2; exact h2
end Pv

set_option maxRecDepth 100000
set_option maxHeartbeats 2000000
/-! Each kind of statement. -/
namespace Pv
open PySem PySem.W L2
variable {X : Cx} {w : Wd} {Wx : WXt} {e ix : Expr} {pos p p2 p3 : Pos} {me mx : Env → M PyData} {mo : Env → M (Option Int)} {i j : Nat} {y : Str}

def isComp : Expr → Bool
  | .ListComp .. => true
  | .SetComp .. => true
  | .DictComp .. => true
  | _ => false
theorem noswap {t : Option Expr} {l : Nat} {env : PySem.Env} (h : isComp e = false) : swapsWith e t l env = pure false := by
  cases e <;> first | rfl | cases h
theorem noswapS {t : Expr} {l : Nat} {env : PySem.Env} (h : isComp e = false) : swapsWithSole [t] e l env = pure false := noswap h
/-- what an own list's name (or the state's) holds -/
theorem cells_of {α : Type} {D : Ends} {G H : Hp} {ρ : Env} {ls : List PyData} {σ : L2.St} {f : List PyData → M Fl} (h : Ds w Wx D (M.bind (cells i ρ) f) G ρ ls σ H) :
    ∃ a vs xs, σ[i]? = some (some (.ref a)) ∧ H a = some (.lst vs) ∧ Reps G vs xs ∧ Ds w Wx D (f xs) G ρ ls σ H ∧ ∀ vs' xs', Reps G vs' xs' → ∃ ρ' ls', keep i ρ xs' ls = .ok ρ' ls' ∧ IV w G (upd H a (.lst vs')) σ ρ' ls' := by
  have hiv := h.1
  cases e : ρ[i]? with
  | none => simp only [cells, e] at h; exact h.2.elim
  | some s =>
    cases s with
    | no => simp only [cells, e] at h; exact h.2.elim
    | fz d => simp only [cells, e] at h; exact h.2.elim
    | ow d =>
      cases d with
      | list xs =>
        simp only [cells, e] at h
        obtain ⟨a, e1, g, h0, vs, eH, r⟩ := hiv.sl i _ e
        refine ⟨a, vs, xs, e1, eH, r, h, fun vs' xs' r' => ⟨ρ.set i (.ow (.list xs')), ls, ?_, hiv.mut e e1 r'⟩⟩
        simp only [keep, e]
        rfl
      | _ => simp only [cells, e] at h; exact h.2.elim
    | st =>
      simp only [cells, e] at h
      obtain ⟨lv, e1, r⟩ := hiv.iw.st
      refine ⟨w.sa, lv, ls, hiv.sl i _ e, e1, r, h, fun vs' xs' r' => ⟨ρ, xs', ?_, hiv.mutSt r'⟩⟩
      simp only [keep, e]
theorem mine_of {D : Ends} {G H : Hp} {ρ : Env} {ls : List PyData} {σ : L2.St} {f : List PyData → M Fl} (h : Ds w Wx D (M.bind (mine i ρ) f) G ρ ls σ H) :
    ∃ a vs xs, σ[i]? = some (some (.ref a)) ∧ H a = some (.lst vs) ∧ Reps G vs xs ∧ ρ[i]? = some (.ow (.list xs)) ∧ Ds w Wx D (f xs) G ρ ls σ H ∧ ∀ vs' xs', Reps G vs' xs' → IV w G (upd H a (.lst vs')) σ (ρ.set i (.ow (.list xs'))) ls := by
  have hiv := h.1
  cases e : ρ[i]? with
  | none => simp only [mine, e] at h; exact h.2.elim
  | some s =>
    cases s with
    | ow d =>
      cases d with
      | list xs =>
        simp only [mine, e] at h
        obtain ⟨a, e1, g, h0, vs, eH, r⟩ := hiv.sl i _ e
        exact ⟨a, vs, xs, e1, eH, r, rfl, h, fun vs' xs' r' => hiv.mut e e1 r'⟩
      | _ => simp only [mine, e] at h; exact h.2.elim
    | _ => simp only [mine, e] at h; exact h.2.elim
theorem Ds.guard {D : Ends} {G H : Hp} {ρ : Env} {ls : List PyData} {σ : L2.St} {b : Bool} {f : Unit → M Fl} (h : Ds w Wx D (M.bind (M.guard b) f) G ρ ls σ H) : b = true ∧ Ds w Wx D (f ()) G ρ ls σ H := by
  cases b with
  | true => exact ⟨rfl, h⟩
  | false => exact h.2.elim
theorem Ds.eqm {D : Ends} {G H : Hp} {ρ : Env} {ls : List PyData} {σ : L2.St} {m m' : M Fl} (h : Ds w Wx D m G ρ ls σ H) (e : m ls = m' ls) : Ds w Wx D m' G ρ ls σ H := ⟨h.1, by rw [← e]; exact h.2⟩
theorem Ds.grow {D : Ends} {G H G' H' : Hp} {ρ : Env} {ls : List PyData} {σ : L2.St} {m : M Fl} (h : Ds w Wx D m G ρ ls σ H) (g : Grow G H G' H') : Ds w Wx D m G' ρ ls σ H' :=
  ⟨h.1.ext g.ext (g.st h.1.iw.sub h.1.iw.st), Out.imp h.2 (fun _ _ q => q.mono (g.same h.1.iw.sub)) fun _ _ q => q⟩
theorem notSt_of {D : Ends} {G H : Hp} {ρ : Env} {ls : List PyData} {σ : L2.St} {f : Unit → M Fl} (h : Ds w Wx D (M.bind (notSt i ρ) f) G ρ ls σ H) : i < ρ.length ∧ Ds w Wx D (f ()) G ρ ls σ H := by
  cases e : ρ[i]? with
  | none => simp only [notSt, e] at h; exact h.2.elim
  | some s =>
    refine ⟨(List.getElem?_eq_some_iff.mp e).1, ?_⟩
    cases s with
    | st => simp only [notSt, e] at h; exact h.2.elim
    | _ => simp only [notSt, e] at h; exact h

/-! ### stores -/
theorem ss_asg {t : Tg} {tg : Expr} (he : PE X e (Tm w Wx rV me)) (hg : PG X tg (gT w t)) (hs : swapsWithSole [tg] e pos.line X.env = pure false) (hw : swappedStores [tg] e X.env = pure none) (h1 : (assignEach [tg] X.env).map (·.2) = [assign tg X.env]) :
    PS X (.Assign [tg] e pos) (Ts w Wx fun ρ => M.bind (me ρ) fun d => M.bind (M.opt (bindT t d ρ)) fun ρ' => M.pure (.nx ρ')) :=
  ps_imp (ps_asg he hg hs hw h1) fun D σ H ⟨G, ρ, ls, h⟩ => ⟨G, ρ, ls, h.bind.imp fun v H1 ⟨G1, ls1, d1, r1, s1, h1⟩ => by
    obtain ⟨ρ', hb, h2⟩ := h1.opt
    exact ⟨G1, ρ, ls1, d1, ρ', h2.1, r1, hb, fun σ' iv _ => h2.nx G1 σ' H1 (fun _ _ e => e) iv⟩⟩
/-- x = a new list -/
theorem ss_own (hN : X.N.Nodup) (hi : X.N[i]? = some y) (hx : Loc X.env.scope y) (hf : X.fn y = true ∨ X.env.scope.names.lookup y = some .local) (hs : swapsWith e (some (.Name y p)) pos.line X.env = pure false) (he : PE X e (Tm w Wx rN me)) :
    PS X (.Assign [.Name y p] e pos) (Ts w Wx fun ρ => M.bind (me ρ) fun d => M.bind (notSt i ρ) fun _ => M.pure (.nx (ρ.set i (.ow d)))) :=
  ps_imp (ps_set hN hi hx he hs hf) fun D σ H ⟨G, ρ, ls, h⟩ => ⟨G, ρ, ls, h.bind.imp fun v H1 ⟨G1, ls1, d1, ⟨a, ea, n, g, o⟩, s1, h1⟩ => by
    obtain ⟨hi, h2⟩ := notSt_of h1
    subst ea
    exact h2.nx G1 _ H1 (fun _ _ e => e) (h.1.setOwn h2.1 n g o)⟩
/-- x = y, an own list -/
theorem ss_mv {z : Str} (hN : X.N.Nodup) (hi : X.N[i]? = some y) (hx : Loc X.env.scope y) (hf : X.fn y = true ∨ X.env.scope.names.lookup y = some .local) (hj : X.N[j]? = some z) (hv : Vis X.env.scope z) (hd : (z == ("__debug__" : Str)) = false) (hcd : (z == ("__classdict__" : Str)) = false) :
    PS X (.Assign [.Name y p] (.Name z p2) pos) (Ts w Wx fun ρ => match ρ[j]? with
      | some (.ow d) => M.bind (notSt i ρ) fun _ => if i = j then M.stuck else M.pure (.nx ((ρ.set i (.ow d)).set j .no))
      | _ => M.stuck) :=
  ps_imp (ps_set hN hi hx (pe_var hj hv hd hcd) rfl hf) fun D σ H ⟨G, ρ, ls, h⟩ => by
    cases e : ρ[j]? with
    | none => simp only [e] at h; exact h.2.elim
    | some s =>
      cases s with
      | ow d =>
        simp only [e] at h
        obtain ⟨hi, h2⟩ := notSt_of h
        by_cases hij : i = j
        · rw [if_pos hij] at h2; exact h2.2.elim
        · rw [if_neg hij] at h2
          obtain ⟨a, e1, _⟩ := h2.1.sl j _ e
          exact ⟨_, e1, h2.nx G _ H (fun _ _ e => e) (h2.1.move hij e e1)⟩
      | _ => simp only [e] at h; exact h.2.elim
theorem asg_sub {env : PySem.Env} {o : Expr} (hs : ∀ l u p, ix ≠ .Slice l u none p) (v : Value) : assign (.Subscript o ix p) env v = (do
      let ov ← holding [v] (eval o env)
      let iv ← holding [v, ov] (eval ix env)
      standAt p
      holding [v, ov, iv] (setItem ov iv v)
      release [v, ov, iv] []) := by
  cases ix with
  | Slice l u st q =>
    cases st with
    | none => exact absurd rfl (hs l u q)
    | some _ => rfl
  | _ => rfl
theorem aug_sub (hs : ∀ l u p, ix ≠ .Slice l u none p) (ov iv new : Value) : augStore ix ov iv new = (do holding [new, ov, iv] (setItem ov iv new); release [new, ov, iv] []; pure .next) := by
  cases ix with
  | Slice l u st q =>
    cases st with
    | none => exact absurd rfl (hs l u q)
    | some _ => rfl
  | _ => rfl
theorem setAt_of {xs ys : List PyData} {k : Int} {d : PyData} (h : setAt xs k d = some ys) : ∃ j, ixN xs.length k = some j ∧ ys = xs.set j d := by
  unfold setAt at h
  obtain ⟨j, h1, h2⟩ := Option.map_eq_some_iff.mp h
  exact ⟨j, h1, h2.symm⟩
theorem has_of {D : Ends} {G H : Hp} {ρ : Env} {ls : List PyData} {σ : L2.St} {f : Unit → M Fl} (h : Ds w Wx D (M.bind (hasC i ρ) f) G ρ ls σ H) : (∃ a, σ[i]? = some (some (.ref a)) ∧ ∃ vs, H a = some (.lst vs)) ∧ Ds w Wx D (f ()) G ρ ls σ H := by
  have hiv := h.1
  cases e : ρ[i]? with
  | none => simp only [hasC, e] at h; exact h.2.elim
  | some s =>
    cases s with
    | no => simp only [hasC, e] at h; exact h.2.elim
    | fz d => simp only [hasC, e] at h; exact h.2.elim
    | ow d =>
      cases d with
      | list xs =>
        simp only [hasC, e] at h
        obtain ⟨a, e1, g, h0, vs, eH, r⟩ := hiv.sl i _ e
        exact ⟨⟨a, e1, vs, eH⟩, h⟩
      | _ => simp only [hasC, e] at h; exact h.2.elim
    | st =>
      simp only [hasC, e] at h
      obtain ⟨lv, e1, r⟩ := hiv.iw.st
      exact ⟨⟨w.sa, hiv.sl i _ e, lv, e1⟩, h⟩
theorem ss_setX (hi : X.N[i]? = some y) (hv : Vis X.env.scope y) (hd : (y == ("__debug__" : Str)) = false) (hcd : (y == ("__classdict__" : Str)) = false) (hs : ∀ l u p, ix ≠ .Slice l u none p) (he : PE X e (Tm w Wx rV me)) (hx : PE X ix (Tm w Wx rV mx)) :
    PS X (.Assign [.Subscript (.Name y p) ix p2] e pos) (Ts w Wx fun ρ => M.bind (me ρ) fun d => M.bind (hasC i ρ) fun _ => M.bind (mx ρ) fun k => M.bind (cells i ρ) fun xs =>
      M.bind (M.opt ((intOf k).bind fun n => setAt xs n d)) fun ys => M.bind (keep i ρ ys) fun ρ' => M.pure (.nx ρ')) :=
  ps_imp (ps_asg he (pg_sub (pe_var hi hv hd hcd) hx set_list (asg_sub hs)) (by cases e <;> rfl) (by cases e <;> rfl) rfl) fun D σ H ⟨G, ρ, ls, h⟩ => ⟨G, ρ, ls, h.bind.imp fun v H1 ⟨G1, ls1, d1, r1, s1, h1⟩ => by
    obtain ⟨⟨a, ea, _⟩, h2⟩ := has_of h1
    refine ⟨_, ea, G1, ρ, ls1, h2.bind.imp fun u H2 ⟨G2, ls2, d2, r2, s2, h3⟩ => ?_⟩
    obtain ⟨a', vs, xs, ea', eH, rs, h4, kq⟩ := cells_of (α := Unit) h3
    rw [ea] at ea'
    cases ea'
    obtain ⟨ys, hc, h5⟩ := h4.opt
    obtain ⟨n, hn, hc⟩ := int_bind hc
    obtain rfl := rep_int r2 hn
    obtain ⟨j, hj, rfl⟩ := setAt_of hc
    obtain ⟨ρ', ls', hk, iv⟩ := kq (vs.set j v) (xs.set j d1) (rs.set (r1.mono s2) j)
    refine ⟨a, vs, n, j, rfl, rfl, eH, by rw [rs.length]; exact hj, ?_⟩
    have h6 := h5.2
    unfold M.bind at h6
    rw [hk] at h6
    exact h6 G2 σ _ (fun _ _ e => e) iv⟩
theorem pget_list : PGet X (fun o i H Q => ∃ p xs k v, o = .ref p ∧ i = .int k ∧ SqL X.K H p xs ∧ atI xs k = some v ∧ Q v H) := by
  intro pins s σ H o i ov iv Q I ro ri h
  obtain ⟨p, xs, k, z, rfl, rfl, hq, he, q⟩ := h
  cases ro
  obtain ⟨t, rfl⟩ := ri
  obtain ⟨its, r, pl, hz⟩ := I.list hq
  obtain ⟨j, h1, h2, h3, h4, h5⟩ := atI_get he
  obtain ⟨w, ew, rw'⟩ := r.get h2
  have hl := r.length
  have hn := line63
  have fin : EP X pins σ Q w s := ⟨z, H, I, rw', q⟩
  by_cases h0 : 0 ≤ k
  · have hj : k.toNat = j := by
      rw [seqIndex_of h0 h5] at h1
      exact Option.some.inj h1
    exact wpAny_getItem_list pl.isList h0 (by omega) (by rw [hj]; simpa using ew) fin
  · have hj : (k + (its.toArray.size : Int)).toNat = j := by
      rw [seqIndex_neg (by omega) h4] at h1
      rw [List.size_toArray, ← hl]
      exact Option.some.inj h1
    exact wpAny_getItem_list_neg pl.isList (by omega) (by rw [List.size_toArray] <;> omega) (by omega) (by rw [hj]; simpa using ew) fin
theorem op_inop2 (op : Operator) : OpR X (inplaceOp op) (rFV (inop op)) := by
  intro pins s σ H x y v u Q I rx ry ⟨G, d, e, c, sb, r1, r2, hc, k⟩
  have go : ∀ ho : op = .Add ∨ op = .Sub, (inop op d e = match d, e with | .int i, .int j => binop op (.int i) (.int j) | _, _ => none) → wpAny (model X.prog X.w) X.A (inplaceOp op v u) (EP X pins σ Q) X.xe s := fun ho he =>
    op_inop op ho pins s σ H x y v u Q I rx ry ⟨G, d, e, c, sb, r1, r2, (by rw [he] at hc; cases d <;> cases e <;> first | exact hc | cases hc), k⟩
  cases op with
  | Add => exact go (.inl rfl) (by cases d <;> cases e <;> rfl)
  | Sub => exact go (.inr rfl) (by cases d <;> cases e <;> rfl)
  | _ => cases d <;> cases e <;> cases hc
theorem ss_augX {op : Operator} (hi : X.N[i]? = some y) (hv : Vis X.env.scope y) (hd : (y == ("__debug__" : Str)) = false) (hcd : (y == ("__classdict__" : Str)) = false) (hs : ∀ l u p, ix ≠ .Slice l u none p) (he : PE X e (Tm w Wx rV me)) (hx : PE X ix (Tm w Wx rV mx)) :
    PS X (.AugAssign (.Subscript (.Name y p) ix p2) op e pos) (Ts w Wx fun ρ => M.bind (hasC i ρ) fun _ => M.bind (mx ρ) fun k => M.bind (cells i ρ) fun xs => M.bind (M.opt ((intOf k).bind fun n => L2.atI xs n)) fun o =>
      M.bind (me ρ) fun d => M.bind (M.opt (inop op o d)) fun v => M.bind (cells i ρ) fun xs' =>
      M.bind (M.opt ((intOf k).bind fun n => setAt xs' n v)) fun ys => M.bind (keep i ρ ys) fun ρ' => M.pure (.nx ρ')) :=
  ps_imp (ps_augS (pe_var hi hv hd hcd) hx pget_list he (op_inop2 op) set_list (aug_sub hs)) fun D σ H ⟨G, ρ, ls, h⟩ => by
    obtain ⟨⟨a, ea, _⟩, h2⟩ := has_of h
    refine ⟨_, ea, G, ρ, ls, h2.bind.imp fun u H2 ⟨G2, ls2, d2, r2, s2, h3⟩ => ?_⟩
    obtain ⟨a', vs, xs, ea', eH, rs, h4, -⟩ := cells_of (α := Unit) h3
    rw [ea] at ea'
    cases ea'
    obtain ⟨o, ho, h5⟩ := h4.opt
    obtain ⟨n, hn, ho⟩ := int_bind ho
    obtain rfl := rep_int r2 hn
    obtain ⟨ov, e1, ro⟩ := atI_reps rs ho
    refine ⟨a, vs, n, ov, rfl, rfl, .of eH, e1, G2, ρ, ls2, h5.bind.imp fun z H3 ⟨G3, ls3, d3, r3, s3, h6⟩ => ?_⟩
    obtain ⟨c, hc, h7⟩ := h6.opt
    refine ⟨G3, o, d3, c, h7.1.iw.sub, ro.mono s3, r3, hc, fun t G4 H4 g r4 => ?_⟩
    have h8 := h7.grow g
    obtain ⟨a', vs', xs', ea', eH', rs', h9, kq⟩ := cells_of (α := Unit) h8
    rw [ea] at ea'
    cases ea'
    obtain ⟨ys, hy, h10⟩ := h9.opt
    obtain ⟨n', hn', hy⟩ := int_bind hy
    rw [hn] at hn'
    cases hn'
    obtain ⟨j, hj, rfl⟩ := setAt_of hy
    obtain ⟨ρ', ls', hk, iv⟩ := kq (vs'.set j t) (xs'.set j c) (rs'.set r4 j)
    refine ⟨a, vs', n, j, rfl, rfl, eH', by rw [rs'.length]; exact hj, ?_⟩
    have h11 := h10.2
    unfold M.bind at h11
    rw [hk] at h11
    exact h11 G4 σ _ (fun _ _ e => e) iv
theorem ss_aug {op : Operator} (hN : X.N.Nodup) (hi : X.N[i]? = some y) (hx : Loc X.env.scope y) (hf : X.fn y = true ∨ X.env.scope.names.lookup y = some .local) (he : PE X e (Tm w Wx rV me)) :
    PS X (.AugAssign (.Name y p) op e pos) (Ts w Wx fun ρ => M.bind (match ρ[i]? with | some (.fz d) => M.pure d | _ => M.stuck) fun o => M.bind (me ρ) fun d => M.bind (M.opt (inop op o d)) fun v => M.pure (.nx (ρ.set i (.fz v)))) :=
  ps_imp (ps_aug hN hi hx he (op_inop2 op) hf) fun D σ H ⟨G, ρ, ls, h⟩ => by
    cases e0 : ρ[i]? with
    | none => simp only [e0] at h; exact h.2.elim
    | some s =>
      cases s with
      | fz o =>
        simp only [e0] at h
        have h : Ds w Wx D (M.bind (me ρ) fun d => M.bind (M.opt (inop op o d)) fun v => M.pure (.nx (ρ.set i (.fz v)))) G ρ ls σ H := h
        obtain ⟨ov, e1, ro⟩ := h.1.sl i _ e0
        refine ⟨ov, e1, G, ρ, ls, h.bind.imp fun z H3 ⟨G3, ls3, d3, r3, s3, h6⟩ => ?_⟩
        obtain ⟨c, hc, h7⟩ := h6.opt
        refine ⟨G3, o, d3, c, h7.1.iw.sub, ro.mono s3, r3, hc, fun t G4 H4 g r4 => ?_⟩
        have h8 := h7.grow g
        exact h8.nx G4 _ H4 (fun _ _ e => e) (h8.1.set r4)
      | _ => simp only [e0] at h; exact h.2.elim

/-! ### own lists' methods -/
theorem pl_append : PlainAttrs "list" := PySem.F.plainAttrs_list
theorem ss_app {ap cp : Pos} (hi : X.N[i]? = some y) (hv : Vis X.env.scope y) (hd : (y == ("__debug__" : Str)) = false) (hcd : (y == ("__classdict__" : Str)) = false) (hs : ∀ x p, e ≠ .Starred x p) (hl : (ap.endLine == cp.line) = true) (he : PE X e (Tm w Wx rV me)) :
    PS X (.Expr (.Call (.Attribute (.Name y p) "append" ap) [e] [] cp) pos) (Ts w Wx fun ρ => M.bind (hasC i ρ) fun _ => M.bind (me ρ) fun d => M.bind (mine i ρ) fun xs => M.bind (M.guard (decide (xs.length < sizeLine))) fun _ => M.pure (.nx (ρ.set i (.ow (.list (xs ++ [d])))))) :=
  ps_imp (ps_expr (pe_bm PySem.F.plainAttrs_list PySem.F.slot_list_append PySem.F.type_list_append mt_append (pe_var hi hv hd hcd) (pa_cons he pa_nil (star1 hs [] X.env)) rfl (by rw [star1 hs [] X.env]; rfl) hl (star1 hs [] X.env) rfl) rfl) fun D σ H ⟨G, ρ, ls, h⟩ => by
    obtain ⟨⟨a, ea, lv, eL⟩, h2⟩ := has_of h
    refine ⟨_, ea, ?_, G, ρ, ls, h2.bind.imp fun u H2 ⟨G2, ls2, d2, r2, s2, h3⟩ => ?_⟩
    · exact .inl ⟨rfl, _, .of eL⟩
    obtain ⟨a', vs, xs, ea', eH, rs, eo, h4, kq⟩ := mine_of h3
    rw [ea] at ea'
    cases ea'
    obtain ⟨hz, h5⟩ := h4.guard
    have hz := of_decide_eq_true hz
    exact ⟨a, vs, u, rfl, rfl, eH, by rw [rs.length]; exact hz, h5.nx G2 _ _ (fun _ _ e => e) (kq (vs ++ [u]) (xs ++ [d2]) (rs.append (.cons r2 .nil)))⟩

theorem erase_map {α β : Type} (f : α → β) : ∀ (xs : List α) (j : Nat), (xs.map f).eraseIdx j = (xs.eraseIdx j).map f
  | [], _ => rfl
  | _ :: _, 0 => rfl
  | x :: xs, j + 1 => by rw [List.map_cons, List.eraseIdx_cons_succ, List.eraseIdx_cons_succ, List.map_cons, erase_map f xs j]
theorem ss_rem {ap cp : Pos} (hi : X.N[i]? = some y) (hv : Vis X.env.scope y) (hd : (y == ("__debug__" : Str)) = false) (hcd : (y == ("__classdict__" : Str)) = false) (hs : ∀ x p, e ≠ .Starred x p) (hl : (ap.endLine == cp.line) = true) (he : PE X e (Tm w Wx rV me)) :
    PS X (.Expr (.Call (.Attribute (.Name y p) "remove" ap) [e] [] cp) pos) (Ts w Wx fun ρ => M.bind (hasC i ρ) fun _ => M.bind (me ρ) fun d => M.bind (mine i ρ) fun xs => M.bind (M.opt ((intOf d).bind fun k => remAt xs k)) fun ys => M.pure (.nx (ρ.set i (.ow (.list ys))))) :=
  ps_imp (ps_expr (pe_bm PySem.F.plainAttrs_list PySem.F.slot_list_remove PySem.F.type_list_remove mt_remove (pe_var hi hv hd hcd) (pa_cons he pa_nil (star1 hs [] X.env)) rfl (by rw [star1 hs [] X.env]; rfl) hl (star1 hs [] X.env) rfl) rfl) fun D σ H ⟨G, ρ, ls, h⟩ => by
    obtain ⟨⟨a, ea, lv, eL⟩, h2⟩ := has_of h
    refine ⟨_, ea, ?_, G, ρ, ls, h2.bind.imp fun u H2 ⟨G2, ls2, d2, r2, s2, h3⟩ => ?_⟩
    · exact .inl ⟨rfl, _, .of eL⟩
    obtain ⟨a', vs, xs, ea', eH, rs, eo, h4, kq⟩ := mine_of h3
    rw [ea] at ea'
    cases ea'
    obtain ⟨ys, hc, h5⟩ := h4.opt
    obtain ⟨k, hk, hc⟩ := int_bind hc
    obtain rfl := rep_int r2 hk
    unfold remAt at hc
    cases hn : intsOf xs with
    | none => rw [hn] at hc; cases hc
    | some ns =>
      rw [hn] at hc
      obtain ⟨j, hj, rfl⟩ := Option.map_eq_some_iff.mp (show (ns.findIdx? (· == k)).map (fun j => xs.eraseIdx j) = some ys from hc)
      have ev := Reps.ints rs hn
      subst ev
      rw [List.findIdx?_eq_some_iff_getElem] at hj
      obtain ⟨hlt, h6, h7⟩ := hj
      have h6 : ns[j] = k := by simpa using h6
      refine ⟨a, ns, k, j, rfl, rfl, eH, by rw [List.getElem?_eq_getElem hlt, h6], fun m hm z => ?_, ?_⟩
      · obtain ⟨hml, e6⟩ := List.getElem?_eq_some_iff.mp z
        have := h7 m hm
        simp [e6] at this
      · have r9 := rs.eraseIdx j
        rw [show (ns.map V.int).eraseIdx j = (ns.eraseIdx j).map V.int from erase_map V.int ns j] at r9
        exact h5.nx G2 _ _ (fun _ _ e => e) (kq _ _ r9)
/-! ### flow -/
theorem ss_exp (hc : isComp e = false) (he : PE X e (Tm w Wx rH me)) : PS X (.Expr e pos) (Ts w Wx fun ρ => M.bind (me ρ) fun _ => M.pure (.nx ρ)) :=
  ps_imp (ps_expr he (noswap hc)) fun D σ H ⟨G, ρ, ls, h⟩ => ⟨G, ρ, ls, h.bind.imp fun v H1 ⟨G1, ls1, d1, r1, s1, h1⟩ => h1.nx G1 σ H1 (fun _ _ e => e) h1.1⟩
theorem ss_ret (he : PE X e (Tm w Wx rV me)) : PS X (.Return (some e) pos) (Ts w Wx fun ρ => M.bind (me ρ) fun d => M.pure (.ret d)) :=
  ps_imp (ps_ret he) fun D σ H ⟨G, ρ, ls, h⟩ => ⟨G, ρ, ls, h.bind.imp fun v H1 ⟨G1, ls1, d1, r1, s1, h1⟩ => h1.2 v G1 H1 h1.1.iw r1⟩
theorem ss_pass : PS X (.Pass pos) (Ts w Wx fun ρ => M.pure (.nx ρ)) := ps_imp ps_pass fun D σ H ⟨G, ρ, ls, h⟩ => h.nx G σ H (fun _ _ e => e) h.1
theorem ss_brk : PS X (.Break pos) (Ts w Wx fun ρ => M.pure (.brk ρ)) := ps_imp ps_break fun D σ H ⟨G, ρ, ls, h⟩ => h.2 G σ H (fun _ _ e => e) h.1
theorem ss_cnt : PS X (.Continue pos) (Ts w Wx fun ρ => M.pure (.cnt ρ)) := ps_imp ps_continue fun D σ H ⟨G, ρ, ls, h⟩ => h.2 G σ H (fun _ _ e => e) h.1
theorem ss_ite {c : Expr} {a b : List Stmt} {tc : Env → M Bool} {ma mb : Env → M Fl} (hc : PT X c (Tm w Wx rB tc)) (ha : PSs X a (Ts w Wx ma)) (hb : PSs X b (Ts w Wx mb)) :
    PS X (.If c a b pos) (Ts w Wx fun ρ => M.bind (tc ρ) fun k => if k = true then ma ρ else mb ρ) :=
  ps_imp (ps_if hc ha hb) fun D σ H ⟨G, ρ, ls, h⟩ => ⟨G, ρ, ls, h.bind.imp fun v H1 ⟨G1, ls1, d1, r1, s1, h1⟩ => by
    cases r1
    cases v with
    | true => exact ⟨G1, ρ, ls1, h1⟩
    | false => exact ⟨G1, ρ, ls1, h1⟩⟩
theorem ss_nil : PSs X [] (Ts w Wx fun ρ => M.pure (.nx ρ)) := pss_imp pss_nil fun D σ H ⟨G, ρ, ls, h⟩ => h.nx G σ H (fun _ _ e => e) h.1
theorem ss_cons {s : Stmt} {ss : List Stmt} {ma mb : Env → M Fl} (ha : PS X s (Ts w Wx ma)) (hb : PSs X ss (Ts w Wx mb)) :
    PSs X (s :: ss) (Ts w Wx fun ρ => M.bind (ma ρ) fun r => match r with | .nx ρ' => mb ρ' | r => M.pure r) :=
  pss_imp (pss_cons ha hb) fun D σ H ⟨G, ρ, ls, h⟩ => ⟨G, ρ, ls, h.seq⟩
/-- one turn of a loop -/
theorem Ds.turn {D : Ends} {G H : Hp} {ρ : Env} {ls : List PyData} {σ : L2.St} {m : M Fl} {g : Env → M Fl} (h : Ds w Wx D (M.bind m fun r => match r with
      | .nx ρ' => g ρ'
      | .cnt ρ' => g ρ'
      | .brk ρ' => M.pure (.nx ρ')
      | .ret d => M.pure (.ret d)) G ρ ls σ H) :
    Ds w Wx { D with nx := fun σ' H' => ∃ G' ρ' ls', Same G G' ∧ Ds w Wx D (g ρ') G' ρ' ls' σ' H', ct := fun σ' H' => ∃ G' ρ' ls', Same G G' ∧ Ds w Wx D (g ρ') G' ρ' ls' σ' H', bk := D.nx } m G ρ ls σ H := by
  refine ⟨h.1, ?_⟩
  have h2 := h.2
  unfold M.bind at h2
  cases e : m ls with
  | ok a ls' =>
    rw [e] at h2
    cases a with
    | nx ρ' => exact fun G' σ' H' s i => ⟨G', ρ', ls', s, i, Out.imp h2 (fun _ _ q => q.mono s) fun _ _ q => q⟩
    | cnt ρ' => exact fun G' σ' H' s i => ⟨G', ρ', ls', s, i, Out.imp h2 (fun _ _ q => q.mono s) fun _ _ q => q⟩
    | ret d => exact h2
    | brk ρ' => exact h2
  | exn x ls' => rw [e] at h2; exact h2
  | stuck => rw [e] at h2; exact h2
theorem ss_whl {c : Expr} {body : List Stmt} {tc : Env → M Bool} {mb : Env → M Fl} (n : Nat) (hp : PassesOwn (model X.prog X.w) X.A X.env X.xe) (hc : PT X c (Tm w Wx rB tc)) (hb : PSs X body (Ts w Wx mb)) :
    PS X (.While c body [] pos) (Ts w Wx fun ρ => loopW tc mb n ρ) :=
  ps_imp (ps_while hp hc hb) fun D σ H ⟨G, ρ, ls, h⟩ => by
    refine ⟨fun m σ H => ∃ G ρ ls, Ds w Wx D (loopW tc mb m ρ) G ρ ls σ H, ⟨n, G, ρ, ls, h⟩, ?_⟩
    rintro m σ1 H1 ⟨G1, ρ1, ls1, h1⟩
    cases m with
    | zero => exact h1.2.elim
    | succ m =>
      refine ⟨G1, ρ1, ls1, Pd.imp (Ds.bind h1) fun v H2 ⟨G2, ls2, d2, r2, s2, h2⟩ => ?_⟩
      cases r2
      cases v with
      | true =>
        rw [if_pos rfl]
        have h3 := Ds.turn (show Ds w Wx D (M.bind (mb ρ1) fun r => match r with
          | .nx ρ' => loopW tc mb m ρ'
          | .cnt ρ' => loopW tc mb m ρ'
          | .brk ρ' => M.pure (.nx ρ')
          | .ret d => M.pure (.ret d)) G2 ρ1 ls2 σ1 H2 from h2)
        exact ⟨_, fun σ' H' ⟨G', ρ', ls', _, h'⟩ => ⟨m, Nat.lt_succ_self m, G', ρ', ls', h'⟩, G2, ρ1, ls2, h3⟩
      | false =>
        rw [if_neg Bool.false_ne_true]
        exact Ds.nx (show Ds w Wx D (M.pure (.nx ρ1)) G2 ρ1 ls2 σ1 H2 from h2) G2 σ1 H2 (fun _ _ e => e) h2.1
theorem ss_for {tg iter : Expr} {t : Tg} {body : List Stmt} {mi : Env → M (List PyData)} {mb : Env → M Fl} (hp : PassesOwn (model X.prog X.w) X.A X.env X.xe) (hcalm : X.calm = true) (hi : PI X tg iter (Tm w Wx rIt mi)) (hg : PG X tg (gT w t)) (hb : PSs X body (Ts w Wx mb))
    (hs : ∀ x, foldedSetIterable iter X.env x = pure x) :
    PS X (.For tg iter body [] pos) (Ts w Wx fun ρ => M.bind (mi ρ) fun xs => loopF (fun x ρ => M.bind (M.opt (bindT t x ρ)) fun ρ' => mb ρ') xs ρ) :=
  ps_imp (ps_for hp hcalm hi hg hb hs) fun D σ H ⟨G, ρ, ls, h⟩ => ⟨G, ρ, ls, h.bind.imp fun J H1 ⟨G1, ls1, xs, src, s1, h1⟩ => by
    refine ⟨fun i m σ H => m = xs.length - i ∧ i ≤ xs.length ∧ ∃ G2 ρ2 ls2, Same G1 G2 ∧ Ds w Wx D (loopF (fun x ρ => M.bind (M.opt (bindT t x ρ)) fun ρ' => mb ρ') (xs.drop i) ρ2) G2 ρ2 ls2 σ H, ⟨_, rfl, Nat.zero_le _, G1, ρ, ls1, fun _ _ e => e, h1⟩, ?_⟩
    rintro i m σ2 H2 ⟨rfl, hi2, G2, ρ2, ls2, s2, h2⟩
    have gd : Same G1 G2 ∧ Same G2 H2 := ⟨s2, h2.1.iw.sub⟩
    by_cases hlt : i < xs.length
    · refine .inr ⟨src.go i G2 H2 gd hlt, ?_⟩
      have hd : xs.drop i = xs[i] :: xs.drop (i + 1) := List.drop_eq_getElem_cons hlt
      rw [hd] at h2
      refine ⟨fun σ' H' => (i + 1 ≤ xs.length ∧ ∃ G3 ρ3 ls3, Same G1 G3 ∧ Ds w Wx D (loopF (fun x ρ => M.bind (M.opt (bindT t x ρ)) fun ρ' => mb ρ') (xs.drop (i + 1)) ρ3) G3 ρ3 ls3 σ' H'), fun σ' H' h' => ⟨_, by omega, rfl, h'⟩, fun x H3 y => ?_⟩
      obtain ⟨G3, g3, r3⟩ := src.yld i G2 H2 x H3 xs[i] gd (List.getElem?_eq_getElem hlt) y
      have h3 := h2.grow g3
      have h4 : Ds w Wx D (M.bind (M.opt (bindT t xs[i] ρ2)) fun ρ' => M.bind (mb ρ') fun r => match r with
          | .nx ρ' => loopF (fun x ρ => M.bind (M.opt (bindT t x ρ)) fun ρ' => mb ρ') (xs.drop (i + 1)) ρ'
          | .cnt ρ' => loopF (fun x ρ => M.bind (M.opt (bindT t x ρ)) fun ρ' => mb ρ') (xs.drop (i + 1)) ρ'
          | .brk ρ' => M.pure (.nx ρ')
          | .ret d => M.pure (.ret d)) G3 ρ2 ls2 σ2 H3 := by
        refine h3.eqm ?_
        show M.bind (M.bind (M.opt (bindT t xs[i] ρ2)) fun ρ' => mb ρ') _ ls2 = _
        rw [← M.bind_assoc]
        try rfl
      obtain ⟨ρ', hb', h5⟩ := h4.opt
      refine ⟨G3, ρ2, ls2, xs[i], ρ', h5.1, r3, hb', fun σ' iv _ => ?_⟩
      have h6 := Ds.turn (show Ds w Wx D _ G3 ρ' ls2 σ' H3 from ⟨iv, h5.2⟩)
      refine ⟨G3, ρ', ls2, h6.1, Out.imp h6.2 (fun f ls' q => ?_) fun _ _ q => q⟩
      have s3 : Same G1 G3 := fun b o e => g3.same gd.2 b o (s2 b o e)
      cases f with
      | nx ρ4 => exact fun G' σ' H' s i' => let ⟨G5, ρ5, ls5, s5, h5⟩ := q G' σ' H' s i'; ⟨hlt, G5, ρ5, ls5, fun b o e => s5 b o (s3 b o e), h5⟩
      | cnt ρ4 => exact fun G' σ' H' s i' => let ⟨G5, ρ5, ls5, s5, h5⟩ := q G' σ' H' s i'; ⟨hlt, G5, ρ5, ls5, fun b o e => s5 b o (s3 b o e), h5⟩
      | brk ρ4 => exact q
      | ret d => exact q
    · have he : i = xs.length := by omega
      subst he
      refine .inl ⟨src.stop G2 H2 gd, ?_⟩
      rw [List.drop_length] at h2
      exact Ds.nx (show Ds w Wx D (M.pure (.nx ρ2)) G2 ρ2 ls2 σ2 H2 from h2) G2 σ2 H2 (fun _ _ e => e) h2.1⟩
end Pv

set_option maxRecDepth 100000
set_option maxHeartbeats 2000000
/-! try with several clauses that all give the error the same name. -/
namespace Pv
open PySem PySem.W L2 PySem.Spec PyProof.Rows
variable {X : Cx}
/-- the ends of a suite: the error's name goes -/
def endsA (i : Nat) (D : Ends) : Ends := { nx := fun σ H => D.nx (σ.set i none) H, rt := D.rt, bk := fun σ H => D.bk (σ.set i none) H, ct := fun σ H => D.ct (σ.set i none) H }
def wA (K : PySem.W.Frag) (i : Nat) (Wout : WX) (D : Ends) : List (Value × (Addr → Value → Option Addr → TS)) → WX
  | [] => Wout
  | c :: r => fun cls d σ H => ∃ b, PySem.W.exmOne K cls c.1 = some b ∧ (b = true → ∀ a, H a = none → c.2 a cls d (endsA i D) (σ.set i (some (.ref a))) H) ∧ (b = false → wA K i Wout D r cls d σ H)
inductive HdsA (X : Cx) (n : Str) : List ExceptHandler → List (Value × (Addr → Value → Option Addr → TS)) → Prop
  | nil : HdsA X n [] []
  | cons {x : Str} {c : Value} {ts : Addr → Value → Option Addr → TS} {b₀ : Stmt} {suite : List Stmt} {np pos' : Pos} {hds : List ExceptHandler} {l : List (Value × (Addr → Value → Option Addr → TS))} :
      Names X x c → (∀ (a : Addr) (oe : Obj) (cls : Value) (d : Option Addr) (pn : List (Addr × Obj)), Zc cls d oe → (∃ vs, oe.data = .fields vs) → PSs (X.suite a ((a, oe) :: pn)) (b₀ :: suite) (ts a cls d)) →
      HdsA X n hds l → HdsA X n (.ExceptHandler (some (.Name x np)) (some n) (b₀ :: suite) pos' :: hds) ((c, ts) :: l)
theorem SP.ofTry {pins : List (Addr × Obj)} {xe : Value → Shared → Prop} {D : Ends} {f : Flow} {s : Shared} (ok : X.Ok) (h : SP (X.tr (X.pn ++ pins) xe) [] D f s) : SP X pins D f s := by
  cases f with
  | ret u => obtain ⟨v, σ', H', J, r, q⟩ := h; exact ⟨v, σ', H', J.ofTry ok, r, q⟩
  | _ => obtain ⟨σ', H', J, q⟩ := h; exact ⟨σ', H', J.ofTry ok, q⟩
theorem ps_tryA {n : Str} {i : Nat} {body : List Stmt} {h₀ : ExceptHandler} {hds : List ExceptHandler} {l : List (Value × (Addr → Value → Option Addr → TS))} {pos : Pos} {tb : WX → TS} {Wout : WX}
    (hs : X.stack = X.env :: X.outer) (hf : X.env.frame = some X.env.locals) (hN : X.N.Nodup) (hi : X.N[i]? = some n) (hln : X.env.kindOf n = some .local) (tk : Takes X Wout)
    (hb : ∀ (W : WX) (pn : List (Addr × Obj)) (xe : Value → Shared → Prop), Takes (X.tr pn xe) W → PassesOwn (model X.prog X.w) X.A X.env xe → PSs (X.tr pn xe) body (tb W))
    (hh : HdsA X n (h₀ :: hds) l) : PS X (.Try body (h₀ :: hds) [] [] pos) (fun D σ H => tb (wA X.K i Wout D l) D σ H) := by
  refine ⟨fun pins s σ H D I h => ?_⟩
  have ok := I.ok
  have hfr : X.A.frames = some (X.env :: X.outer) := ok.frames.trans (congrArg some hs)
  refine wpAny_Try_except (wpAny_mono ((hb _ (X.pn ++ pins) (fun e s₁ => wpAny (model X.prog X.w) X.A (noteFrame e X.env) (fun _ s₂ => wpAny (model X.prog X.w) X.A (setFlight e none) (fun _ s₃ =>
    wpAny (model X.prog X.w) X.A (handleBy e X.env (h₀ :: hds)) (SP X pins D) X.xe s₃) X.xe s₂) X.xe s₁) (fun u s' xx => ?_) PassesOwn.looking).run [] s σ H D (I.toTry _) h) (fun f s1 hsp => ?_) fun _ _ he => he)
  · obtain ⟨a, B, sI, pins', σ1, H1, cls, d, rfl, J', nb, up, sky, na, os, ag, wish⟩ := xx
    have J : Inv X pins σ1 H1 sI := J'.ofTry ok
    show wpAny (model X.prog X.w) X.A (noteFrame (.ref a) X.env) _ _ _
    refine Sky.land (Z := Zc cls d) (B := B) (L := X.env.locals) (outer := X.outer) Zc.steady hfr hf (by rw [← hs]; exact sky) fun h3 fl3 up3 => ?_
    have J3 : Inv X pins σ1 H1 { s' with heap := h3 } := J.landed nb fl3.1 (up.trans up3) os ag
    obtain ⟨oe3, vs3, he3, hz3, hd3⟩ := fl3.there
    have nfr : a ∉ frs (X.env :: X.outer) := fun hm => by
      obtain ⟨_, o', e', hnf⟩ := fl3.2.2.1.mem hm
      rw [he3] at e'
      cases e'
      exact hnf _ hd3
    have nL : a ≠ X.env.locals := fun z => nfr (List.mem_filterMap.mpr ⟨X.env, List.mem_cons_self, by rw [hf, z]⟩)
    have nF : a ∉ X.fs := fun hm => let ⟨e, he, q⟩ := List.mem_filterMap.mp hm; nfr (List.mem_filterMap.mpr ⟨e, List.mem_cons_of_mem _ he, q⟩)
    have S3 := J3.suite he3 hd3 na nL nF
    suffices go : ∀ {hs' : List ExceptHandler} {l' : List (Value × (Addr → Value → Option Addr → TS))}, HdsA X n hs' l' → wA X.K i Wout D l' cls d σ1 H1 →
        wpAny (model X.prog X.w) X.A (handleBy (.ref a) X.env hs') (SP X pins D) X.xe { s' with heap := h3 } from go hh wish
    intro hs' l' hk
    induction hk with
    | nil =>
      intro w
      refine wpAny_handleBy_nil ?_
      obtain ⟨k1, k2, k3, oe, vs, T, oT, ts', he, hz, hd, h1, hr⟩ := id fl3
      unfold PySem.passOn
      refine wpAny_bind (wpAny_field he hd h1 ?_)
      rw [if_neg (show ¬ ((Value.ref T == Value.none) = true) from by simp)]
      have fin : wpAny (model X.prog X.w) X.A (setFlight (.ref a) X.env.frame) (fun _ s4 => wpAny (model X.prog X.w) X.A (throw (.ref a) : Sem Flow) (SP X pins D) X.xe s4) X.xe { s' with heap := h3 } := by
        rw [hf]
        exact HandSPX.setFlight_upZ fl3 fun h4 hh4 up4 => wpAny_throw (tk _ _ ⟨a, B, sI, pins, σ1, H1, cls, d, rfl, J, nb, (up.trans up3).trans up4, .inr (.inr (by rw [hs]; exact hh4)), na, os, ag, w⟩)
      first
        | exact wpAny_bind (wpAny_pure (wpAny_bind fin))
        | exact wpAny_bind fin
    | @cons x c ts b₀ suite np pos' hds2 l2 hc hsu r ih =>
      rintro ⟨b, hb1, hyes, hno⟩
      refine wpAny_handleBy_cons (codeAny_handlers_test ?_) (by intro q; cases q)
      have LT : PySem.W.Looks (model X.prog X.w) h3 (typeOf (.ref a)) cls := fun A Q E s k q => wpAny_typeOf_ref (k _ _ he3) (by rw [hz3.1]; exact q)
      have test : ∀ {Q : Value → Shared → Prop} {E : Value → Shared → Prop}, Q c { s' with heap := h3 } → wpAny (model X.prog X.w) (X.A.mark (some (.ref a))) (eval (.Name x np) X.env) Q E { s' with heap := h3 } := fun {Q E} q => by
        obtain ⟨hg, hdbg, hm | ⟨hm, hv, hnn⟩⟩ := hc
        · exact ld_glob (X := X.suite a ((a, oe3) :: (X.pn ++ pins))) S3 hg hm q hdbg
        · exact ld_blt (X := X.suite a ((a, oe3) :: (X.pn ++ pins))) S3 hg hm hv q hnn hdbg
      refine test ((PySem.W.exm_one (M := model X.prog X.w) J3.kIn LT hb1).here ?_)
      cases b with
      | false => exact ih (hno rfl)
      | true =>
        refine codeAny_handlers_suite_as (HandSPX.lands_againZ fl3 fun h4 fl4 up4 => ?_)
        have J4 : Inv X pins σ1 H1 { s' with heap := h4 } := J.landed nb fl4.1 ((up.trans up3).trans up4) os ag
        obtain ⟨oe4, vs4, he4, hz4, hd4⟩ := fl4.there
        refine store_ok (X := X.suite a ((a, oe4) :: (X.pn ++ pins))) (v := .ref a) (J4.suite he4 hd4 na nL nF) hN hi (.inl hln) rfl (fun s5 S5 => ?_) (.inr hln)
        refine wpAny_mono ((hsu a oe4 cls d (X.pn ++ pins) hz4 ⟨_, hd4⟩).run [] s5 _ H1 _ S5 (hyes rfl a na)) (fun f s6 hsp => ?_) fun _ _ z => False.elim z
        cases f with
        | ret u =>
          obtain ⟨v6, σ6, H6, S6, r6, q6⟩ := hsp
          exact gone_ok (S6.unsuite ok) hN hi hln fun s7 J7 => ⟨_, _, _, J7, r6, q6⟩
        | _ =>
          obtain ⟨σ6, H6, S6, q6⟩ := hsp
          exact gone_ok (S6.unsuite ok) hN hi hln fun s7 J7 => ⟨_, _, J7, q6⟩
  · have q := SP.ofTry ok hsp
    cases f with
    | next => exact wpAny_execs_nil q
    | _ => exact q
end Pv

set_option maxRecDepth 100000
set_option maxHeartbeats 2000000
/-! The program's own errors: raised, and caught as the laws catch them. -/
namespace Pv
open PySem PySem.W L2
variable {X : Cx} {w : Wd} {Wx : WXt} {e : Expr} {pos p : Pos} {me : Env → M PyData} {EC : Ex → Addr}
def xn : Ex → Str
  | .unfit => "UnfitPlan"
  | .wide => "TooWide"
/-- what is known of the two classes -/
structure ExF (K : PySem.W.Frag) (mg : Str → Option Value) (EC : Ex → Addr) : Prop where
  nm : ∀ x, mg (xn x) = some (.ref (EC x))
  kp : ∀ x, PySem.W.keepIn K (.ref (EC x)) = true
  exm : ∀ x y, PySem.W.exmOne K (.ref (EC x)) (.ref (EC y)) = some (x == y)
  isv : ∀ x, PySem.W.kitOne K (.ref (EC x)) (.type "ValueError") = some true
  exc : ∀ x, ExcC K (EC x)
  sub : ∀ x, PySem.W.subIn K (.ref (EC x)) (.type "BaseException") = some true
  ty : ∀ x, PySem.W.typeIn K (.ref (EC x)) = some (.type "type")
  ex : ∀ x, PySem.W.excIn K (EC x) [.type "ValueError", .type "Exception", .type "BaseException", .type "object"] "ValueError.__new__" = true
  nov : mg "ValueError" = none
  noi : mg "isinstance" = none

theorem ss_rais {W : WX} {x : Ex} {m : Str} {jk : Nat} {p2 p3 : Pos} (hc : X.calm = true) (tk : Takes X W) (F : ExF X.K X.mg EC) (hg : Gl X (xn x)) :
    PS X (.Raise (some (.Call (.Name (xn x) p) [.Constant (.str m) jk p2] [] p3)) none pos) (Ts w (wxOf W EC) fun _ => M.raise x) :=
  ps_imp (ps_raise hc tk (pmk_own PySem.F.excBase_ValueError (F.ex x) (F.nm x) (F.kp x) (raises_own (F.sub x) (F.ty x)) hg (by cases x <;> decide))) fun D σ H ⟨G, ρ, ls, h⟩ => h.2 σ G H h.1.iw
/-- isinstance(error, ValueError), in the suite that holds the error -/
theorem pe_isE {i : Nat} {n : Str} {a : Addr} {oe : Obj} {x : Ex} {pn : List (Addr × Obj)} {p1 p2 p3 p4 : Pos} (F : ExF X.K X.mg EC) (hi : X.N[i]? = some n) (hv : X.env.scope.names.lookup n = some .local) (hd : (n == ("__debug__" : Str)) = false) (hcd : (n == ("__classdict__" : Str)) = false)
    (g1 : Gl X "isinstance") (g2 : Gl X "ValueError") (hz : Zc (.ref (EC x)) none oe) (hf : ∃ vs, oe.data = .fields vs) :
    PE (X.suite a ((a, oe) :: pn)) (.Call (.Name "isinstance" p1) [.Name n p2, .Name "ValueError" p3] [] p4) (fun σ H Q => σ[i]? = some (some (.ref a)) ∧ Q (.bl true) H) := by
  have h2 : PE (X.suite a ((a, oe) :: pn)) (.Name "ValueError" p3) (tC (.ty "ValueError")) := pe_bltn g2 F.nov (by decide +kernel) rfl (by decide) (by decide)
  have h1 : PE (X.suite a ((a, oe) :: pn)) (.Name n p2) (tVar i) := pe_var hi (.inl hv) hd hcd
  refine pe_imp (pe_callB (call_isE (F.exc x) hz hf) g1 F.noi PyProof.Rows.boot_isinstance (pa_cons h1 (pa_cons h2 pa_nil)) (by decide) (by decide)) fun σ H Q ⟨e, q⟩ => ?_
  exact ⟨_, e, .ty "ValueError", .type "ValueError", true, rfl, fun u r => r, F.isv x, q⟩
theorem IV.junk {G H : Hp} {σ : L2.St} {ρ : Env} {ls : List PyData} {i : Nat} {o : Option V} (h : IV w G H σ ρ ls) (e : ρ[i]? = some .no) : IV w G H (σ.set i o) ρ ls := by
  have ne : ∀ {j : Nat} {s : Slot}, ρ[j]? = some s → s ≠ .no → i ≠ j := fun {j s} q n z => by subst z; rw [e] at q; cases q; exact n rfl
  refine ⟨h.iw, fun j s q => ?_, fun j k d1 d2 n q1 q2 => ?_, by rw [List.length_set]; exact h.ln⟩
  · have p := h.sl j s q
    cases s with
    | no => trivial
    | fz d1 => obtain ⟨u, e1, r1⟩ := p; exact ⟨u, by rw [List.getElem?_set_ne (ne q (by simp))]; exact e1, r1⟩
    | ow d1 => obtain ⟨u, e1, r1⟩ := p; exact ⟨u, by rw [List.getElem?_set_ne (ne q (by simp))]; exact e1, r1⟩
    | st =>
      show (σ.set i o)[j]? = _
      rw [List.getElem?_set_ne (ne q (by simp))]
      exact p
  · rw [List.getElem?_set_ne (ne q1 (by simp)), List.getElem?_set_ne (ne q2 (by simp))]
    exact h.ds j k d1 d2 n q1 q2

section
variable {W : WX} {i : Nat} {n : Str} {fn : Nat → Option (Str × Bool)} {Φ : Nat → List PyData → M PyData} {k : Nat}
/-- what a clause of the laws' first try does: () comes back -/
def tsR (EC : Ex → Addr) (i : Nat) (a : Addr) (cls : Value) (d : Option Addr) : TS := fun D σ H => ∃ x, cls = .ref (EC x) ∧ d = none ∧ σ[i]? = some (some (V.ref a)) ∧ ∀ q, H q = none → D.rt (V.ref q) (upd H q (.tup []))
/-- .. of their second try: nothing -/
def tsC (EC : Ex → Addr) (i : Nat) (a : Addr) (cls : Value) (d : Option Addr) : TS := fun D σ H => ∃ x, cls = .ref (EC x) ∧ d = none ∧ σ[i]? = some (some (V.ref a)) ∧ D.nx σ H
theorem suite_tryR {p1 p2 p3 p4 p5 p6 p7 : Pos} {m j2 : Nat} {a : Addr} {oe : Obj} {cls : Value} {d : Option Addr} {pn : List (Addr × Obj)} (F : ExF X.K X.mg EC) (hi : X.N[i]? = some n) (hv : X.env.scope.names.lookup n = some .local) (hd : (n == ("__debug__" : Str)) = false) (hcd : (n == ("__classdict__" : Str)) = false)
    (g1 : Gl X "isinstance") (g2 : Gl X "ValueError") (hz : Zc cls d oe) (hf : ∃ vs, oe.data = .fields vs) :
    PSs (X.suite a ((a, oe) :: pn)) [.Return (some (.IfExp (.Call (.Name "isinstance" p1) [.Name n p2, .Name "ValueError" p3] [] p4) (.Tuple [] m p5) (.Constant .none j2 p6) p7)) pos]
      (tsR EC i a cls d) := by
  refine ⟨fun pins s σ H D I ⟨x, e1, e2, e3, q⟩ => ?_⟩
  subst e1 e2
  have h := pe_isE (X := X) (a := a) (pn := pn) (p1 := p1) (p2 := p2) (p3 := p3) (p4 := p4) F hi hv hd hcd g1 g2 hz hf
  refine (pss_cons (ps_ret (pe_ifExp (pt_truth h fun _ => rfl) (pe_tup pa_nil) pe_non)) pss_nil).run pins s σ H D I ?_
  exact ⟨e3, true, rfl, Nat.zero_le _, q⟩
theorem suite_tryC {p1 p2 p3 p4 p5 p6 p7 : Pos} {j2 : Nat} {a : Addr} {oe : Obj} {cls : Value} {d : Option Addr} {pn : List (Addr × Obj)} (F : ExF X.K X.mg EC) (hi : X.N[i]? = some n) (hv : X.env.scope.names.lookup n = some .local) (hd : (n == ("__debug__" : Str)) = false) (hcd : (n == ("__classdict__" : Str)) = false)
    (g1 : Gl X "isinstance") (g2 : Gl X "ValueError") (hz : Zc cls d oe) (hf : ∃ vs, oe.data = .fields vs) :
    PSs (X.suite a ((a, oe) :: pn)) [.If (.UnaryOp .Not (.Call (.Name "isinstance" p1) [.Name n p2, .Name "ValueError" p3] [] p4) p5) [.Return (some (.Constant (.bool false) j2 p6)) p7] [] pos]
      (tsC EC i a cls d) := by
  refine ⟨fun pins s σ H D I ⟨x, e1, e2, e3, q⟩ => ?_⟩
  subst e1 e2
  have h := pe_isE (X := X) (a := a) (pn := pn) (p1 := p1) (p2 := p2) (p3 := p3) (p4 := p4) F hi hv hd hcd g1 g2 hz hf
  refine (pss_cons (ps_if (pt_not (pt_truth h fun _ => rfl)) (pss_cons (ps_ret pe_bl) pss_nil) pss_nil) pss_nil).run pins s σ H D I ?_
  exact ⟨e3, true, rfl, q⟩
/-- the context of a try's body -/
theorem Con.tr {w2 : WX} (C : Con X W EC fn Φ k) (pn : List (Addr × Obj)) (xe : Value → Shared → Prop) (tk : Takes (X.tr pn xe) w2) : Con (X.tr pn xe) w2 EC fn Φ k := ⟨C.calm, C.nd, C.rm, tk, C.bn, C.fn⟩
theorem IW.tup {G H : Hp} {ls : List PyData} {q : Addr} (h : IW w G H ls) (n : H q = none) : IW w (upd G q (.tup [])) (upd H q (.tup [])) ls :=
  h.ext (Grow.laid h.sub n).ext ((Grow.laid h.sub n).st h.sub h.st)
theorem isNo_of {D : Ends} {G H : Hp} {ρ : Env} {ls : List PyData} {σ : L2.St} {f : Unit → M Fl} (h : Ds w Wx D (M.bind (isNo i ρ) f) G ρ ls σ H) : ρ[i]? = some .no ∧ Ds w Wx D (f ()) G ρ ls σ H := by
  cases e : ρ[i]? with
  | none => simp only [isNo, e] at h; exact h.2.elim
  | some s =>
    cases s with
    | no => simp only [isNo, e] at h; exact ⟨rfl, h⟩
    | _ => simp only [isNo, e] at h; exact h.2.elim
theorem ss_tryR {Wout : WX} {p1 p2 p3 p4 p5 p6 p7 p8 p9 q1 q2 q3 q4 q5 q6 q7 q8 q9 r1 r2 : Pos} {m j2 m' j2' : Nat} (F : ExF X.K X.mg EC)
    (hs : X.stack = X.env :: X.outer) (hf : X.env.frame = some X.env.locals) (hN : X.N.Nodup) (hi : X.N[i]? = some n) (hv : X.env.scope.names.lookup n = some .local) (hd : (n == ("__debug__" : Str)) = false) (hcd : (n == ("__classdict__" : Str)) = false) (tk : Takes X Wout)
    (g1 : Gl X "isinstance") (g2 : Gl X "ValueError") (g3 : Gl X "UnfitPlan") (g4 : Gl X "TooWide")
    (he : ∀ (W : WX) (pn : List (Addr × Obj)) (xe : Value → Shared → Prop), Takes (X.tr pn xe) W → PassesOwn (model X.prog X.w) X.A X.env xe → PE (X.tr pn xe) e (Tm w (wxOf W EC) rV me)) :
    PS X (.Try [.Return (some e) r1] [
        .ExceptHandler (some (.Name "UnfitPlan" p8)) (some n) [.Return (some (.IfExp (.Call (.Name "isinstance" p1) [.Name n p2, .Name "ValueError" p3] [] p4) (.Tuple [] m p5) (.Constant .none j2 p6) p7)) r2] p9,
        .ExceptHandler (some (.Name "TooWide" q8)) (some n) [.Return (some (.IfExp (.Call (.Name "isinstance" q1) [.Name n q2, .Name "ValueError" q3] [] q4) (.Tuple [] m' q5) (.Constant .none j2' q6) q7)) q9] p] [] [] pos)
      (Ts w (wxOf Wout EC) fun ρ => M.bind (isNo i ρ) fun _ => M.caught (M.bind (me ρ) fun d => M.pure (.ret d)) fun _ => M.pure (.ret (.tuple []))) := by
  refine ps_imp (ps_tryA (i := i) (tb := fun W => tSeq (tRet (Tm w (wxOf W EC) rV me)) tNext) (l := [(.ref (EC .unfit), tsR EC i), (.ref (EC .wide), tsR EC i)]) hs hf hN hi hv tk (fun W pn xe tk' hp => pss_cons (ps_ret (he W pn xe tk' hp)) pss_nil)
    (.cons ⟨g3, by decide, .inl (F.nm .unfit)⟩ (fun a oe cls d pn hz hf => suite_tryR F hi hv hd hcd g1 g2 hz hf) (.cons ⟨g4, by decide, .inl (F.nm .wide)⟩ (fun a oe cls d pn hz hf => suite_tryR F hi hv hd hcd g1 g2 hz hf) .nil))) fun D σ H ⟨G, ρ, ls, h⟩ => ?_
  obtain ⟨ei, h⟩ := isNo_of h
  have hl : i < σ.length := by rw [h.1.ln]; exact (List.getElem?_eq_some_iff.mp ei).1
  refine ⟨G, ρ, ls, h.1, ?_⟩
  have h2 : Out (M.caught (M.bind (me ρ) fun d => M.pure (.ret d)) (fun _ => M.pure (.ret (.tuple []))) ls) (okS w D G) (exS w (wxOf Wout EC)) := h.2
  unfold M.caught M.bind at h2
  cases e0 : me ρ ls with
  | ok a ls' =>
    rw [e0] at h2
    exact fun v G' H' x s r => h2 v G' H' (h.1.iw.ext x s) r
  | exn x ls' =>
    rw [e0] at h2
    intro G' H' y s
    have iw := h.1.iw.ext y s
    have fin : ∀ a, H' a = none → tsR EC i a (.ref (EC x)) none (endsA i D) (σ.set i (some (.ref a))) H' := fun a na =>
      ⟨x, rfl, rfl, List.getElem?_set_self hl, fun q nq => h2 (.ref q) _ _ (iw.tup nq) (.tup upd_same .nil)⟩
    cases x with
    | unfit => exact ⟨true, F.exm .unfit .unfit, fun _ => fin, fun z => by cases z⟩
    | wide => exact ⟨false, F.exm .wide .unfit, (fun z => by cases z), fun _ => ⟨true, F.exm .wide .wide, fun _ => fin, fun z => by cases z⟩⟩
  | stuck => rw [e0] at h2; exact h2
abbrev rU : Rl Unit Unit := fun _ _ _ _ _ _ _ => True
instance : Am rU := ⟨fun _ r => r⟩
theorem ss_tryC {Wout : WX} {c a b : Expr} {tc : Env → M Bool} {ma mb : Env → M PyData} {p1 p2 p3 p4 p5 p6 p7 p8 p9 r1 r2 r3 r4 r5 r6 : Pos} {j2 j3 : Nat} (F : ExF X.K X.mg EC)
    (hs : X.stack = X.env :: X.outer) (hf : X.env.frame = some X.env.locals) (hN : X.N.Nodup) (hi : X.N[i]? = some n) (hv : X.env.scope.names.lookup n = some .local) (hd : (n == ("__debug__" : Str)) = false) (hcd : (n == ("__classdict__" : Str)) = false) (tk : Takes X Wout)
    (g1 : Gl X "isinstance") (g2 : Gl X "ValueError") (g3 : Gl X "UnfitPlan") (ca : isComp a = false) (cb : isComp b = false)
    (he : ∀ (W : WX) (pn : List (Addr × Obj)) (xe : Value → Shared → Prop), Takes (X.tr pn xe) W → PassesOwn (model X.prog X.w) X.A X.env xe → PT (X.tr pn xe) c (Tm w (wxOf W EC) rB tc) ∧ PE (X.tr pn xe) a (Tm w (wxOf W EC) rH ma) ∧ PE (X.tr pn xe) b (Tm w (wxOf W EC) rH mb)) :
    PS X (.Try [.If c [.Expr a r1] [.Expr b r2] r3, .Return (some (.Constant (.bool false) j3 r4)) r5] [
        .ExceptHandler (some (.Name "UnfitPlan" p8)) (some n) [.If (.UnaryOp .Not (.Call (.Name "isinstance" p1) [.Name n p2, .Name "ValueError" p3] [] p4) p5) [.Return (some (.Constant (.bool false) j2 p6)) p7] [] r6] p9] [] [] pos)
      (Ts w (wxOf Wout EC) fun ρ => M.bind (isNo i ρ) fun _ => M.caught (M.bind (tc ρ) fun k => M.bind (if k = true then ma ρ else mb ρ) fun _ => M.pure (.ret (.bool false))) fun x =>
        match x with
        | .unfit => M.pure (.nx ρ)
        | .wide => M.raise .wide) := by
  refine ps_imp (ps_tryA (i := i) (tb := fun W => tSeq (tIfS (Tm w (wxOf W EC) rB tc) (tSeq (tDrop (Tm w (wxOf W EC) rH ma)) tNext) (tSeq (tDrop (Tm w (wxOf W EC) rH mb)) tNext)) (tSeq (tRet (tC (.bl false))) tNext)) (l := [(.ref (EC .unfit), tsC EC i)]) hs hf hN hi hv tk
    (fun W pn xe tk' hp => by
      obtain ⟨h1, h2, h3⟩ := he W pn xe tk' hp
      exact pss_cons (ps_if h1 (pss_cons (ps_expr h2 (noswap ca)) pss_nil) (pss_cons (ps_expr h3 (noswap cb)) pss_nil)) (pss_cons (ps_ret pe_bl) pss_nil))
    (.cons ⟨g3, by decide, .inl (F.nm .unfit)⟩ (fun a oe cls d pn hz hf => suite_tryC F hi hv hd hcd g1 g2 hz hf) .nil)) fun D σ H ⟨G, ρ, ls, h⟩ => ?_
  obtain ⟨e0, h⟩ := isNo_of h
  have hl : i < σ.length := by rw [h.1.ln]; exact (List.getElem?_eq_some_iff.mp e0).1
  have h2 : Pd w (wxOf (wA X.K i Wout D [(.ref (EC .unfit), tsC EC i)]) EC) rU (M.bind (tc ρ) fun k => M.bind (if k = true then ma ρ else mb ρ) fun _ => M.pure ()) G ρ ls σ H fun _ H1 => D.rt (.bl false) H1 := by
    refine ⟨h.1, ?_⟩
    have h3 : Out (M.caught (M.bind (tc ρ) fun k => M.bind (if k = true then ma ρ else mb ρ) fun _ => M.pure (.ret (.bool false))) (fun x => match x with | .unfit => M.pure (.nx ρ) | .wide => M.raise .wide) ls) (okS w D G) (exS w (wxOf Wout EC)) := h.2
    unfold M.caught at h3
    have key : ∀ ls', (M.bind (tc ρ) (fun k => M.bind (if k = true then ma ρ else mb ρ) fun _ => M.pure ()) ls = .ok () ls' → M.bind (tc ρ) (fun k => M.bind (if k = true then ma ρ else mb ρ) fun _ => M.pure (Fl.ret (.bool false))) ls = .ok (.ret (.bool false)) ls') ∧
        (∀ x, M.bind (tc ρ) (fun k => M.bind (if k = true then ma ρ else mb ρ) fun _ => M.pure ()) ls = .exn x ls' → M.bind (tc ρ) (fun k => M.bind (if k = true then ma ρ else mb ρ) fun _ => M.pure (Fl.ret (.bool false))) ls = .exn x ls') ∧
        (M.bind (tc ρ) (fun k => M.bind (if k = true then ma ρ else mb ρ) fun _ => M.pure ()) ls = .stuck → M.bind (tc ρ) (fun k => M.bind (if k = true then ma ρ else mb ρ) fun _ => M.pure (Fl.ret (.bool false))) ls = .stuck) := by
      intro ls'
      unfold M.bind M.pure
      cases tc ρ ls with
      | ok k ls1 =>
        dsimp only
        cases (if k = true then ma ρ else mb ρ) ls1 with
        | ok d ls2 => exact ⟨fun z => (by cases z; rfl), fun x z => (by cases z), fun z => (by cases z)⟩
        | exn x ls2 => exact ⟨fun z => (by cases z), fun x z => (by cases z; rfl), fun z => (by cases z)⟩
        | stuck => exact ⟨fun z => (by cases z), fun x z => (by cases z), fun z => rfl⟩
      | exn x ls1 => exact ⟨fun z => (by cases z), fun x z => (by cases z; rfl), fun z => (by cases z)⟩
      | stuck => exact ⟨fun z => (by cases z), fun x z => (by cases z), fun z => rfl⟩
    cases e1 : M.bind (tc ρ) (fun k => M.bind (if k = true then ma ρ else mb ρ) fun _ => M.pure ()) ls with
    | ok u ls' =>
      rw [(key ls').1 (by cases u; exact e1)] at h3
      exact fun v G' H' x s _ => h3 (.bl false) G' H' (h.1.iw.ext x s) (.bl false)
    | exn x ls' =>
      rw [(key ls').2.1 x e1] at h3
      intro G' H' y s
      have iv := h.1.ext y s
      cases x with
      | unfit =>
        refine ⟨true, F.exm .unfit .unfit, fun _ a na => ⟨.unfit, rfl, rfl, List.getElem?_set_self hl, ?_⟩, fun z => by cases z⟩
        have h4 : ∀ G'' σ' H'', Same G G'' → IV w G'' H'' σ' ρ ls' → D.nx σ' H'' := h3
        exact h4 G' _ H' (y.same h.1.iw.sub) ((iv.junk e0).junk e0)
      | wide =>
        have h4 : exS w (wxOf Wout EC) .wide ls' := h3
        exact ⟨false, F.exm .wide .unfit, (fun z => by cases z), fun _ => h4 σ G' H' iv.iw⟩
    | stuck => rw [(key []).2.2 e1] at h3; exact h3
  refine ⟨G, ρ, ls, h2.bind.imp fun v H1 ⟨G1, ls1, d1, r1, s1, h4⟩ => ?_⟩
  cases r1
  cases v with
  | true =>
    rw [if_pos rfl] at h4 ⊢
    exact ⟨G1, ρ, ls1, h4.bind.imp fun v H2 ⟨G2, ls2, d2, r2, s2, h5⟩ => h5.pure () G2 H2 (.refl h5.sub) trivial⟩
  | false =>
    rw [if_neg Bool.false_ne_true] at h4 ⊢
    exact ⟨G1, ρ, ls1, h4.bind.imp fun v H2 ⟨G2, ls2, d2, r2, s2, h5⟩ => h5.pure () G2 H2 (.refl h5.sub) trivial⟩
end
end Pv

set_option maxRecDepth 100000
set_option maxHeartbeats 2000000
/-! The small Python's statements held against the text's. -/
namespace Pv
open PySem PySem.W L2
/-! ### what the compiler does with stores -/
def compScope : Expr → Option Scope
  | .ListComp _ _ s _ => some s
  | .SetComp _ _ s _ => some s
  | .DictComp _ _ _ s _ => some s
  | _ => none
/-- swapsWith for a plain name -/
def swaps (sc : Scope) (v : Expr) (y : Str) (p : Pos) : Bool :=
  match compScope v with
  | none => false
  | some s => sc.names.lookup y == some .local && p.line == v.pos.line && !(s.names.any fun (n, k) => n == y && (k == .local || k == .cell))
theorem swaps_of {v : Expr} {y : Str} {p : Pos} {l : Nat} {env : PySem.Env} (hk : env.scope.kind = .function) : swapsWith v (some (.Name y p)) l env = pure (swaps env.scope v y p) := by
  have hb : env.blockKind = .function := by unfold PySem.Env.blockKind; rw [hk]; rfl
  cases v <;> first | rfl | (unfold swapsWith swaps; rw [hb]; rfl)
def swSt (sc : Scope) (tg v : Expr) : Option (Option (List Str)) :=
  match tg, v with
  | .Tuple ts _ _, .Tuple vs _ _ =>
    if !(ts.length == 2 || ts.length == 3) || vs.length != ts.length then some none
    else if (vs.any fun | .Starred .. => true | _ => false) = true then some none
    else
      let line := (ts.head?.map (·.pos.line)).getD 0
      let names := ts.filterMap fun
        | .Name id pos => if sc.names.lookup id == some .local && pos.line == line then some id else none
        | _ => none
      if (names.length != ts.length || names.eraseDups.length != names.length) = true then some none
      else if (vs.all (foldedForSure 8)) = true then some none
      else if (vs.all (constantsAlone 8)) = true then none
      else some (some names)
  | .List _ _, .Tuple _ _ _ => none
  | _, _ => some none
theorem sw_core {c1 c2 c3 c4 c5 : Bool} {ns : List Str} {r : Option (List Str)} {m : Sem Unit} (h : (if c1 = true then some none else if c2 = true then some none else if c3 = true then some none else if c4 = true then some none else if c5 = true then none else some (some ns)) = some r) :
    (if c1 = true then pure none else if c2 = true then pure none else if c3 = true then pure none else if c4 = true then pure none else if c5 = true then m >>= fun _ => pure (some ns) else pure (some ns) : Sem (Option (List Str))) = pure r := by
  cases c1 with
  | true => cases h; rfl
  | false => cases c2 with
    | true => cases h; rfl
    | false => cases c3 with
      | true => cases h; rfl
      | false => cases c4 with
        | true => cases h; rfl
        | false => cases c5 with
          | true => cases h
          | false => cases h; rfl
theorem swSt_of {tg v : Expr} {env : PySem.Env} (hk : env.scope.kind = .function) {r : Option (List Str)} (h : swSt env.scope tg v = some r) : swappedStores [tg] v env = pure r := by
  have hb : env.blockKind = .function := by unfold PySem.Env.blockKind; rw [hk]; rfl
  cases tg with
  | Tuple ts n p =>
    cases v with
    | Tuple vs n' p' =>
      unfold swSt at h
      unfold swappedStores
      dsimp only at h ⊢
      rw [hb]
      have e0 : (ScopeKind.function != ScopeKind.function) = false := rfl
      rw [e0, Bool.or_false]
      exact sw_core h
    | _ => cases h; rfl
  | List ts p =>
    cases v with
    | Tuple vs n' p' => cases h
    | _ => cases h; rfl
  | _ => cases h; cases v <;> rfl

/-! ### views of statements -/
def asgV : Stmt → Option (Expr × Expr)
  | .Assign [t] v _ => some (t, v)
  | _ => none
theorem asgV_of {st : Stmt} {t v : Expr} (h : asgV st = some (t, v)) : ∃ p, st = .Assign [t] v p := by
  unfold asgV at h
  split at h
  · cases h; exact ⟨_, rfl⟩
  · cases h
def augV : Stmt → Option (Expr × Operator × Expr)
  | .AugAssign t op v _ => some (t, op, v)
  | _ => none
theorem augV_of {st : Stmt} {t v : Expr} {op : Operator} (h : augV st = some (t, op, v)) : ∃ p, st = .AugAssign t op v p := by
  unfold augV at h
  split at h
  · cases h; exact ⟨_, rfl⟩
  · cases h
def expV : Stmt → Option Expr
  | .Expr e _ => some e
  | _ => none
theorem expV_of {st : Stmt} {e : Expr} (h : expV st = some e) : ∃ p, st = .Expr e p := by
  unfold expV at h
  split at h
  · cases h; exact ⟨_, rfl⟩
  · cases h
def subV : Expr → Option (Str × Expr)
  | .Subscript (.Name y _) ix _ => some (y, ix)
  | _ => none
theorem subV_of {e ix : Expr} {y : Str} (h : subV e = some (y, ix)) : ∃ p q, e = .Subscript (.Name y p) ix q := by
  unfold subV at h
  split at h
  · cases h; exact ⟨_, _, rfl⟩
  · cases h
def appV : Expr → Option (Str × Str × Expr)
  | .Call (.Attribute (.Name y _) m ap) [x] [] cp => if ap.endLine == cp.line then some (y, m, x) else none
  | _ => none
theorem appV_of {e x : Expr} {y m : Str} (h : appV e = some (y, m, x)) : ∃ p ap cp, e = .Call (.Attribute (.Name y p) m ap) [x] [] cp ∧ (ap.endLine == cp.line) = true := by
  unfold appV at h
  split at h
  · split at h
    · rename_i hl
      cases h; exact ⟨_, _, _, rfl, hl⟩
    · cases h
  · cases h
def ifV : Stmt → Option (Expr × List Stmt × List Stmt)
  | .If c a b _ => some (c, a, b)
  | _ => none
theorem ifV_of {st : Stmt} {c : Expr} {a b : List Stmt} (h : ifV st = some (c, a, b)) : ∃ p, st = .If c a b p := by
  unfold ifV at h
  split at h
  · cases h; exact ⟨_, rfl⟩
  · cases h
def whlV : Stmt → Option (Expr × List Stmt)
  | .While c a [] _ => some (c, a)
  | _ => none
theorem whlV_of {st : Stmt} {c : Expr} {a : List Stmt} (h : whlV st = some (c, a)) : ∃ p, st = .While c a [] p := by
  unfold whlV at h
  split at h
  · cases h; exact ⟨_, rfl⟩
  · cases h
def forV : Stmt → Option (Expr × Expr × List Stmt)
  | .For t i a [] _ => some (t, i, a)
  | _ => none
theorem forV_of {st : Stmt} {t i : Expr} {a : List Stmt} (h : forV st = some (t, i, a)) : ∃ p, st = .For t i a [] p := by
  unfold forV at h
  split at h
  · cases h; exact ⟨_, rfl⟩
  · cases h
def retV : Stmt → Option Expr
  | .Return (some e) _ => some e
  | _ => none
theorem retV_of {st : Stmt} {e : Expr} (h : retV st = some e) : ∃ p, st = .Return (some e) p := by
  unfold retV at h
  split at h
  · cases h; exact ⟨_, rfl⟩
  · cases h
def raisV : Stmt → Option Str
  | .Raise (some (.Call (.Name x _) [.Constant (.str _) _ _] [] _)) none _ => some x
  | _ => none
theorem raisV_of {st : Stmt} {x : Str} (h : raisV st = some x) : ∃ p m j p2 p3 pos, st = .Raise (some (.Call (.Name x p) [.Constant (.str m) j p2] [] p3)) none pos := by
  unfold raisV at h
  split at h
  · cases h; exact ⟨_, _, _, _, _, _, rfl⟩
  · cases h
def brkV : Stmt → Bool
  | .Break _ => true
  | _ => false
theorem brkV_of {st : Stmt} (h : brkV st = true) : ∃ p, st = .Break p := by
  unfold brkV at h
  split at h
  · exact ⟨_, rfl⟩
  · cases h
def cntV : Stmt → Bool
  | .Continue _ => true
  | _ => false
theorem cntV_of {st : Stmt} (h : cntV st = true) : ∃ p, st = .Continue p := by
  unfold cntV at h
  split at h
  · exact ⟨_, rfl⟩
  · cases h
def passV : Stmt → Bool
  | .Pass _ => true
  | _ => false
theorem passV_of {st : Stmt} (h : passV st = true) : ∃ p, st = .Pass p := by
  unfold passV at h
  split at h
  · exact ⟨_, rfl⟩
  · cases h
/-- the handlers of the laws -/
def hdR : ExceptHandler → Option (Str × Str × Str × Str × Str)
  | .ExceptHandler (some (.Name c _)) (some n) [.Return (some (.IfExp (.Call (.Name f _) [.Name n2 _, .Name v _] [] _) (.Tuple [] _ _) (.Constant .none _ _) _)) _] _ => some (c, n, f, n2, v)
  | _ => none
theorem hdR_of {h : ExceptHandler} {c n f n2 v : Str} (e : hdR h = some (c, n, f, n2, v)) : ∃ p1 p2 p3 p4 p5 p6 p7 p8 p9 m j q,
    h = .ExceptHandler (some (.Name c p8)) (some n) [.Return (some (.IfExp (.Call (.Name f p1) [.Name n2 p2, .Name v p3] [] p4) (.Tuple [] m p5) (.Constant .none j p6) p7)) p9] q := by
  unfold hdR at e
  split at e
  · cases e; exact ⟨_, _, _, _, _, _, _, _, _, _, _, _, rfl⟩
  · cases e
def hdC : ExceptHandler → Option (Str × Str × Str × Str × Str)
  | .ExceptHandler (some (.Name c _)) (some n) [.If (.UnaryOp .Not (.Call (.Name f _) [.Name n2 _, .Name v _] [] _) _) [.Return (some (.Constant (.bool false) _ _)) _] [] _] _ => some (c, n, f, n2, v)
  | _ => none
theorem hdC_of {h : ExceptHandler} {c n f n2 v : Str} (e : hdC h = some (c, n, f, n2, v)) : ∃ p1 p2 p3 p4 p5 p6 p7 p8 p9 j q,
    h = .ExceptHandler (some (.Name c p8)) (some n) [.If (.UnaryOp .Not (.Call (.Name f p1) [.Name n2 p2, .Name v p3] [] p4) p5) [.Return (some (.Constant (.bool false) j p6)) p7] [] p9] q := by
  unfold hdC at e
  split at e
  · cases e; exact ⟨_, _, _, _, _, _, _, _, _, _, _, rfl⟩
  · cases e
def tryRV : Stmt → Option (Expr × ExceptHandler × ExceptHandler)
  | .Try [.Return (some e) _] [h1, h2] [] [] _ => some (e, h1, h2)
  | _ => none
theorem tryRV_of {st : Stmt} {e : Expr} {h1 h2 : ExceptHandler} (h : tryRV st = some (e, h1, h2)) : ∃ p q, st = .Try [.Return (some e) p] [h1, h2] [] [] q := by
  unfold tryRV at h
  split at h
  · cases h; exact ⟨_, _, rfl⟩
  · cases h
def tryCV : Stmt → Option (Expr × Expr × Expr × ExceptHandler)
  | .Try [.If c [.Expr a _] [.Expr b _] _, .Return (some (.Constant (.bool false) _ _)) _] [h] [] [] _ => some (c, a, b, h)
  | _ => none
theorem tryCV_of {st : Stmt} {c a b : Expr} {h : ExceptHandler} (e : tryCV st = some (c, a, b, h)) : ∃ r1 r2 r3 r4 r5 j pos, st = .Try [.If c [.Expr a r1] [.Expr b r2] r3, .Return (some (.Constant (.bool false) j r4)) r5] [h] [] [] pos := by
  unfold tryCV at e
  split at e
  · cases e; exact ⟨_, _, _, _, _, _, _, rfl⟩
  · cases e

/-! ### the check -/
def namesT : Tgs → Option (List Nat)
  | .nil => some []
  | .cons (.nm i) ts => (namesT ts).map (i :: ·)
  | _ => none
def tgOf : List Nat → Tgs
  | [] => .nil
  | i :: is => .cons (.nm i) (tgOf is)
theorem namesT_of : ∀ {ts : Tgs} {is : List Nat}, namesT ts = some is → ts = tgOf is
  | .nil, is, h => by cases h; rfl
  | .cons (.nm i) ts, is, h => by
    unfold namesT at h
    obtain ⟨js, h1, h2⟩ := Option.map_eq_some_iff.mp h
    subst h2
    rw [namesT_of h1]
    rfl
  | .cons (.tp _) _, _, h => by cases h
def parT : Tg → Option (List Nat)
  | .tp ts => namesT ts
  | _ => none
def tup2N : Expr → Option (Str × Str)
  | .Tuple [.Name x _, .Name y _] _ _ => some (x, y)
  | _ => none
theorem tup2N_of {e : Expr} {x y : Str} (h : tup2N e = some (x, y)) : ∃ p q k r, e = .Tuple [.Name x p, .Name y q] k r := by
  unfold tup2N at h
  split at h
  · cases h; exact ⟨_, _, _, _, rfl⟩
  · cases h
def tup3N : Expr → Option (Str × Str × Str)
  | .Tuple [.Name x _, .Name y _, .Name z _] _ _ => some (x, y, z)
  | _ => none
theorem tup3N_of {e : Expr} {x y z : Str} (h : tup3N e = some (x, y, z)) : ∃ p q p2 k r, e = .Tuple [.Name x p, .Name y q, .Name z p2] k r := by
  unfold tup3N at h
  split at h
  · cases h; exact ⟨_, _, _, _, _, rfl⟩
  · cases h
def tup2E : Expr → Option (Expr × Expr)
  | .Tuple [a, b] _ _ => some (a, b)
  | _ => none
theorem tup2E_of {e a b : Expr} (h : tup2E e = some (a, b)) : ∃ k r, e = .Tuple [a, b] k r := by
  unfold tup2E at h
  split at h
  · cases h; exact ⟨_, _, rfl⟩
  · cases h
def tup3E : Expr → Option (Expr × Expr × Expr)
  | .Tuple [a, b, c] _ _ => some (a, b, c)
  | _ => none
theorem tup3E_of {e a b c : Expr} (h : tup3E e = some (a, b, c)) : ∃ k r, e = .Tuple [a, b, c] k r := by
  unfold tup3E at h
  split at h
  · cases h; exact ⟨_, _, rfl⟩
  · cases h
def tupC : E → Option Es
  | .tup es => some es
  | _ => none
theorem tupC_of {e : E} {es : Es} (h : tupC e = some es) : e = .tup es := by
  unfold tupC at h
  split at h
  · cases h; rfl
  · cases h
/-- a new list of one's own -/
def newOk : E → Bool
  | .lst _ => true
  | .lc _ _ _ _ _ => true
  | .lc2 _ _ _ _ _ _ _ _ _ => true
  | .fn1 .list _ => true
  | .fn1 .sorted _ => true
  | .fn1 .sortedset _ => true
  | .lof (.rng1 _) => true
  | .lof (.rng2 _ _) => true
  | _ => false
def isLcC : E → Bool
  | .lc _ _ _ _ _ => true
  | .lc2 _ _ _ _ _ _ _ _ _ => true
  | _ => false
def forOk : It → Bool
  | .seq a => !isBor a
  | .rng1 _ => true
  | .rng2 _ _ => true
  | .rng3 _ _ _ => true
  | .enum a => !isBor a
  | .zip a b => !isBor a && !isBor b
  | _ => false
section
variable (fn : Nat → Option (Str × Bool)) (N : List Str)
def locOk (sc : Scope) (i : Nat) (y : Str) : Bool := N[i]? == some y && locOrCell sc y
def chkAsg (sc : Scope) (t : Tg) (c : E) (tg v : Expr) : Bool :=
  match swSt sc tg v with
  | none => false
  | some none => chkT N sc t tg && chkE fn N sc c v && (match nmT tg with
    | none => !isComp v
    | some (y, p) => !swaps sc v y p || (isLcC c && sc.names.lookup y == some .local))
  | some (some ns) => match parT t, tupC c with
    | some [i, j], some es => match tup2N tg, tup2E v with
      | some (x, y), some (a, b) => ns == [x, y] && N[i]? == some x && N[j]? == some y && i != j && sc.names.lookup x == some .local && sc.names.lookup y == some .local && chkEs fn N sc es [a, b]
      | _, _ => false
    | some [i, j, l], some es => match tup3N tg, tup3E v with
      | some (x, y, z), some (a, b, c) => ns == [x, y, z] && N[i]? == some x && N[j]? == some y && N[l]? == some z && i != j && i != l && j != l && sc.names.lookup x == some .local && sc.names.lookup y == some .local && sc.names.lookup z == some .local && chkEs fn N sc es [a, b, c]
      | _, _ => false
    | _, _ => false
where nmT : Expr → Option (Str × Pos)
  | .Name y p => some (y, p)
  | _ => none
def chkHdR (sc : Scope) (i : Nat) (x : Ex) (h : ExceptHandler) : Bool :=
  match hdR h with
  | some (c, n, f, n2, v) => c == xn x && globOk sc c && N[i]? == some n && sc.names.lookup n == some .local && plainN n && f == "isinstance" && globOk sc f && n2 == n && v == "ValueError" && globOk sc v
  | none => false
def chkHdC (sc : Scope) (i : Nat) (x : Ex) (h : ExceptHandler) : Bool :=
  match hdC h with
  | some (c, n, f, n2, v) => c == xn x && globOk sc c && N[i]? == some n && sc.names.lookup n == some .local && plainN n && f == "isinstance" && globOk sc f && n2 == n && v == "ValueError" && globOk sc v
  | none => false
mutual
def chkS (sc : Scope) : S → Stmt → Bool
  | .asg t c, st => match asgV st with
    | some (tg, v) => chkAsg fn N sc t c tg v
    | none => false
  | .asgF i c, st => match asgV st with
    | some (tg, v) => newOk c && chkE fn N sc c v && (match chkAsg.nmT tg with
      | some (y, p) => locOk N sc i y && (!swaps sc v y p || (isLcC c && sc.names.lookup y == some .local))
      | none => false)
    | none => false
  | .mv i j, st => match asgV st with
    | some (tg, v) => match nmV tg, nmV v with
      | some y, some z => locOk N sc i y && nameOk N sc j z
      | _, _ => false
    | none => false
  | .setX i x c, st => match asgV st with
    | some (tg, v) => match subV tg with
      | some (y, ix) => nameOk N sc i y && !isSlice ix && chkE fn N sc x ix && chkE fn N sc c v
      | none => false
    | none => false
  | .augX i op x c, st => match augV st with
    | some (tg, op', v) => match subV tg with
      | some (y, ix) => op == op' && nameOk N sc i y && !isSlice ix && chkE fn N sc x ix && chkE fn N sc c v
      | none => false
    | none => false
  | .aug i op c, st => match augV st with
    | some (tg, op', v) => match nmV tg with
      | some y => op == op' && locOk N sc i y && chkE fn N sc c v
      | none => false
    | none => false
  | .app i c, st => match expV st with
    | some e => match appV e with
      | some (y, m, x) => m == "append" && nameOk N sc i y && !isStar x && chkE fn N sc c x
      | none => false
    | none => false
  | .remI i c, st => match expV st with
    | some e => match appV e with
      | some (y, m, x) => m == "remove" && nameOk N sc i y && !isStar x && chkE fn N sc c x
      | none => false
    | none => false
  | .exp c, st => match expV st with
    | some e => !isComp e && chkE fn N sc c e
    | none => false
  | .ite c a b, st => match ifV st with
    | some (x, as, bs) => tstOk c && chkE fn N sc c x && chkSs sc a as && chkSs sc b bs
    | none => false
  | .whl c b, st => match whlV st with
    | some (x, bs) => tstOk c && chkE fn N sc c x && chkSs sc b bs
    | none => false
  | .for t it b, st => match forV st with
    | some (tg, iter, bs) => (forOk it && tgOk it tg) && chkT N sc t tg && chkI fn N sc it iter && !isSet iter && chkSs sc b bs
    | none => false
  | .ret c, st => match retV st with
    | some e => chkE fn N sc c e
    | none => false
  | .brk, st => brkV st
  | .cnt, st => cntV st
  | .pass, st => passV st
  | .rais x, st => match raisV st with
    | some n => n == xn x && globOk sc n
    | none => false
  | .fr _ s, st => chkS sc s st
  | .tryR i c, st => match tryRV st with
    | some (e, h1, h2) => chkE fn N sc c e && chkHdR N sc i .unfit h1 && chkHdR N sc i .wide h2
    | none => false
  | .tryC i c a b, st => match tryCV st with
    | some (x, ea, eb, h) => tstOk c && chkE fn N sc c x && !isComp ea && !isComp eb && chkE fn N sc a ea && chkE fn N sc b eb && chkHdC N sc i .unfit h
    | none => false
  | _, _ => false
def chkSs (sc : Scope) : Ss → List Stmt → Bool
  | .nil, [] => true
  | .cons s ss, st :: sts => chkS sc s st && chkSs sc ss sts
  | _, _ => false
end
end
end Pv

set_option maxRecDepth 100000
set_option maxHeartbeats 4000000
/-! The soundness of the reading of statements. -/
namespace Pv
open PySem PySem.W L2
variable {fn : Nat → Option (Str × Bool)} {N : List Str} {sc : Scope} {X : Cx} {w : Wd} {W : WX} {EC : Ex → Addr} {Φ : Nat → List PyData → M PyData} {k : Nat}
structure ConS (X : Cx) (W : WX) (EC : Ex → Addr) (fn : Nat → Option (Str × Bool)) (Φ : Nat → List PyData → M PyData) (k : Nat) : Prop where
  con : Con X W EC fn Φ k
  pass : PassesOwn (model X.prog X.w) X.A X.env X.xe
  fnc : ∀ x, X.fn x = true
  stk : X.stack = X.env :: X.outer
  frm : X.env.frame = some X.env.locals
  kind : X.env.scope.kind = .function
  exf : ExF X.K X.mg EC
theorem tm_new {Wx : WXt} {m : Env → M PyData} {σ : L2.St} {H : Hp} {Q : VK} (h : Tm w Wx rV m σ H Q) : Tm w Wx rN m σ H Q := by
  obtain ⟨G, ρ, ls, p⟩ := h
  refine ⟨G, ρ, ls, p.1, ?_⟩
  have h2 := p.2
  unfold Out at h2 ⊢
  cases e : m ρ ls with
  | ok d ls' =>
    rw [e] at h2
    rintro v G' H' x ⟨lv, s1, s2⟩ ⟨q, rfl, n, ng, o⟩
    cases d <;> simp only [OwnAt] at o
    obtain ⟨vs, e1, r⟩ := o
    have sm : Same G' (upd G' q (.lst vs)) := Same.upd ng
    refine h2 _ (upd G' q (.lst vs)) H' ⟨Grow.froze x.sub e1, fun b nb => ?_, x.hk⟩ ⟨lv, s1, s2.mono sm⟩ (.lst upd_same (r.mono sm))
    have : b ≠ q := fun z => nb (by rw [z]; exact n)
    rw [upd_ne this]
    exact x.gk b nb
  | exn x ls' => rw [e] at h2; exact h2
  | stuck => rw [e] at h2; exact h2
/-- a list comprehension, as a value and as a store -/
theorem sLc (C : Con X W EC fn Φ k) (hN : X.N = N) (hsc : X.env.scope = sc) {vs : List Nat} {t : Tg} {it : It} {c : O} {el : E} {e : Expr} (h : chkE fn N sc (.lc vs t it c el) e = true) :
    ∃ T : TE, (∀ σ H Q, Tm w (wxOf W EC) rN (fun ρ => ev Φ ρ (.lc vs t it c el)) σ H Q → T σ H Q) ∧ PE X e T ∧
      ∀ y py spos i, X.N[i]? = some y → X.env.scope.names.lookup y = some .local → swapsWith e (some (.Name y py)) spos.line X.env = pure true → PS X (.Assign [.Name y py] e spos) (tAsg T (gName i)) := by
  have h : (match lcV e with
      | some (elt, tg, iter, ifs, scope) => blkC N sc scope (ownsOf N vs) && (slcT N vs t && tgOk it tg) && chkT N scope t tg && !isSet iter && chkI fn N sc it iter && chkIf fn N (relS scope sc) c ifs && chkE fn N (relS scope sc) el elt
      | none => false) = true := h
  cases hv : lcV e with
  | none => rw [hv] at h; cases h
  | some v =>
    obtain ⟨elt, tg, iter, ifs, scope⟩ := v
    rw [hv] at h
    have h : (blkC N sc scope (ownsOf N vs) && (slcT N vs t && tgOk it tg) && chkT N scope t tg && !isSet iter && chkI fn N sc it iter && chkIf fn N (relS scope sc) c ifs && chkE fn N (relS scope sc) el elt) = true := h
    simp only [Bool.and_eq_true] at h
    obtain ⟨⟨⟨⟨⟨⟨h1, h2⟩, h4⟩, hset⟩, h5⟩, h7⟩, h6⟩ := h
    obtain ⟨p, rfl⟩ := lcV_of hv
    obtain ⟨h2, h2t⟩ := h2
    have h2 : (((ownsOf N vs).map (·.2) == vs) && (slotsT t).all (vs.contains ·)) = true := h2
    simp only [Bool.and_eq_true, beq_iff_eq, List.all_eq_true, List.contains_iff_mem] at h2
    have ok : BlkOk X.N X.env.scope scope (ownsOf N vs) := by rw [hN, hsc]; exact blkOk_by h1
    have hi : PI X tg iter (Tm w (wxOf W EC) (rIb w) fun ρ => evI Φ ρ it) := sI fn N w EC Φ k it C hN hsc h5 h2t
    have hg := fun (s : Shared) (H : Hp) (A : Addr) (cl : List (Str × Addr)) (fp : List Addr) => sn_tg (w := w) (X := X.blk s H scope (compEnvC scope cl A X.env) fp) hN (by rw [← hN]; exact C.nd) (own_of (env := X.env)) C.calm h4
    have ht := fun (s : Shared) (H : Hp) (A : Addr) (cl : List (Str × Addr)) (fp : List Addr) => sIf fn N w EC Φ k c (C.blk s H scope (compEnvC scope cl A X.env) fp) hN (by show relS scope X.env.scope = _; rw [hsc]) h7
    have he := fun (s : Shared) (H : Hp) (A : Addr) (cl : List (Str × Addr)) (fp : List Addr) => (sE fn N w EC Φ k el (C.blk s H scope (compEnvC scope cl A X.env) fp) hN (by show relS scope X.env.scope = _; rw [hsc]) h6).kp
    refine ⟨_, fun σ H Q q => lc_term (w := w) (mt := fun ρ => evT Φ ρ c) (me := fun ρ => evV Φ ρ el) h2.2 q, ?_, fun y py spos i hi' hl hs => ?_⟩
    · have := pe_lc (pos := p) C.calm C.nd hi ok hg ht he (folded_of hset)
      rw [h2.1] at this
      exact this
    · have := ps_setLc (pos := p) (py := py) (spos := spos) C.calm C.nd hi' hl hs hi ok hg ht he (folded_of hset)
      rw [h2.1] at this
      exact this
theorem sLc2 (C : Con X W EC fn Φ k) (hN : X.N = N) (hsc : X.env.scope = sc) {vs vs1 : List Nat} {t t1 : Tg} {it it1 : It} {c c1 : O} {el : E} {e : Expr} (h : chkE fn N sc (.lc2 vs vs1 t it c t1 it1 c1 el) e = true) :
    ∃ T : TE, (∀ σ H Q, Tm w (wxOf W EC) rN (fun ρ => ev Φ ρ (.lc2 vs vs1 t it c t1 it1 c1 el)) σ H Q → T σ H Q) ∧ PE X e T ∧
      ∀ y py spos i, X.N[i]? = some y → X.env.scope.names.lookup y = some .local → swapsWith e (some (.Name y py)) spos.line X.env = pure true → PS X (.Assign [.Name y py] e spos) (tAsg T (gName i)) := by
  have h : (match lc2V e with
      | some (elt, (tg, iter, ifs), (tg1, iter1, ifs1), scope) => (blkC N sc scope (ownsOf N vs) && slcT N vs t && (slotsT t1).all (vs1.contains ·) && vs1.all (vs.contains ·) && tgOk it tg && tgOk it1 tg1 && chkT N scope t tg && chkT N scope t1 tg1 && !isSet iter && !isSet iter1) &&
        (chkI fn N sc it iter && chkIf fn N (relS scope sc) c ifs && chkI fn N (relS scope sc) it1 iter1 && chkIf fn N (relS scope sc) c1 ifs1 && chkE fn N (relS scope sc) el elt)
      | none => false) = true := h
  cases hv : lc2V e with
  | none => rw [hv] at h; cases h
  | some v =>
    obtain ⟨elt, ⟨tg, iter, ifs⟩, ⟨tg1, iter1, ifs1⟩, scope⟩ := v
    rw [hv] at h
    simp only [Bool.and_eq_true] at h
    obtain ⟨⟨⟨⟨⟨⟨⟨⟨⟨⟨h1, h2⟩, h3⟩, h4⟩, t1'⟩, t2'⟩, g1⟩, g2⟩, hset⟩, hset1⟩, ⟨⟨⟨i1, c1'⟩, i2⟩, c2'⟩, h6⟩ := h
    obtain ⟨p, rfl⟩ := lc2V_of hv
    have h2 : (((ownsOf N vs).map (·.2) == vs) && (slotsT t).all (vs.contains ·)) = true := h2
    simp only [Bool.and_eq_true, beq_iff_eq, List.all_eq_true, List.contains_iff_mem] at h2 h3 h4
    have ok : BlkOk X.N X.env.scope scope (ownsOf N vs) := by rw [hN, hsc]; exact blkOk_by h1
    have hrel : relS scope X.env.scope = relS scope sc := by rw [hsc]
    have hi : PI X tg iter (Tm w (wxOf W EC) (rIb w) fun ρ => evI Φ ρ it) := sI fn N w EC Φ k it C hN hsc i1 t1'
    have hg := fun (s : Shared) (H : Hp) (A : Addr) (cl : List (Str × Addr)) (fp : List Addr) => sn_tg (w := w) (X := X.blk s H scope (compEnvC scope cl A X.env) fp) hN (by rw [← hN]; exact C.nd) (own_of (env := X.env)) C.calm g1
    have ht := fun (s : Shared) (H : Hp) (A : Addr) (cl : List (Str × Addr)) (fp : List Addr) => sIf fn N w EC Φ k c (C.blk s H scope (compEnvC scope cl A X.env) fp) hN hrel c1'
    have hi1 := fun (s : Shared) (H : Hp) (A : Addr) (cl : List (Str × Addr)) (fp : List Addr) => sI fn N w EC Φ k it1 (tg := tg1) (C.blk s H scope (compEnvC scope cl A X.env) fp) hN hrel i2 t2'
    have hg1 := fun (s : Shared) (H : Hp) (A : Addr) (cl : List (Str × Addr)) (fp : List Addr) => sn_tg (w := w) (X := X.blk s H scope (compEnvC scope cl A X.env) fp) hN (by rw [← hN]; exact C.nd) (own_of (env := X.env)) C.calm g2
    have ht1 := fun (s : Shared) (H : Hp) (A : Addr) (cl : List (Str × Addr)) (fp : List Addr) => sIf fn N w EC Φ k c1 (C.blk s H scope (compEnvC scope cl A X.env) fp) hN hrel c2'
    have he := fun (s : Shared) (H : Hp) (A : Addr) (cl : List (Str × Addr)) (fp : List Addr) => (sE fn N w EC Φ k el (C.blk s H scope (compEnvC scope cl A X.env) fp) hN hrel h6).kp
    have hs1 : ∀ env x, foldedSetIterable iter1 env x = pure x := fun env x => by cases iter1 with | Set es k p => cases hset1 | _ => rfl
    have hv1 : ∀ i ∈ vs1, i ∈ (ownsOf N vs).map (·.2) := by rw [h2.1]; exact h4
    refine ⟨_, fun σ H Q q => lc2_term (w := w) (mt := fun ρ => evT Φ ρ c) (mt1 := fun ρ => evT Φ ρ c1) (me := fun ρ => evV Φ ρ el) h2.2 h3 q, ?_, fun y py spos i hi' hl hs => ?_⟩
    · have := pe_lc2 (pos := p) C.calm C.nd hi ok hv1 hg ht hi1 hg1 ht1 he (folded_of hset) hs1
      rw [h2.1] at this
      exact this
    · have := ps_setLc2 (pos := p) (py := py) (spos := spos) C.calm C.nd hi' hl hs hi ok hv1 hg ht hi1 hg1 ht1 he (folded_of hset) hs1
      rw [h2.1] at this
      exact this
/-- .. a new list -/
theorem sN (C : Con X W EC fn Φ k) (hN : X.N = N) (hsc : X.env.scope = sc) {c : E} {e : Expr} (hn : newOk c = true) (h : chkE fn N sc c e = true) : PE X e (Tm w (wxOf W EC) rN fun ρ => evV Φ ρ c) := by
  cases c with
  | lst es =>
    cases e with
    | List xs p =>
      have h : (chkEs fn N sc es xs && decide (exprLen es ≤ 1000)) = true := h
      rw [Bool.and_eq_true] at h
      exact sn_lst (sEs fn N w EC Φ k es C hN hsc h.1) fun ρ ls ds ls' q => by rw [evs_len q]; exact of_decide_eq_true h.2
    | _ => exact (Bool.false_ne_true h).elim
  | lc vs t it c el =>
    obtain ⟨T, h1, h2, -⟩ := sLc (w := w) C hN hsc h
    exact pe_imp h2 h1
  | lc2 vs vs1 t it c t1 it1 c1 el =>
    obtain ⟨T, h1, h2, -⟩ := sLc2 (w := w) C hN hsc h
    exact pe_imp h2 h1
  | lof it =>
    cases it with
    | rng1 a =>
      obtain ⟨g, x, g2, y, hv, hv2, h1, h2, h3, h4, h5, h6, h7⟩ := two_of (fn := fn) (N := N) (n1 := "list") (n2 := "range") (a := a) (sc := sc) (e := e) h
      obtain ⟨p, q, rfl⟩ := call1_of hv
      obtain ⟨p2, q2, rfl⟩ := call1_of hv2
      subst h1 h4
      exact sn_lof1 C.calm (globOk_of hsc h2).1 (C.bn _ (by decide)) (globOk_of hsc h5).1 (C.bn _ (by decide)) (star_of h6) (sE fn N w EC Φ k a C hN hsc h7).kp
    | rng2 a b =>
      obtain ⟨g, x, g2, y, z, hv, hv2, h1, h2, h3, h4, h5, h6, h8, h7, h9⟩ := two2_of (fn := fn) (N := N) (n1 := "list") (n2 := "range") (a := a) (b := b) (sc := sc) (e := e) h
      obtain ⟨p, q, rfl⟩ := call1_of hv
      obtain ⟨p2, q2, rfl⟩ := call2_of hv2
      subst h1 h4
      exact sn_lof2 C.calm (globOk_of hsc h2).1 (C.bn _ (by decide)) (globOk_of hsc h5).1 (C.bn _ (by decide)) (star_of h6) (star_of h8) (sE fn N w EC Φ k a C hN hsc h7).kp (sE fn N w EC Φ k b C hN hsc h9).kp
    | _ => cases hn
  | fn1 f a =>
    cases f with
    | list =>
      have h : (match call1 e with
        | some (g, x) => F1.plain .list && g == F1.nm .list && globOk sc g && !isStar x && chkE fn N sc a x
        | none => false) = true := h
      cases hv : call1 e with
      | none => rw [hv] at h; cases h
      | some v =>
        obtain ⟨g, x⟩ := v
        rw [hv] at h
        have h : (F1.plain .list && g == F1.nm .list && globOk sc g && !isStar x && chkE fn N sc a x) = true := h
        simp only [Bool.and_eq_true, beq_iff_eq] at h
        obtain ⟨⟨⟨⟨h1, h2⟩, h3⟩, h4⟩, h5⟩ := h
        obtain ⟨p, q, rfl⟩ := call1_of hv
        subst h2
        exact sn_callTN call_list1 (globOk_of hsc h3).1 (C.bn _ (by decide)) (by decide +kernel) (by decide) (by decide) (star_of h4) (sE fn N w EC Φ k a C hN hsc h5).h
    | sorted =>
      have h : (match call1 e with
        | some (g, x) => F1.plain .sorted && g == F1.nm .sorted && globOk sc g && !isStar x && chkE fn N sc a x
        | none => false) = true := h
      cases hv : call1 e with
      | none => rw [hv] at h; cases h
      | some v =>
        obtain ⟨g, x⟩ := v
        rw [hv] at h
        have h : (F1.plain .sorted && g == F1.nm .sorted && globOk sc g && !isStar x && chkE fn N sc a x) = true := h
        simp only [Bool.and_eq_true, beq_iff_eq] at h
        obtain ⟨⟨⟨⟨h1, h2⟩, h3⟩, h4⟩, h5⟩ := h
        obtain ⟨p, q, rfl⟩ := call1_of hv
        subst h2
        have hu := C.un
        exact sn_callBN (call_sorted1 C.calm hu) (globOk_of hsc h3).1 (C.bn _ (by decide)) (by decide +kernel) (by decide) (by decide) (star_of h4) (sE fn N w EC Φ k a C hN hsc h5).h
    | sortedset =>
      obtain ⟨g, x, g2, y, hv, hv2, h1, h2, h3, h4, h5, h6, h7⟩ := two_of (fn := fn) (N := N) (n1 := "sorted") (n2 := "set") (a := a) (sc := sc) (e := e) h
      obtain ⟨p, q, rfl⟩ := call1_of hv
      obtain ⟨p2, q2, rfl⟩ := call1_of hv2
      subst h1 h4
      exact sn_sortset C.calm (globOk_of hsc h2).1 (C.bn _ (by decide)) (globOk_of hsc h5).1 (C.bn _ (by decide)) (star_of h6) (sE fn N w EC Φ k a C hN hsc h7).h
    | _ => cases hn
  | _ => cases hn
/-- what a for walks -/
theorem sIK (C : Con X W EC fn Φ k) (hN : X.N = N) (hsc : X.env.scope = sc) {c : It} {e tg : Expr} (hf : forOk c = true) (ht : tgOk c tg = true) (h : chkI fn N sc c e = true) : PI X tg e (Tm w (wxOf W EC) rIt fun ρ => evI Φ ρ c) := by
  cases c with
  | seq a =>
    have h : chkE fn N sc a e = true := h
    have hf : (!isBor a) = true := hf
    exact sn_seqV ((sE fn N w EC Φ k a C hN hsc h).v (by simpa using hf))
  | rng1 a =>
    have h : (match call1 e with
      | some (g, x) => g == "range" && globOk sc g && !isStar x && chkE fn N sc a x
      | none => false) = true := h
    cases hv : call1 e with
    | none => rw [hv] at h; cases h
    | some v =>
      obtain ⟨g, x⟩ := v
      rw [hv] at h
      have h : (g == "range" && globOk sc g && !isStar x && chkE fn N sc a x) = true := h
      simp only [Bool.and_eq_true, beq_iff_eq] at h
      obtain ⟨⟨⟨h1, h2⟩, h3⟩, h4⟩ := h
      obtain ⟨p, q, rfl⟩ := call1_of hv
      exact sn_rng1 h1 (globOk_of hsc h2).1 (C.bn _ (by subst h1; decide)) (star_of h3) (sE fn N w EC Φ k a C hN hsc h4).kp
  | rng2 a b =>
    have h : (match call2 e with
      | some (g, x, y) => g == "range" && globOk sc g && !isStar x && !isStar y && chkE fn N sc a x && chkE fn N sc b y
      | none => false) = true := h
    cases hv : call2 e with
    | none => rw [hv] at h; cases h
    | some v =>
      obtain ⟨g, x, y⟩ := v
      rw [hv] at h
      have h : (g == "range" && globOk sc g && !isStar x && !isStar y && chkE fn N sc a x && chkE fn N sc b y) = true := h
      simp only [Bool.and_eq_true, beq_iff_eq] at h
      obtain ⟨⟨⟨⟨⟨h1, h2⟩, h3⟩, h5⟩, h4⟩, h6⟩ := h
      obtain ⟨p, q, rfl⟩ := call2_of hv
      exact sn_rng2 h1 (globOk_of hsc h2).1 (C.bn _ (by subst h1; decide)) (star_of h3) (star_of h5) (sE fn N w EC Φ k a C hN hsc h4).kp (sE fn N w EC Φ k b C hN hsc h6).kp
  | rng3 a b c =>
    have h : (match call3 e with
      | some (g, x, y, z) => g == "range" && globOk sc g && !isStar x && !isStar y && !isStar z && chkE fn N sc a x && chkE fn N sc b y && chkE fn N sc c z
      | none => false) = true := h
    cases hv : call3 e with
    | none => rw [hv] at h; cases h
    | some v =>
      obtain ⟨g, x, y, z⟩ := v
      rw [hv] at h
      have h : (g == "range" && globOk sc g && !isStar x && !isStar y && !isStar z && chkE fn N sc a x && chkE fn N sc b y && chkE fn N sc c z) = true := h
      simp only [Bool.and_eq_true, beq_iff_eq] at h
      obtain ⟨⟨⟨⟨⟨⟨⟨h1, h2⟩, h3⟩, h4⟩, h5⟩, h6⟩, h7⟩, h8⟩ := h
      obtain ⟨p, q, rfl⟩ := call3_of hv
      exact sn_rng3 h1 (globOk_of hsc h2).1 (C.bn _ (by subst h1; decide)) (star_of h3) (star_of h4) (star_of h5) (sE fn N w EC Φ k a C hN hsc h6).kp (sE fn N w EC Φ k b C hN hsc h7).kp (sE fn N w EC Φ k c C hN hsc h8).kp
  | enum a =>
    have hf : (!isBor a) = true := hf
    have h : (match call1 e with
      | some (g, x) => g == "enumerate" && globOk sc g && !isStar x && chkE fn N sc a x
      | none => false) = true := h
    cases hv : call1 e with
    | none => rw [hv] at h; cases h
    | some v =>
      obtain ⟨g, x⟩ := v
      rw [hv] at h
      have h : (g == "enumerate" && globOk sc g && !isStar x && chkE fn N sc a x) = true := h
      simp only [Bool.and_eq_true, beq_iff_eq] at h
      obtain ⟨⟨⟨h1, h2⟩, h3⟩, h4⟩ := h
      obtain ⟨p, q, rfl⟩ := call1_of hv
      obtain ⟨es, kk, tp, rfl⟩ := isTupX_of (e := tg) ht
      exact sn_enumV h1 (globOk_of hsc h2).1 (C.bn _ (by subst h1; decide)) (star_of h3) ((sE fn N w EC Φ k a C hN hsc h4).v (by simpa using hf))
  | zip a b =>
    have hf : (!isBor a && !isBor b) = true := hf
    rw [Bool.and_eq_true] at hf
    have h : (match call2 e with
      | some (g, x, y) => g == "zip" && globOk sc g && !isStar x && !isStar y && chkE fn N sc a x && chkE fn N sc b y
      | none => false) = true := h
    cases hv : call2 e with
    | none => rw [hv] at h; cases h
    | some v =>
      obtain ⟨g, x, y⟩ := v
      rw [hv] at h
      have h : (g == "zip" && globOk sc g && !isStar x && !isStar y && chkE fn N sc a x && chkE fn N sc b y) = true := h
      simp only [Bool.and_eq_true, beq_iff_eq] at h
      obtain ⟨⟨⟨⟨⟨h1, h2⟩, h3⟩, h5⟩, h4⟩, h6⟩ := h
      obtain ⟨p, q, rfl⟩ := call2_of hv
      obtain ⟨es, kk, tp, rfl⟩ := isTupX_of (e := tg) ht
      exact sn_zipV h1 (globOk_of hsc h2).1 (C.bn _ (by subst h1; decide)) (star_of h3) (star_of h5) ((sE fn N w EC Φ k a C hN hsc h4).v (by simpa using hf.1)) ((sE fn N w EC Φ k b C hN hsc h6).v (by simpa using hf.2))
  | _ => cases hf

/-! ### stores -/
theorem locOk_of {i : Nat} {y : Str} (C : ConS X W EC fn Φ k) (hN : X.N = N) (hsc : X.env.scope = sc) (h : locOk N sc i y = true) : X.N[i]? = some y ∧ Loc X.env.scope y ∧ (X.fn y = true ∨ X.env.scope.names.lookup y = some .local) := by
  simp only [locOk, locOrCell, Bool.and_eq_true, Bool.or_eq_true, beq_iff_eq] at h
  subst hN hsc
  exact ⟨h.1, h.2, .inl (C.fnc y)⟩
theorem own_self (C : ConS X W EC fn Φ k) : Own X X.env.scope := ⟨fun _ h => h, fun x h => ⟨h, C.fnc x⟩⟩
theorem ps_ownT {Wx : WXt} {m : Env → M PyData} {st : Stmt} {T : TE} {i : Nat} (hp : PS X st (tAsg T (gName i))) (hT : ∀ σ H Q, Tm w Wx rN m σ H Q → T σ H Q) :
    PS X st (Ts w Wx fun ρ => M.bind (m ρ) fun d => M.bind (notSt i ρ) fun _ => M.pure (.nx (ρ.set i (.ow d)))) :=
  ps_imp hp fun D σ H ⟨G, ρ, ls, h⟩ => hT _ _ _ ⟨G, ρ, ls, h.bind.imp fun v H1 ⟨G1, ls1, d1, ⟨a, ea, n, g, o⟩, s1, h1⟩ => by
    obtain ⟨hi, h2⟩ := notSt_of h1
    subst ea
    exact h2.nx G1 _ H1 (fun _ _ e => e) (h.1.setOwn h2.1 n g o)⟩
theorem bindT_nm {i : Nat} {d : PyData} {ρ ρ' : Env} (h : bindT (.nm i) d ρ = some ρ') : ρ' = ρ.set i (.fz d) := by
  unfold bindT at h
  split at h <;> first | cases h; rfl | cases h
theorem ps_nmT {Wx : WXt} {m : Env → M PyData} {st : Stmt} {T : TE} {i : Nat} (hp : PS X st (tAsg T (gName i))) (hT : ∀ σ H Q, Tm w Wx rV m σ H Q → T σ H Q) :
    PS X st (Ts w Wx fun ρ => M.bind (m ρ) fun d => M.bind (M.opt (bindT (.nm i) d ρ)) fun ρ' => M.pure (.nx ρ')) :=
  ps_imp hp fun D σ H ⟨G, ρ, ls, h⟩ => hT _ _ _ ⟨G, ρ, ls, h.bind.imp fun v H1 ⟨G1, ls1, d1, r1, s1, h1⟩ => by
    obtain ⟨ρ', hb, h2⟩ := h1.opt
    obtain rfl := bindT_nm hb
    exact h2.nx G1 _ H1 (fun _ _ e => e) (h2.1.set r1)⟩
def setAll : L2.St → List Nat → List V → L2.St
  | σ, i :: is, v :: vs => setAll (σ.set i (some v)) is vs
  | σ, _, _ => σ
theorem IV.setAll {G H : Hp} {ls : List PyData} : ∀ {is : List Nat} {vs : List V} {ds : List PyData} {σ : L2.St} {ρ ρ' : Env}, IV w G H σ ρ ls → Reps G vs ds → bindTs (tgOf is) ds ρ = some ρ' → vs.length = is.length ∧ IV w G H (Pv.setAll σ is vs) ρ' ls
  | [], [], [], σ, ρ, ρ', h, _, e => by cases e; exact ⟨rfl, h⟩
  | [], _ :: _, _ :: _, _, _, _, _, _, e => by cases e
  | i :: is, [], [], _, _, _, _, _, e => by cases e
  | i :: is, v :: vs, d :: ds, σ, ρ, ρ', h, .cons r rs, e => by
    have e : (bindT (.nm i) d ρ).bind (fun ρ1 => bindTs (tgOf is) ds ρ1) = some ρ' := e
    cases e1 : bindT (.nm i) d ρ with
    | none => rw [e1] at e; cases e
    | some ρ1 =>
      rw [e1] at e
      obtain rfl := bindT_nm e1
      obtain ⟨h1, h2⟩ := IV.setAll (h.set r) rs e
      exact ⟨congrArg (· + 1) h1, h2⟩
theorem ps_parT {Wx : WXt} {ms : Env → M (List PyData)} {is : List Nat} {st : Stmt} {t : TS} (hp : PS X st t)
    (hT : ∀ D σ H, Tm w Wx rVs ms σ H (fun vs H1 => vs.length = is.length ∧ D.nx (Pv.setAll σ is vs) H1) → t D σ H) :
    PS X st (Ts w Wx fun ρ => M.bind (M.bind (ms ρ) fun xs => M.pure (.tuple xs)) fun d => M.bind (M.opt (bindT (.tp (tgOf is)) d ρ)) fun ρ' => M.pure (.nx ρ')) :=
  ps_imp hp fun D σ H ⟨G, ρ, ls, h⟩ => hT _ _ _ ⟨G, ρ, ls, by
    have h : Ds w Wx D (M.bind (M.bind (ms ρ) fun xs => M.pure (.tuple xs)) fun d => M.bind (M.opt (bindT (.tp (tgOf is)) d ρ)) fun ρ' => M.pure (.nx ρ')) G ρ ls σ H := h
    rw [M.bind_assoc] at h
    exact (Ds.bind (rel := rVs) h).imp fun vs H1 ⟨G1, ls1, ds, r1, s1, h1⟩ => by
      have h1 : Ds w Wx D (M.bind (M.opt (bindTs (tgOf is) ds ρ)) fun ρ' => M.pure (.nx ρ')) G1 ρ ls1 σ H1 := h1
      obtain ⟨ρ', hb, h2⟩ := h1.opt
      obtain ⟨hl, iv⟩ := h2.1.setAll r1 hb
      exact ⟨hl, h2.nx G1 _ H1 (fun _ _ e => e) iv⟩⟩
theorem chkT_each {t : Tg} {tg : Expr} (h : chkT N sc t tg = true) : (assignEach [tg] X.env).map (·.2) = [assign tg X.env] := by
  cases tg <;> first | rfl | (cases t <;> cases h)
theorem sAsg (C : ConS X W EC fn Φ k) (hN : X.N = N) (hsc : X.env.scope = sc) {t : Tg} {c : E} {tg v : Expr} {pos : Pos} (h : chkAsg fn N sc t c tg v = true) :
    PS X (.Assign [tg] v pos) (Ts w (wxOf W EC) fun ρ => M.bind (evV Φ ρ c) fun d => M.bind (M.opt (bindT t d ρ)) fun ρ' => M.pure (.nx ρ')) := by
  unfold chkAsg at h
  cases hw : swSt sc tg v with
  | none => rw [hw] at h; cases h
  | some r =>
    rw [hw] at h
    have hw' : swappedStores [tg] v X.env = pure r := swSt_of C.kind (by rw [hsc]; exact hw)
    cases r with
    | none =>
      dsimp only at h
      simp only [Bool.and_eq_true] at h
      obtain ⟨⟨h1, h2⟩, h3⟩ := h
      have he := (sE fn N w EC Φ k c C.con hN hsc h2).kp
      have hg : PG X tg (gT w t) := sn_tg hN (by rw [← hN]; exact C.con.nd) (by rw [← hsc]; exact own_self C) C.con.calm h1
      cases hq : chkAsg.nmT tg with
      | none =>
        rw [hq] at h3
        exact ss_asg he hg (noswapS (by simpa using h3)) hw' (chkT_each h1)
      | some yp =>
        obtain ⟨y, py⟩ := yp
        rw [hq] at h3
        obtain rfl : tg = .Name y py := by
          unfold chkAsg.nmT at hq
          split at hq
          · cases hq; rfl
          · cases hq
        have h3 : (!swaps sc v y py || (isLcC c && sc.names.lookup y == some .local)) = true := h3
        cases hs : swaps sc v y py with
        | false => exact ss_asg he hg (by show swapsWith v (some (.Name y py)) pos.line X.env = _; rw [swaps_of C.kind, hsc, hs]) hw' (chkT_each h1)
        | true =>
          rw [hs] at h3
          have h3 : (isLcC c && sc.names.lookup y == some .local) = true := h3
          rw [Bool.and_eq_true, beq_iff_eq] at h3
          cases c with
          | lc vs t' it c' el =>
            obtain ⟨T, hT, -, hS⟩ := sLc (w := w) C.con hN hsc h2
            cases t with
            | tp ts => cases h1
            | nm i =>
              have h1 : (N[i]? == some y && locOrCell sc y) = true := h1
              rw [Bool.and_eq_true, beq_iff_eq] at h1
              exact ps_nmT (hS y py pos i (by rw [hN]; exact h1.1) (by rw [hsc]; exact h3.2) (by rw [swaps_of C.kind, hsc, hs])) fun σ H Q q => hT σ H Q (tm_new q)
          | lc2 vs vs1 t' it c' t1 it1 c1 el =>
            obtain ⟨T, hT, -, hS⟩ := sLc2 (w := w) C.con hN hsc h2
            cases t with
            | tp ts => cases h1
            | nm i =>
              have h1 : (N[i]? == some y && locOrCell sc y) = true := h1
              rw [Bool.and_eq_true, beq_iff_eq] at h1
              exact ps_nmT (hS y py pos i (by rw [hN]; exact h1.1) (by rw [hsc]; exact h3.2) (by rw [swaps_of C.kind, hsc, hs])) fun σ H Q q => hT σ H Q (tm_new q)
          | _ => cases h3.1
    | some ns =>
      dsimp only at h
      cases ht : parT t with
      | none => rw [ht] at h; cases h
      | some is =>
        cases hc : tupC c with
        | none =>
          rw [ht, hc] at h
          rcases is with _ | ⟨i, _ | ⟨j, _ | ⟨l, _ | ⟨m, r⟩⟩⟩⟩ <;> cases h
        | some es =>
          rw [ht, hc] at h
          have := tupC_of hc
          subst this
          obtain ⟨ts, rfl⟩ : ∃ ts, t = .tp ts := by cases t with | nm i => cases ht | tp ts => exact ⟨ts, rfl⟩
          have := namesT_of (show namesT ts = some is from ht)
          subst this
          have hloc : ∀ {x : Str}, sc.names.lookup x = some .local → X.env.scope.names.lookup x = some .local := fun {x} q => by rw [hsc]; exact q
          match is, h with
          | [i, j], h =>
            dsimp only at h
            cases h2 : tup2N tg with
            | none => rw [h2] at h; cases h
            | some xy =>
              cases h3 : tup2E v with
              | none => rw [h2, h3] at h; cases h
              | some ab =>
                obtain ⟨x, y⟩ := xy
                obtain ⟨a, b⟩ := ab
                rw [h2, h3] at h
                dsimp only at h
                simp only [Bool.and_eq_true, beq_iff_eq, bne_iff_ne] at h
                obtain ⟨⟨⟨⟨⟨⟨g1, g2⟩, g3⟩, g4⟩, g5⟩, g6⟩, g7⟩ := h
                obtain ⟨p1, p2, n1, p3, rfl⟩ := tup2N_of h2
                obtain ⟨n2, p4, rfl⟩ := tup2E_of h3
                subst g1
                have hp := ps_par (pos := pos) C.con.calm C.con.nd (by rw [hN]; exact g2) (by rw [hN]; exact g3) g4 (hloc g5) (hloc g6) (sEs fn N w EC Φ k es C.con hN hsc g7) hw' rfl
                refine ps_parT (is := [i, j]) hp fun D σ H ⟨G, ρ, ls, q⟩ => ⟨G, ρ, ls, q.imp fun vs H1 ⟨hl, q1⟩ => ?_⟩
                match vs, hl, q1 with
                | [v1, v2], _, q1 => exact ⟨v1, v2, rfl, q1⟩
          | [i, j, l], h =>
            dsimp only at h
            cases h2 : tup3N tg with
            | none => rw [h2] at h; cases h
            | some xy =>
              cases h3 : tup3E v with
              | none => rw [h2, h3] at h; cases h
              | some ab =>
                obtain ⟨x, y, z⟩ := xy
                obtain ⟨a, b, c⟩ := ab
                rw [h2, h3] at h
                dsimp only at h
                simp only [Bool.and_eq_true, beq_iff_eq, bne_iff_ne] at h
                obtain ⟨⟨⟨⟨⟨⟨⟨⟨⟨⟨g1, g2⟩, g3⟩, g4⟩, g5⟩, g6⟩, g7⟩, g8⟩, g9⟩, g10⟩, g11⟩ := h
                obtain ⟨p1, p2, p5, n1, p3, rfl⟩ := tup3N_of h2
                obtain ⟨n2, p4, rfl⟩ := tup3E_of h3
                subst g1
                have hp := ps_par3 (pos := pos) C.con.calm C.con.nd (by rw [hN]; exact g2) (by rw [hN]; exact g3) (by rw [hN]; exact g4) g5 g6 g7 (hloc g8) (hloc g9) (hloc g10) (sEs fn N w EC Φ k es C.con hN hsc g11) hw' rfl
                refine ps_parT (is := [i, j, l]) hp fun D σ H ⟨G, ρ, ls, q⟩ => ⟨G, ρ, ls, q.imp fun vs H1 ⟨hl, q1⟩ => ?_⟩
                match vs, hl, q1 with
                | [v1, v2, v3], _, q1 => exact ⟨v1, v2, v3, rfl, q1⟩
          | [], h => cases h
          | [_], h => cases h
          | _ :: _ :: _ :: _ :: _, h => cases h

/-! ### statements -/
theorem opt_of {α : Type} {o : Option α} (F : Option α → Bool) (hF : F none = false) (h : F o = true) : ∃ a, o = some a ∧ F (some a) = true := by
  cases o with
  | none => rw [hF] at h; cases h
  | some a => exact ⟨a, rfl, h⟩
theorem plainN_of {n : Str} (h : plainN n = true) : (n == ("__debug__" : Str)) = false ∧ (n == ("__classdict__" : Str)) = false := by
  simp only [plainN, Bool.and_eq_true, Bool.not_eq_true'] at h
  exact h
theorem ConS.tr {w2 : WX} (C : ConS X W EC fn Φ k) (pn : List (Addr × Obj)) (xe : Value → Shared → Prop) (tk : Takes (X.tr pn xe) w2) : Con (X.tr pn xe) w2 EC fn Φ k := C.con.tr pn xe tk
end Pv

set_option maxRecDepth 100000
set_option maxHeartbeats 400000
namespace Pv
open PySem PySem.W L2
variable {fn : Nat → Option (Str × Bool)} {N : List Str} {sc : Scope} {X : Cx} {w : Wd} {W : WX} {EC : Ex → Addr} {Φ : Nat → List PyData → M PyData} {k : Nat}
mutual
theorem sS (fn : Nat → Option (Str × Bool)) (N : List Str) (w : Wd) (EC : Ex → Addr) (Φ : Nat → List PyData → M PyData) (k n : Nat) : ∀ (c : S) {sc : Scope} {X : Cx} {W : WX}, ConS X W EC fn Φ k → X.N = N → X.env.scope = sc → ∀ {st : Stmt}, chkS fn N sc c st = true → PS X st (Ts w (wxOf W EC) fun ρ => ex Φ n c ρ)
  | .asg t c, sc, X, W, C, hN, hsc, st, h => by
    obtain ⟨⟨tg, v⟩, h1, h2⟩ := opt_of (o := asgV st) (fun o => match o with | some (tg, v) => (chkAsg fn N sc t c tg v) | none => false) rfl h
    obtain ⟨p, rfl⟩ := asgV_of h1
    exact sAsg C hN hsc h2
  | .asgF i c, sc, X, W, C, hN, hsc, st, h => by
    obtain ⟨⟨tg, v⟩, h1, h2⟩ := opt_of (o := asgV st) (fun o => match o with | some (tg, v) => (newOk c && chkE fn N sc c v && (match chkAsg.nmT tg with | some (y, p) => locOk N sc i y && (!swaps sc v y p || (isLcC c && sc.names.lookup y == some .local)) | none => false)) | none => false) rfl h
    obtain ⟨p, rfl⟩ := asgV_of h1
    dsimp only at h2
    simp only [Bool.and_eq_true] at h2
    obtain ⟨⟨h2, h3⟩, h4⟩ := h2
    cases hq : chkAsg.nmT tg with
    | none => rw [hq] at h4; cases h4
    | some yp =>
      obtain ⟨y, py⟩ := yp
      rw [hq] at h4
      obtain rfl : tg = .Name y py := by
        unfold chkAsg.nmT at hq
        split at hq
        · cases hq; rfl
        · cases hq
      have h4 : (locOk N sc i y && (!swaps sc v y py || (isLcC c && sc.names.lookup y == some .local))) = true := h4
      rw [Bool.and_eq_true] at h4
      obtain ⟨h5, h6⟩ := h4
      obtain ⟨g1, g2, g3⟩ := locOk_of C hN hsc h5
      cases hs : swaps sc v y py with
      | false => exact ss_own C.con.nd g1 g2 g3 (by rw [swaps_of C.kind, hsc, hs]) (sN C.con hN hsc h2 h3)
      | true =>
        rw [hs] at h6
        have h6 : (isLcC c && sc.names.lookup y == some .local) = true := h6
        rw [Bool.and_eq_true, beq_iff_eq] at h6
        cases c with
        | lc vs t' it c' el =>
          obtain ⟨T, hT, -, hS⟩ := sLc (w := w) C.con hN hsc h3
          exact ps_ownT (hS y py p i g1 (by rw [hsc]; exact h6.2) (by rw [swaps_of C.kind, hsc, hs])) hT
        | lc2 vs vs1 t' it c' t1 it1 c1 el =>
          obtain ⟨T, hT, -, hS⟩ := sLc2 (w := w) C.con hN hsc h3
          exact ps_ownT (hS y py p i g1 (by rw [hsc]; exact h6.2) (by rw [swaps_of C.kind, hsc, hs])) hT
        | _ => cases h6.1
  | .mv i j, sc, X, W, C, hN, hsc, st, h => by
    obtain ⟨⟨tg, v⟩, h1, h2⟩ := opt_of (o := asgV st) (fun o => match o with | some (tg, v) => (match nmV tg, nmV v with | some y, some z => locOk N sc i y && nameOk N sc j z | _, _ => false) | none => false) rfl h
    obtain ⟨p, rfl⟩ := asgV_of h1
    dsimp only at h2
    cases e1 : nmV tg with
    | none => rw [e1] at h2; cases h2
    | some y =>
      cases e2 : nmV v with
      | none => rw [e1, e2] at h2; cases h2
      | some z =>
        rw [e1, e2] at h2
        have h2 : (locOk N sc i y && nameOk N sc j z) = true := h2
        rw [Bool.and_eq_true] at h2
        obtain ⟨p1, rfl⟩ := nmV_of e1
        obtain ⟨p2, rfl⟩ := nmV_of e2
        obtain ⟨g1, g2, g3⟩ := locOk_of C hN hsc h2.1
        obtain ⟨g4, g5, g6, g7⟩ := nameOk_of hN hsc h2.2
        exact ss_mv C.con.nd g1 g2 g3 g4 g5 g6 g7
  | .setX i x c, sc, X, W, C, hN, hsc, st, h => by
    obtain ⟨⟨tg, v⟩, h1, h2⟩ := opt_of (o := asgV st) (fun o => match o with | some (tg, v) => (match subV tg with | some (y, ix) => nameOk N sc i y && !isSlice ix && chkE fn N sc x ix && chkE fn N sc c v | none => false) | none => false) rfl h
    obtain ⟨p, rfl⟩ := asgV_of h1
    obtain ⟨⟨y, ix⟩, h3, h4⟩ := opt_of (o := subV tg) (fun o => match o with | some (y, ix) => (nameOk N sc i y && !isSlice ix && chkE fn N sc x ix && chkE fn N sc c v) | none => false) rfl h2
    obtain ⟨p1, p2, rfl⟩ := subV_of h3
    dsimp only at h4
    simp only [Bool.and_eq_true] at h4
    obtain ⟨⟨⟨h4, h5⟩, h6⟩, h7⟩ := h4
    obtain ⟨g4, g5, g6, g7⟩ := nameOk_of hN hsc h4
    exact ss_setX g4 g5 g6 g7 (slice_of h5) (sE fn N w EC Φ k c C.con hN hsc h7).kp (sE fn N w EC Φ k x C.con hN hsc h6).kp
  | .augX i op x c, sc, X, W, C, hN, hsc, st, h => by
    obtain ⟨⟨tg, op', v⟩, h1, h2⟩ := opt_of (o := augV st) (fun o => match o with | some (tg, op', v) => (match subV tg with | some (y, ix) => op == op' && nameOk N sc i y && !isSlice ix && chkE fn N sc x ix && chkE fn N sc c v | none => false) | none => false) rfl h
    obtain ⟨p, rfl⟩ := augV_of h1
    obtain ⟨⟨y, ix⟩, h3, h4⟩ := opt_of (o := subV tg) (fun o => match o with | some (y, ix) => (op == op' && nameOk N sc i y && !isSlice ix && chkE fn N sc x ix && chkE fn N sc c v) | none => false) rfl h2
    obtain ⟨p1, p2, rfl⟩ := subV_of h3
    dsimp only at h4
    simp only [Bool.and_eq_true, beq_iff_eq] at h4
    obtain ⟨⟨⟨⟨rfl, h4⟩, h5⟩, h6⟩, h7⟩ := h4
    obtain ⟨g4, g5, g6, g7⟩ := nameOk_of hN hsc h4
    exact ss_augX g4 g5 g6 g7 (slice_of h5) (sE fn N w EC Φ k c C.con hN hsc h7).kp (sE fn N w EC Φ k x C.con hN hsc h6).kp
  | .aug i op c, sc, X, W, C, hN, hsc, st, h => by
    obtain ⟨⟨tg, op', v⟩, h1, h2⟩ := opt_of (o := augV st) (fun o => match o with | some (tg, op', v) => (match nmV tg with | some y => op == op' && locOk N sc i y && chkE fn N sc c v | none => false) | none => false) rfl h
    obtain ⟨p, rfl⟩ := augV_of h1
    obtain ⟨y, h3, h4⟩ := opt_of (o := nmV tg) (fun o => match o with | some a => (op == op' && locOk N sc i a && chkE fn N sc c v) | none => false) rfl h2
    obtain ⟨p1, rfl⟩ := nmV_of h3
    dsimp only at h4
    simp only [Bool.and_eq_true, beq_iff_eq] at h4
    obtain ⟨⟨rfl, h4⟩, h5⟩ := h4
    obtain ⟨g1, g2, g3⟩ := locOk_of C hN hsc h4
    exact ss_aug C.con.nd g1 g2 g3 (sE fn N w EC Φ k c C.con hN hsc h5).kp
  | .app i c, sc, X, W, C, hN, hsc, st, h => by
    obtain ⟨e, h1, h2⟩ := opt_of (o := expV st) (fun o => match o with | some e => (match appV e with | some (y, m, x) => m == "append" && nameOk N sc i y && !isStar x && chkE fn N sc c x | none => false) | none => false) rfl h
    obtain ⟨p, rfl⟩ := expV_of h1
    obtain ⟨⟨y, m, x⟩, h3, h4⟩ := opt_of (o := appV e) (fun o => match o with | some (y, m, x) => (m == "append" && nameOk N sc i y && !isStar x && chkE fn N sc c x) | none => false) rfl h2
    obtain ⟨p1, ap, cp, rfl, hl⟩ := appV_of h3
    dsimp only at h4
    simp only [Bool.and_eq_true, beq_iff_eq] at h4
    obtain ⟨⟨⟨rfl, h4⟩, h5⟩, h6⟩ := h4
    obtain ⟨g4, g5, g6, g7⟩ := nameOk_of hN hsc h4
    exact ss_app g4 g5 g6 g7 (star_of h5) hl (sE fn N w EC Φ k c C.con hN hsc h6).kp
  | .popX .., sc, X, W, C, hN, hsc, st, h => by cases h
  | .appPop .., sc, X, W, C, hN, hsc, st, h => by cases h
  | .remI i c, sc, X, W, C, hN, hsc, st, h => by
    obtain ⟨e, h1, h2⟩ := opt_of (o := expV st) (fun o => match o with | some e => (match appV e with | some (y, m, x) => m == "remove" && nameOk N sc i y && !isStar x && chkE fn N sc c x | none => false) | none => false) rfl h
    obtain ⟨p, rfl⟩ := expV_of h1
    obtain ⟨⟨y, m, x⟩, h3, h4⟩ := opt_of (o := appV e) (fun o => match o with | some (y, m, x) => (m == "remove" && nameOk N sc i y && !isStar x && chkE fn N sc c x) | none => false) rfl h2
    obtain ⟨p1, ap, cp, rfl, hl⟩ := appV_of h3
    dsimp only at h4
    simp only [Bool.and_eq_true, beq_iff_eq] at h4
    obtain ⟨⟨⟨rfl, h4⟩, h5⟩, h6⟩ := h4
    obtain ⟨g4, g5, g6, g7⟩ := nameOk_of hN hsc h4
    exact ss_rem g4 g5 g6 g7 (star_of h5) hl (sE fn N w EC Φ k c C.con hN hsc h6).kp
  | .exp c, sc, X, W, C, hN, hsc, st, h => by
    obtain ⟨e, h1, h2⟩ := opt_of (o := expV st) (fun o => match o with | some e => (!isComp e && chkE fn N sc c e) | none => false) rfl h
    obtain ⟨p, rfl⟩ := expV_of h1
    simp only [Bool.and_eq_true, Bool.not_eq_true'] at h2
    exact ss_exp h2.1 (sE fn N w EC Φ k c C.con hN hsc h2.2).h
  | .ite c a b, sc, X, W, C, hN, hsc, st, h => by
    obtain ⟨⟨x, as, bs⟩, h1, h2⟩ := opt_of (o := ifV st) (fun o => match o with | some (x, as, bs) => (tstOk c && chkE fn N sc c x && chkSs fn N sc a as && chkSs fn N sc b bs) | none => false) rfl h
    obtain ⟨p, rfl⟩ := ifV_of h1
    dsimp only at h2
    simp only [Bool.and_eq_true] at h2
    obtain ⟨⟨⟨h3, h4⟩, h5⟩, h6⟩ := h2
    exact ss_ite ((sE fn N w EC Φ k c C.con hN hsc h4).t h3) (sSs fn N w EC Φ k n a C hN hsc h5) (sSs fn N w EC Φ k n b C hN hsc h6)
  | .whl c b, sc, X, W, C, hN, hsc, st, h => by
    obtain ⟨⟨x, bs⟩, h1, h2⟩ := opt_of (o := whlV st) (fun o => match o with | some (x, bs) => (tstOk c && chkE fn N sc c x && chkSs fn N sc b bs) | none => false) rfl h
    obtain ⟨p, rfl⟩ := whlV_of h1
    dsimp only at h2
    simp only [Bool.and_eq_true] at h2
    obtain ⟨⟨h3, h4⟩, h6⟩ := h2
    exact ss_whl n C.pass ((sE fn N w EC Φ k c C.con hN hsc h4).t h3) (sSs fn N w EC Φ k n b C hN hsc h6)
  | .for t it b, sc, X, W, C, hN, hsc, st, h => by
    obtain ⟨⟨tg, iter, bs⟩, h1, h2⟩ := opt_of (o := forV st) (fun o => match o with | some (tg, iter, bs) => ((forOk it && tgOk it tg) && chkT N sc t tg && chkI fn N sc it iter && !isSet iter && chkSs fn N sc b bs) | none => false) rfl h
    obtain ⟨p, rfl⟩ := forV_of h1
    dsimp only at h2
    simp only [Bool.and_eq_true] at h2
    obtain ⟨⟨⟨⟨h3, h4⟩, h5⟩, h7⟩, h6⟩ := h2
    exact ss_for C.pass C.con.calm (sIK C.con hN hsc h3.1 h3.2 h5) (sn_tg hN (by rw [← hN]; exact C.con.nd) (by rw [← hsc]; exact own_self C) C.con.calm h4) (sSs fn N w EC Φ k n b C hN hsc h6) (folded_of h7)
  | .ret c, sc, X, W, C, hN, hsc, st, h => by
    obtain ⟨e, h1, h2⟩ := opt_of (o := retV st) (fun o => match o with | some e => (chkE fn N sc c e) | none => false) rfl h
    obtain ⟨p, rfl⟩ := retV_of h1
    exact ss_ret (sE fn N w EC Φ k c C.con hN hsc h2).kp
  | .brk, sc, X, W, C, hN, hsc, st, h => by
    obtain ⟨p, rfl⟩ := brkV_of (show brkV st = true from h)
    exact ss_brk
  | .cnt, sc, X, W, C, hN, hsc, st, h => by
    obtain ⟨p, rfl⟩ := cntV_of (show cntV st = true from h)
    exact ss_cnt
  | .pass, sc, X, W, C, hN, hsc, st, h => by
    obtain ⟨p, rfl⟩ := passV_of (show passV st = true from h)
    exact ss_pass
  | .rais x, sc, X, W, C, hN, hsc, st, h => by
    obtain ⟨m, h1, h2⟩ := opt_of (o := raisV st) (fun o => match o with | some e => (e == xn x && globOk sc e) | none => false) rfl h
    obtain ⟨p, m', j, p2, p3, pos, rfl⟩ := raisV_of h1
    simp only [Bool.and_eq_true, beq_iff_eq] at h2
    obtain ⟨rfl, h2⟩ := h2
    exact ss_rais C.con.calm C.con.tk C.exf (globOk_of hsc h2).1
  | .fr is s, sc, X, W, C, hN, hsc, st, h =>
    ps_imp (sS fn N w EC Φ k n s C hN hsc (show chkS fn N sc s st = true from h)) fun D σ H ⟨G, ρ, ls, h⟩ => by
      obtain ⟨G1, s1, iv⟩ := h.1.frzs is
      exact ⟨G1, frzE ρ is, ls, iv, Out.imp h.2 (fun _ _ q => q.mono s1) fun _ _ q => q⟩
  | .tryR i c, sc, X, W, C, hN, hsc, st, h => by
    obtain ⟨⟨e, hd1, hd2⟩, h1, h2⟩ := opt_of (o := tryRV st) (fun o => match o with | some (e, hd1, hd2) => (chkE fn N sc c e && chkHdR N sc i .unfit hd1 && chkHdR N sc i .wide hd2) | none => false) rfl h
    obtain ⟨r1, pos, rfl⟩ := tryRV_of h1
    dsimp only at h2
    simp only [Bool.and_eq_true] at h2
    obtain ⟨⟨h3, h4⟩, h5⟩ := h2
    obtain ⟨⟨c1, n1, f1, m1, v1⟩, e1, e2⟩ := opt_of (o := hdR hd1) (fun o => match o with | some (c1, n1, f1, m1, v1) => (c1 == xn .unfit && globOk sc c1 && N[i]? == some n1 && sc.names.lookup n1 == some .local && plainN n1 && f1 == "isinstance" && globOk sc f1 && m1 == n1 && v1 == "ValueError" && globOk sc v1) | none => false) rfl h4
    obtain ⟨⟨c2, n2, f2, m2, v2⟩, e3, e4⟩ := opt_of (o := hdR hd2) (fun o => match o with | some (c2, n2, f2, m2, v2) => (c2 == xn .wide && globOk sc c2 && N[i]? == some n2 && sc.names.lookup n2 == some .local && plainN n2 && f2 == "isinstance" && globOk sc f2 && m2 == n2 && v2 == "ValueError" && globOk sc v2) | none => false) rfl h5
    dsimp only at e2 e4
    simp only [Bool.and_eq_true, beq_iff_eq] at e2 e4
    obtain ⟨⟨⟨⟨⟨⟨⟨⟨⟨a1, a2⟩, a3⟩, a4⟩, a5⟩, a6⟩, a7⟩, a8⟩, a9⟩, a10⟩ := e2
    obtain ⟨⟨⟨⟨⟨⟨⟨⟨⟨b1, b2⟩, b3⟩, b4⟩, b5⟩, b6⟩, b7⟩, b8⟩, b9⟩, b10⟩ := e4
    rw [a3] at b3
    obtain rfl := Option.some.inj b3
    subst a1 a6 a8 a9 b1 b6 b8 b9
    obtain ⟨p1, p2, p3, p4, p5, p6, p7, p8, p9, m, j, q, rfl⟩ := hdR_of e1
    obtain ⟨q1, q2, q3, q4, q5, q6, q7, q8, q9, m', j', q', rfl⟩ := hdR_of e3
    obtain ⟨d1, d2⟩ := plainN_of a5
    exact ss_tryR C.exf C.stk C.frm C.con.nd (by rw [hN]; exact a3) (by rw [hsc]; exact a4) d1 d2 C.con.tk (globOk_of hsc a7).1 (globOk_of hsc a10).1 (globOk_of hsc a2).1 (globOk_of hsc b2).1
      fun W2 pn xe tk _ => (sE fn N w EC Φ k c (C.tr pn xe tk) hN hsc h3).kp
  | .tryC i c a b, sc, X, W, C, hN, hsc, st, h => by
    obtain ⟨⟨x, ea, eb, hd1⟩, h1, h2⟩ := opt_of (o := tryCV st) (fun o => match o with | some (x, ea, eb, hd1) => (tstOk c && chkE fn N sc c x && !isComp ea && !isComp eb && chkE fn N sc a ea && chkE fn N sc b eb && chkHdC N sc i .unfit hd1) | none => false) rfl h
    obtain ⟨r1, r2, r3, r4, r5, j0, pos, rfl⟩ := tryCV_of h1
    dsimp only at h2
    simp only [Bool.and_eq_true] at h2
    obtain ⟨⟨⟨⟨⟨⟨h3, h4⟩, h5⟩, h6⟩, h7⟩, h8⟩, h9⟩ := h2
    obtain ⟨⟨c1, n1, f1, m1, v1⟩, e1, e2⟩ := opt_of (o := hdC hd1) (fun o => match o with | some (c1, n1, f1, m1, v1) => (c1 == xn .unfit && globOk sc c1 && N[i]? == some n1 && sc.names.lookup n1 == some .local && plainN n1 && f1 == "isinstance" && globOk sc f1 && m1 == n1 && v1 == "ValueError" && globOk sc v1) | none => false) rfl h9
    dsimp only at e2
    simp only [Bool.and_eq_true, beq_iff_eq] at e2
    obtain ⟨⟨⟨⟨⟨⟨⟨⟨⟨a1, a2⟩, a3⟩, a4⟩, a5⟩, a6⟩, a7⟩, a8⟩, a9⟩, a10⟩ := e2
    subst a1 a6 a8 a9
    obtain ⟨p1, p2, p3, p4, p5, p6, p7, p8, p9, j, q, rfl⟩ := hdC_of e1
    obtain ⟨d1, d2⟩ := plainN_of a5
    exact ss_tryC C.exf C.stk C.frm C.con.nd (by rw [hN]; exact a3) (by rw [hsc]; exact a4) d1 d2 C.con.tk (globOk_of hsc a7).1 (globOk_of hsc a10).1 (globOk_of hsc a2).1 (by simpa using h5) (by simpa using h6)
      fun W2 pn xe tk _ => ⟨(sE fn N w EC Φ k c (C.tr pn xe tk) hN hsc h4).t h3, (sE fn N w EC Φ k a (C.tr pn xe tk) hN hsc h7).h, (sE fn N w EC Φ k b (C.tr pn xe tk) hN hsc h8).h⟩
theorem sSs (fn : Nat → Option (Str × Bool)) (N : List Str) (w : Wd) (EC : Ex → Addr) (Φ : Nat → List PyData → M PyData) (k n : Nat) : ∀ (c : Ss) {sc : Scope} {X : Cx} {W : WX}, ConS X W EC fn Φ k → X.N = N → X.env.scope = sc → ∀ {sts : List Stmt}, chkSs fn N sc c sts = true → PSs X sts (Ts w (wxOf W EC) fun ρ => exs Φ n c ρ)
  | .nil, sc, X, W, C, hN, hsc, sts, h => by
    cases sts with
    | nil => exact ss_nil
    | cons _ _ => exact (Bool.false_ne_true h).elim
  | .cons s ss, sc, X, W, C, hN, hsc, sts, h => by
    cases sts with
    | nil => exact (Bool.false_ne_true h).elim
    | cons st sts =>
      have h : (chkS fn N sc s st && chkSs fn N sc ss sts) = true := h
      rw [Bool.and_eq_true] at h
      exact ss_cons (sS fn N w EC Φ k n s C hN hsc h.1) (sSs fn N w EC Φ k n ss C hN hsc h.2)
end
end Pv

set_option maxRecDepth 100000
set_option maxHeartbeats 2000000
/-! The defs of a text, to any depth of calls. -/
namespace Pv
open PySem PySem.W L2
/-- a def of the text: its name, its statement, its names (parameters first), its parameters, what it is in the small Python -/
structure Rec where
  x : Str
  st : Stmt
  N : List Str
  ps : List Str
  df : Df
/-- the table's i-th def (some places are empty) -/
def atR (ds : List (Option Rec)) (i : Nat) : Option Rec := ds.getD i none
def fnT (ds : List (Option Rec)) (i : Nat) : Option (Str × Bool) := (atR ds i).map fun r => (r.x, r.df.st)
def DT (ds : List (Option Rec)) (i : Nat) : Option Df := (atR ds i).map (·.df)
/-- what a def's scope must be -/
def scopeOk (N P : List Str) (sc : Scope) : Bool :=
  (sc.kind == .function) && !sc.isCoroutine && !sc.isGenerator && decide N.Nodup && (N.take P.length == P) && P.all (fun x => sc.names.lookup x == some .local || sc.names.lookup x == some .cell) && sc.names.all (fun y => y.2 != .free)
theorem scope_of {N P : List Str} {sc : Scope} (h : scopeOk N P sc = true) : FnScope N P sc := by
  simp only [scopeOk, Bool.and_eq_true, beq_iff_eq, Bool.not_eq_true', decide_eq_true_eq, List.all_eq_true, Bool.or_eq_true, bne_iff_ne] at h
  obtain ⟨⟨⟨⟨⟨⟨h1, h2⟩, h3⟩, h4⟩, h5⟩, h6⟩, h7⟩ := h
  exact ⟨h1, h2, h3, h4, h5, h6, h7⟩
def okR (ds : List (Option Rec)) (r : Rec) : Bool :=
  scopeOk r.N r.ps (defScope r.st) && chkSs (fnT ds) r.N (defScope r.st) r.df.body (defBody r.st) && r.df.n == r.N.length && r.ps.length == r.df.ar + (if r.df.st = true then 1 else 0)
/-- what the heap says of the defs -/
structure FnF (K : PySem.W.Frag) (mg : Str → Option Value) (r : Rec) : Prop where
  ex : ∃ f fd, Fun K r.x r.x r.st f fd ∧ mg r.x = some (.ref f) ∧ Binds K fd r.ps []
section
variable {P : Program} {w : World} {K : PySem.W.Frag} {mg : Str → Option Value} {EC : Ex → Addr}
theorem start_get {N : List Str} {vs : List V} (h : vs.length ≤ N.length) (i : Nat) : (L2.start N vs)[i]? = if i < vs.length then (vs[i]?).map some else if i < N.length then some none else none := by
  unfold L2.start
  by_cases hi : i < vs.length
  · rw [if_pos hi, List.getElem?_append_left (by simpa using hi), List.getElem?_map]
  · rw [if_neg hi, List.getElem?_append_right (by simpa using hi), List.getElem?_replicate, List.length_map]
    by_cases h2 : i < N.length
    · rw [if_pos h2, if_pos (by omega)]
    · rw [if_neg h2, if_neg (by omega)]
/-- the names of a def at its start -/
def env0 (n : Nat) (st : Bool) (ds : List PyData) : Env := (if st = true then [Slot.st] else []) ++ ds.map Slot.fz ++ List.replicate (n - (if st = true then 1 else 0) - ds.length) Slot.no
theorem iv_start {N : List Str} {st : Bool} {G H : Hp} {sa : Addr} {lv : List V} {ls ds : List PyData} {ws : List V} (s : Same G H) (ga : G sa = none) (ha : H sa = some (.lst lv)) (rl : Reps G lv ls) (rw' : Reps G ws ds) (hl : ds.length + (if st = true then 1 else 0) ≤ N.length) :
    IV ⟨G, H, sa⟩ G H (L2.start N ((if st = true then [V.ref sa] else []) ++ ws)) (env0 N.length st ds) ls := by
  have hw := rw'.length
  have hvs : ((if st = true then [V.ref sa] else []) ++ ws).length ≤ N.length := by
    rw [List.length_append]
    cases st <;> simp at hl ⊢ <;> omega
  have get : ∀ (i : Nat) (t : Slot), (env0 N.length st ds)[i]? = some t → SlotOk ⟨G, H, sa⟩ G H (L2.start N ((if st = true then [V.ref sa] else []) ++ ws)) i t ∧ ∀ d, t ≠ .ow d := fun i t e => by
    unfold env0 at e
    unfold SlotOk
    have hd : ∀ (j : Nat) (t : Slot), (ds.map Slot.fz ++ List.replicate (N.length - (if st = true then 1 else 0) - ds.length) Slot.no)[j]? = some t → (∃ d, ds[j]? = some d ∧ t = .fz d) ∨ t = .no := fun j t e => by
      by_cases hj : j < ds.length
      · rw [List.getElem?_append_left (by simpa using hj), List.getElem?_map] at e
        obtain ⟨d, h1, h2⟩ := Option.map_eq_some_iff.mp e
        exact .inl ⟨d, h1, h2.symm⟩
      · rw [List.getElem?_append_right (by simpa using hj), List.getElem?_replicate] at e
        by_cases hq : j - (ds.map Slot.fz).length < N.length - (if st = true then 1 else 0) - ds.length
        · rw [if_pos hq] at e; exact .inr (Option.some.inj e).symm
        · rw [if_neg hq] at e; cases e
    cases st with
    | true =>
      simp only [if_true] at e hvs hl ⊢
      cases i with
      | zero =>
        rw [show ([Slot.st] ++ ds.map Slot.fz ++ List.replicate (N.length - 1 - ds.length) Slot.no)[0]? = some Slot.st from rfl] at e
        cases e
        refine ⟨?_, fun d z => by cases z⟩
        show (L2.start N ([V.ref sa] ++ ws))[0]? = _
        rw [start_get hvs, if_pos (by simp)]
        rfl
      | succ i =>
        have e : (ds.map Slot.fz ++ List.replicate (N.length - 1 - ds.length) Slot.no)[i]? = some t := e
        rcases hd i t e with ⟨d, h1, rfl⟩ | rfl
        · refine ⟨?_, fun d z => by cases z⟩
          obtain ⟨v, h2, h3⟩ := rw'.get h1
          refine ⟨v, ?_, h3⟩
          have hi : i < ws.length := (List.getElem?_eq_some_iff.mp h2).1
          rw [start_get hvs, if_pos (by simp; exact hi)]
          show (ws[i]?).map some = _
          rw [h2]
          rfl
        · exact ⟨trivial, fun d z => by cases z⟩
    | false =>
      simp only [if_neg Bool.false_ne_true, List.nil_append] at e hvs hl ⊢
      have e : (ds.map Slot.fz ++ List.replicate (N.length - 0 - ds.length) Slot.no)[i]? = some t := e
      rcases hd i t e with ⟨d, h1, rfl⟩ | rfl
      · refine ⟨?_, fun d z => by cases z⟩
        obtain ⟨v, h2, h3⟩ := rw'.get h1
        refine ⟨v, ?_, h3⟩
        have hi : i < ws.length := (List.getElem?_eq_some_iff.mp h2).1
        rw [start_get hvs, if_pos hi, h2]
        rfl
      · exact ⟨trivial, fun d z => by cases z⟩
  refine ⟨⟨s, fun _ _ => rfl, fun _ _ _ e => e, ⟨lv, ha, rl⟩, ga, by show H sa ≠ none; rw [ha]; simp⟩, fun i t e => (get i t e).1, fun i j d d' _ e _ => absurd rfl ((get i _ e).2 d), ?_⟩
  unfold L2.start env0
  simp only [List.length_append, List.length_map, List.length_replicate]
  cases st <;> simp at hl ⊢ <;> omega
theorem all_ok {ds : List (Option Rec)} (fuel : Nat) (X : ExF K mg EC) (hb : ∀ x ∈ bnames, mg x = none) (hok : ∀ (i : Nat) (r : Rec), atR ds i = some r → okR ds r = true) (hF : ∀ (i : Nat) (r : Rec), atR ds i = some r → FnF K mg r) (base : Heap) :
    ∀ (l i : Nat) (r : Rec) (f : Addr) (fd : FuncData), atR ds i = some r → Fun K r.x r.x r.st f fd → FnOk P w K mg base (L2.CX P w) l f fd r.ps (SpF EC r.df.st (run (DT ds) fuel l i)) := by
  intro l
  induction l with
  | zero =>
    intro i r f fd hi F
    have no : ∀ vs H Q E, ¬ SpF EC r.df.st (run (DT ds) fuel 0 i) vs H Q E := fun vs H Q E ⟨G, ls, sa, ws, dd, lv, _, _, _, _, _, _, o⟩ => o
    exact ⟨fun vs H Q E h => (no vs H Q E h).elim, fun A outer s H args us vs Q E _ _ _ _ h => (no vs H Q E h).elim⟩
  | succ l ih =>
    intro i r f fd hi F
    have ok := hok i r hi
    simp only [okR, Bool.and_eq_true, beq_iff_eq] at ok
    obtain ⟨⟨⟨hs, hc⟩, hn⟩, hp⟩ := ok
    have hD : DT ds i = some r.df := by unfold DT; rw [hi]; rfl
    have hrun : ∀ dd ls, run (DT ds) fuel (l + 1) i dd ls = if dd.length = r.df.ar then runB (run (DT ds) fuel l) fuel r.df.n r.df.body r.df.st dd ls else .stuck := fun dd ls => by
      show (match DT ds i with | none => M.stuck | some d => if dd.length = d.ar then runB (run (DT ds) fuel l) fuel d.n d.body d.st dd else M.stuck) ls = _
      rw [hD]
      dsimp only
      split <;> rfl
    have len : ∀ vs H Q E, SpF EC r.df.st (run (DT ds) fuel (l + 1) i) vs H Q E → vs.length = r.ps.length := by
      rintro vs H Q E ⟨G, ls, sa, ws, dd, lv, s, ga, ha, rl, rfl, rd, o⟩
      rw [hrun] at o
      by_cases hl : dd.length = r.df.ar
      · rw [hp, List.length_append, rd.length, hl]
        cases r.df.st <;> simp <;> omega
      · rw [if_neg hl] at o; exact o.elim
    have S : FnScope r.N r.ps (defScope r.st) := scope_of hs
    refine F.okX S len fun cdv A outer s H vs Q E hr hsp => ?_
    have hlen := len vs H Q E hsp
    obtain ⟨G, ls, sa, ws, dd, lv, sb, ga, ha, rl, rfl, rd, o⟩ := hsp
    rw [hrun] at o
    have hl : dd.length = r.df.ar := by
      by_cases hl : dd.length = r.df.ar
      · exact hl
      · rw [if_neg hl] at o; exact o.elim
    rw [if_pos hl] at o
    have hpl : r.ps.length ≤ r.N.length := by have := congrArg List.length S.pre; rw [List.length_take] at this; omega
    have iv : IV ⟨G, H, sa⟩ G H (L2.start r.N ((if r.df.st = true then [V.ref sa] else []) ++ ws)) (env0 r.N.length r.df.st dd) ls := iv_start sb ga ha rl rd (by rw [hl, ← hp]; exact hpl)
    have tk : Takes (cxOf (L2.CX P w) P w K mg base r.N r.x (defScope r.st) f cdv A outer s H E) (fun cls d _ H => E cls d H) := takes_of rfl rfl rfl rfl
    have C : ConS (cxOf (L2.CX P w) P w K mg base r.N r.x (defScope r.st) f cdv A outer s H E) (fun cls d _ H => E cls d H) EC (fnT ds) (run (DT ds) fuel l) l :=
      ⟨⟨rfl, S.nd, hr, tk, hb, fun j x st hj => by
        unfold fnT at hj
        obtain ⟨r', h1, h2⟩ := Option.map_eq_some_iff.mp hj
        cases h2
        obtain ⟨f', fd', F', g', b'⟩ := (hF j r' h1).ex
        exact ⟨f', fd', r'.ps, ih j r' f' fd' h1 F', g', F'.kp, b'⟩⟩, passes_of rfl, fun _ => rfl, rfl, rfl, S.kind, X⟩
    refine ⟨_, sSs (fnT ds) r.N ⟨G, H, sa⟩ EC (run (DT ds) fuel l) l fuel r.df.body C rfl rfl hc, G, env0 r.N.length r.df.st dd, ls, iv, ?_⟩
    unfold runB at o
    have o : Out (M.bind (exs (run (DT ds) fuel l) fuel r.df.body (env0 r.df.n r.df.st dd)) (fun r => match r with
      | .nx _ => M.pure .none
      | .ret d => M.pure d
      | _ => M.stuck) ls) _ _ := o
    rw [hn] at o
    unfold M.bind at o
    have ext : ∀ {G' H' : Hp} {ls' : List PyData}, IW ⟨G, H, sa⟩ G' H' ls' → Ext sa G H G' H' ∧ ∃ lv', H' sa = some (.lst lv') ∧ Reps G' lv' ls' := fun {G' H' ls'} iw => ⟨⟨iw.sub, iw.gk, iw.hk⟩, iw.st⟩
    show Out (exs (run (DT ds) fuel l) fuel r.df.body (env0 r.N.length r.df.st dd) ls) (okS ⟨G, H, sa⟩ { nx := fun _ H' => Q .non H', rt := Q } G) (exS ⟨G, H, sa⟩ (wxOf (fun cls d x H => E cls d H) EC))
    cases e : exs (run (DT ds) fuel l) fuel r.df.body (env0 r.N.length r.df.st dd) ls with
    | ok a ls' =>
      rw [e] at o
      cases a with
      | nx ρ' => exact fun G' σ' H' _ iv' => let ⟨h1, h2⟩ := ext iv'.iw; o .non G' H' h1 h2 .non
      | ret d => exact fun v G' H' iw rv => let ⟨h1, h2⟩ := ext iw; o v G' H' h1 h2 rv
      | brk ρ' => exact o.elim
      | cnt ρ' => exact o.elim
    | exn x ls' =>
      rw [e] at o
      exact fun σ' G' H' iw => let ⟨h1, h2⟩ := ext iw; o G' H' h1 h2
    | stuck => rw [e] at o; exact o
end
end Pv

set_option maxRecDepth 100000
set_option maxHeartbeats 2000000
/-! The law's own def. -/
namespace Pv
open PySem PySem.W L2
def spLaw (K : PySem.W.Frag) : Sp := fun vs H Q _ => ∃ (a : Addr) (ns : List Int), vs = [.ref a] ∧ SqL K H a (ns.map V.int) ∧ ns.length ≤ 63 ∧ ∀ H', Q (.bl true) H'
/-- state = [list(script), 0, 0, 1], and what follows -/
def lawV : List Stmt → Option (Str × Str × Str × List Stmt)
  | .Assign [.Name y _] (.List [.Call (.Name f _) [.Name x _] [] _, .Constant (.int a) _ _, .Constant (.int b) _ _, .Constant (.int c) _ _] _) _ :: rest => if a == 0 && b == 0 && c == 1 then some (y, f, x, rest) else none
  | _ => none
theorem lawV_of {sts rest : List Stmt} {y f x : Str} (h : lawV sts = some (y, f, x, rest)) : ∃ p1 p2 p3 p4 p5 p6 p7 p8 p9 j1 j2 j3,
    sts = .Assign [.Name y p1] (.List [.Call (.Name f p2) [.Name x p3] [] p4, .Constant (.int 0) j1 p5, .Constant (.int 0) j2 p6, .Constant (.int 1) j3 p7] p8) p9 :: rest := by
  unfold lawV at h
  split at h
  · split at h
    · rename_i hc
      simp only [Bool.and_eq_true, beq_iff_eq] at hc
      obtain ⟨⟨rfl, rfl⟩, rfl⟩ := hc
      cases h
      exact ⟨_, _, _, _, _, _, _, _, _, _, _, _, rfl⟩
    · cases h
  · cases h
def okL (ds : List (Option Rec)) (N : List Str) (i : Nat) (b : Ss) (st : Stmt) : Bool :=
  scopeOk N ["script"] (defScope st) && N[0]? == some ("script" : Str) && i != 0 && (match lawV (defBody st) with
    | some (y, f, x, rest) => locOk N (defScope st) i y && x == "script" && nameOk N (defScope st) 0 x && f == "list" && globOk (defScope st) f && chkSs (fnT ds) N (defScope st) b rest
    | none => false)
/-- the state of a law as it begins -/
def ls0 (ns : List Int) : List PyData := [.list (ns.map .int), .int 0, .int 0, .int 1]
def envL (n i : Nat) : Env := (List.replicate n Slot.no).set i .st
section
variable {P : Program} {w : World} {K : PySem.W.Frag} {mg : Str → Option Value} {EC : Ex → Addr}
theorem law_ok {ds : List (Option Rec)} (fuel l : Nat) (X : ExF K mg EC) (hb : ∀ x ∈ bnames, mg x = none) (hok : ∀ (i : Nat) (r : Rec), atR ds i = some r → okR ds r = true) (hF : ∀ (i : Nat) (r : Rec), atR ds i = some r → FnF K mg r) (base : Heap)
    {N : List Str} {i : Nat} {b : Ss} {st : Stmt} {f : Addr} {fd : FuncData} (hL : okL ds N i b st = true) (F : Fun K "law" "law" st f fd)
    (hrun : ∀ ns : List Int, ns.length ≤ 63 → ∃ ls', exs (run (DT ds) fuel l) fuel b (envL N.length i) (ls0 ns) = .ok (.ret (.bool true)) ls') :
    FnOk P w K mg base (L2.CX P w) (l + 1) f fd ["script"] (spLaw K) := by
  simp only [okL, Bool.and_eq_true, beq_iff_eq, bne_iff_ne] at hL
  obtain ⟨⟨⟨hs, h0⟩, hi0⟩, hL⟩ := hL
  cases hv : lawV (defBody st) with
  | none => rw [hv] at hL; cases hL
  | some v =>
    obtain ⟨y, fl, x, rest⟩ := v
    rw [hv] at hL
    have hL : (locOk N (defScope st) i y && x == "script" && nameOk N (defScope st) 0 x && fl == "list" && globOk (defScope st) fl && chkSs (fnT ds) N (defScope st) b rest) = true := hL
    simp only [Bool.and_eq_true, beq_iff_eq] at hL
    obtain ⟨⟨⟨⟨⟨g1, rfl⟩, g2⟩, rfl⟩, g3⟩, g4⟩ := hL
    obtain ⟨p1, p2, p3, p4, p5, p6, p7, p8, p9, j1, j2, j3, hbody⟩ := lawV_of hv
    have S : FnScope N ["script"] (defScope st) := scope_of hs
    refine F.okX S (fun vs H Q E ⟨a, ns, e, _⟩ => by rw [e]; rfl) fun cdv A outer s H vs Q E hr hsp => ?_
    obtain ⟨a, ns, rfl, hS, hn, q⟩ := hsp
    have tk : Takes (cxOf (L2.CX P w) P w K mg base N "law" (defScope st) f cdv A outer s H E) (fun cls d _ H => E cls d H) := takes_of rfl rfl rfl rfl
    have C : ConS (cxOf (L2.CX P w) P w K mg base N "law" (defScope st) f cdv A outer s H E) (fun cls d _ H => E cls d H) EC (fnT ds) (run (DT ds) fuel l) l :=
      ⟨⟨rfl, S.nd, hr, tk, hb, fun j x st hj => by
        unfold fnT at hj
        obtain ⟨r', h1, h2⟩ := Option.map_eq_some_iff.mp hj
        cases h2
        obtain ⟨f', fd', F', g', b'⟩ := (hF j r' h1).ex
        exact ⟨f', fd', r'.ps, all_ok fuel X hb hok hF base l j r' f' fd' h1 F', g', F'.kp, b'⟩⟩, passes_of rfl, fun _ => rfl, rfl, rfl, S.kind, X⟩
    obtain ⟨k1, k2, k3⟩ := locOk_of C rfl rfl g1
    obtain ⟨k4, k5, k6, k7⟩ := nameOk_of (X := cxOf (L2.CX P w) P w K mg base N "law" (defScope st) f cdv A outer s H E) rfl rfl g2
    rw [hbody]
    have he : PE (cxOf (L2.CX P w) P w K mg base N "law" (defScope st) f cdv A outer s H E) (.List [.Call (.Name "list" p2) [.Name "script" p3] [] p4, .Constant (.int 0) j1 p5, .Constant (.int 0) j2 p6, .Constant (.int 1) j3 p7] p8) _ :=
      pe_lst (pa_cons (pe_callTy call_list_of (globOk_of rfl g3).1 (C.con.bn _ (by decide)) (by decide +kernel) (pa_cons (pe_var k4 k5 k6 k7) pa_nil)) (pa_cons pe_int (pa_cons pe_int (pa_cons pe_int pa_nil))))
    refine ⟨_, pss_cons (ps_set C.con.nd k1 k2 he rfl k3) (u := fun D σ H => ∃ w', Ts w' (wxOf (fun cls d _ H => E cls d H) EC) (fun ρ => exs (run (DT ds) fuel l) fuel b ρ) D σ H)
      ⟨fun pins s σ H D I ⟨w', h⟩ => (sSs (fnT ds) N w' EC (run (DT ds) fuel l) l fuel b C rfl rfl g4).run pins s σ H D I h⟩, ?_⟩
    have hN : 0 < N.length := (List.getElem?_eq_some_iff.mp h0).1
    have hiN : i < N.length := (List.getElem?_eq_some_iff.mp k1).1
    refine ⟨.ref a, ?_, ⟨a, ns.map V.int, rfl, .inl hS, fun c nc => ⟨by show 4 ≤ sizeLine; decide, fun p np => ?_⟩⟩⟩
    · show (L2.start N [V.ref a])[0]? = _
      rw [start_get (by simp; omega), if_pos (by simp)]
      rfl
    have hpc : c ≠ p := fun z => by rw [z, upd_same] at np; cases np
    refine ⟨⟨upd (fun _ => none) c (.lst (ns.map V.int)), upd (upd H c (.lst (ns.map V.int))) p (.lst [.ref c, .int 0, .int 0, .int 1]), p⟩, upd (fun _ => none) c (.lst (ns.map V.int)), envL N.length i, ls0 ns, ?_, ?_⟩
    · have sb : Same (upd (fun _ => none) c (.lst (ns.map V.int))) (upd (upd H c (.lst (ns.map V.int))) p (.lst [.ref c, .int 0, .int 0, .int 1])) := fun u o e => by
        by_cases hu : u = c
        · subst hu
          rw [upd_same] at e
          rw [upd_ne hpc, upd_same]
          exact e
        · rw [upd_ne hu] at e; cases e
      have len : ((L2.start N [V.ref a]).set i (some (V.ref p))).length = N.length := by
        rw [List.length_set]
        unfold L2.start
        simp
        omega
      refine ⟨⟨sb, fun _ _ => rfl, fun _ _ _ e => e, ⟨_, upd_same, .cons (.lst upd_same (Reps.of_ints ns)) (.cons (.int 0) (.cons (.int 0) (.cons (.int 1) .nil)))⟩, (by show (upd (fun _ => none) c (HO.lst (ns.map V.int)) : Hp) p = none; rw [upd_ne (Ne.symm hpc)]), by show upd _ p _ p ≠ none; rw [upd_same]; simp⟩, fun j t e => ?_, fun j k d d' _ e _ => ?_, by rw [len]; unfold envL; simp⟩
      · by_cases hj : i = j
        · subst hj
          unfold envL at e
          rw [List.getElem?_set_self (by simpa using hiN)] at e
          cases e
          show ((L2.start N [V.ref a]).set i (some (V.ref p)))[i]? = _
          rw [List.getElem?_set_self (by rw [← len, List.length_set] at hiN; exact hiN)]
        · unfold envL at e
          rw [List.getElem?_set_ne hj, List.getElem?_replicate] at e
          by_cases hq : j < N.length
          · rw [if_pos hq] at e; cases e; trivial
          · rw [if_neg hq] at e; cases e
      · exfalso
        unfold envL at e
        by_cases hj : i = j
        · subst hj
          rw [List.getElem?_set_self (by simpa using hiN)] at e
          cases e
        · rw [List.getElem?_set_ne hj, List.getElem?_replicate] at e
          by_cases hq : j < N.length
          · rw [if_pos hq] at e; cases e
          · rw [if_neg hq] at e; cases e
    · obtain ⟨ls', e⟩ := hrun ns hn
      show Out (exs (run (DT ds) fuel l) fuel b (envL N.length i) (ls0 ns)) _ _
      rw [e]
      intro v G' H' iw r
      cases r
      exact q H'
end
end Pv

set_option maxRecDepth 100000
set_option maxHeartbeats 2000000
/-! What the top has written, as the engine wants it. -/
namespace Pv
open PySem PySem.W L2
section
variable {l : PySem.W.OpenLaw} {w : World} {K : PySem.W.Frag} {h : Heap} {mg : Str → Option Value}
/-- one def -/
theorem fnF_mk (X : K.In h) (G : h.Ns mainGlobals mg) (r : Rec) {f : Addr} {od an : Option Addr} {sl : Array (Option Value)} {oc kV dc pm cd ct : Value}
    (a : PySem.W.nsIn K mainGlobals r.x = some (some (.ref f))) (lk : K.lookup f = some ⟨oc, od, .func (PySem.W.fnOf r.x r.x (defArgs r.st) (defBody r.st) (defScope r.st) .none kV dc pm an cd ct), sl⟩) (c : PySem.W.codeIn K cd r.x = true) (k : PySem.W.keepIn K (.ref f) = true)
    (b : ∀ (kV doc pm : Value) (an : Option Addr) (cdv ct : Value) (us : List Value), us.length = r.ps.length → bindArgs (PySem.W.fnOf r.x r.x (defArgs r.st) (defBody r.st) (defScope r.st) .none kV doc pm an cdv ct) ⟨us, []⟩ = pure (r.ps.zip us)) : FnF K mg r :=
  ⟨f, _, fun_mk lk c k, PySem.W.mg_of X G a, (fun_mk (st := r.st) lk c k).binds b⟩
/-- one of the two errors -/
structure ExG (K : PySem.W.Frag) (C : Addr) : Prop where
  kp : PySem.W.keepIn K (.ref C) = true
  isv : PySem.W.kitOne K (.ref C) (.type "ValueError") = some true
  hg : PySem.W.findIn K (.ref C) "__getattribute__" = some (some (.builtin "BaseException.__getattribute__"))
  hk : PySem.W.findIn K (.ref C) "__getattr__" = some none
  sub : PySem.W.subIn K (.ref C) (.type "BaseException") = some true
  hd : PySem.W.hasDictIn K C = true
  ha : PySem.W.findIn K (.ref C) "__class__" = some (some (.builtin "object.__class__"))
  hm : PySem.W.mroIn K C (.type "object") = some true
  ty : PySem.W.typeIn K (.ref C) = some (.type "type")
  ex : PySem.W.excIn K C [.type "ValueError", .type "Exception", .type "BaseException", .type "object"] "ValueError.__new__" = true
def ecOf (C1 C2 : Addr) : Ex → Addr
  | .unfit => C1
  | .wide => C2
theorem exF_mk (X : K.In h) (G : h.Ns mainGlobals mg) {C1 C2 : Addr} (a1 : PySem.W.nsIn K mainGlobals "UnfitPlan" = some (some (.ref C1))) (a2 : PySem.W.nsIn K mainGlobals "TooWide" = some (some (.ref C2))) (g1 : ExG K C1) (g2 : ExG K C2)
    (hn : PySem.W.specialIn K (.builtin "object.__class__") "__get__" = some (some (.builtin "getset_descriptor.__get__"))) (ht : PySem.W.takesIn K (.builtin "object.__class__") = some true)
    (s11 : PySem.W.subIn K (.ref C1) (.ref C1) = some true) (s12 : PySem.W.subIn K (.ref C1) (.ref C2) = some false) (s21 : PySem.W.subIn K (.ref C2) (.ref C1) = some false) (s22 : PySem.W.subIn K (.ref C2) (.ref C2) = some true)
    (z1 : PySem.W.nsIn K mainGlobals "ValueError" = some none) (z2 : PySem.W.nsIn K mainGlobals "isinstance" = some none) : ExF K mg (ecOf C1 C2) where
  nm := fun | .unfit => PySem.W.mg_of X G a1 | .wide => PySem.W.mg_of X G a2
  kp := fun | .unfit => g1.kp | .wide => g2.kp
  exm := fun x y => by
    cases y
    · exact exm_ref g1.sub g1.hd g1.ty (by cases x <;> assumption)
    · exact exm_ref g2.sub g2.hd g2.ty (by cases x <;> assumption)
  isv := fun | .unfit => g1.isv | .wide => g2.isv
  exc := fun x => by
    cases x
    · exact ⟨g1.hg, g1.hk, g1.sub, g1.hd, g1.ha, hn, ht, g1.hm⟩
    · exact ⟨g2.hg, g2.hk, g2.sub, g2.hd, g2.ha, hn, ht, g2.hm⟩
  sub := fun | .unfit => g1.sub | .wide => g2.sub
  ty := fun | .unfit => g1.ty | .wide => g2.ty
  ex := fun | .unfit => g1.ex | .wide => g2.ex
  nov := PySem.W.mg_none_of X G z1
  noi := PySem.W.mg_none_of X G z2
/-- the names of the builtins are not the text's own -/
theorem bn_mk (X : K.In h) (G : h.Ns mainGlobals mg) (z : ∀ x ∈ bnames, PySem.W.nsIn K mainGlobals x = some none) : ∀ x ∈ bnames, mg x = none := fun x hx => PySem.W.mg_none_of X G (z x hx)
theorem law_mk (X : K.In h) (G : h.Ns mainGlobals mg) {fa : Addr} (hfa : mg "law" = some (.ref fa)) {EC : Ex → Addr} (ef : ExF K mg EC) (hb : ∀ x ∈ bnames, mg x = none) {ds : List (Option Rec)} (fuel lv : Nat)
    (hok : ∀ (i : Nat) (r : Rec), atR ds i = some r → okR ds r = true) (hF : ∀ (i : Nat) (r : Rec), atR ds i = some r → FnF K mg r)
    {N : List Str} {i : Nat} {b : Ss} {st : Stmt} {f : Addr} {od an : Option Addr} {sl : Array (Option Value)} {oc kV dc pm cd ct : Value} (hL : okL ds N i b st = true)
    (a : PySem.W.nsIn K mainGlobals "law" = some (some (.ref f))) (lk : K.lookup f = some ⟨oc, od, .func (PySem.W.fnOf "law" "law" (defArgs st) (defBody st) (defScope st) .none kV dc pm an cd ct), sl⟩) (c : PySem.W.codeIn K cd "law" = true) (k : PySem.W.keepIn K (.ref f) = true)
    (hbind : ∀ (s : Shared) (v : Value), BindsTo s (PySem.W.fnOf "law" "law" (defArgs st) (defBody st) (defScope st) .none kV dc pm an cd ct) ⟨[v], []⟩ [("script", v)])
    (hrun : ∀ ns : List Int, ns.length ≤ 63 → ∃ ls', exs (run (DT ds) fuel lv) fuel b (envL N.length i) (ls0 ns) = .ok (.ret (.bool true)) ls') :
    ∃ fd : FuncData, (∀ (s : Shared) (v : Value), BindsTo s fd ⟨[v], []⟩ [("script", v)]) ∧ ∀ base : Heap, K.In base → base.Ns mainGlobals mg → FnOk l.prog w K mg base (L2.CX l.prog w) (lv + 1) fa fd ["script"] (spLaw K) := by
  have e := hfa.symm.trans (PySem.W.mg_of X G a)
  cases e
  exact ⟨_, hbind, fun base _ _ => law_ok fuel lv ef hb hok hF base hL (fun_mk (st := st) lk c k) hrun⟩
end
end Pv

set_option maxRecDepth 100000
/-! The laws' shared defs, in the small Python (printed by gen.py -h). -/
namespace Pv.Hn
def b_w_next : Ss :=
    (.cons (.ite (.and (.cmp .Eq (.sid 0 (.cst (.int 2))) (.cst (.int 0))) (.cmp .Lt (.sid 0 (.cst (.int 1))) (.fn1 .len (.sid 0 (.cst (.int 0)))))) (.cons (.asg (.nm 2) (.idx (.sid 0 (.cst (.int 0))) (.sid 0 (.cst (.int 1)))))
    (.cons (.augX 0 .Add (.cst (.int 1)) (.cst (.int 1)))
    (.cons (.ite (.cmp .GtE (.var 2) (.bin .Pow (.cst (.int 10)) (.cst (.int 18)))) (.cons (.setX 0 (.cst (.int 2)) (.var 2))
    .nil) (.cons (.setX 0 (.cst (.int 3)) (.bin .Mod (.fn1 .int (.bin .Add (.bin .Add (.bin .Mult (.sid 0 (.cst (.int 3))) (.cst (.int 48271))) (.bin .Mod (.fn1 .int (.var 2)) (.cst (.int 2147483647)))) (.cst (.int 7)))) (.cst (.int 2147483647))))
    .nil))
    .nil))) .nil)
    (.cons (.ite (.cmp .Gt (.sid 0 (.cst (.int 2))) (.cst (.int 0))) (.cons (.asg (.nm 3) (.bin .Mod (.fn1 .int (.sid 0 (.cst (.int 2)))) (.var 1)))
    (.cons (.setX 0 (.cst (.int 2)) (.bin .FloorDiv (.sid 0 (.cst (.int 2))) (.var 1)))
    (.cons (.ret (.var 3))
    .nil))) .nil)
    (.cons (.setX 0 (.cst (.int 3)) (.bin .Mod (.fn1 .int (.bin .Add (.bin .Mult (.sid 0 (.cst (.int 3))) (.cst (.int 69621))) (.cst (.int 12345)))) (.cst (.int 2147483647))))
    (.cons (.ret (.bin .Mod (.fn1 .int (.bin .FloorDiv (.sid 0 (.cst (.int 3))) (.cst (.int 7)))) (.var 1)))
    .nil))))
abbrev N_b_w_next : List PySem.Str := ["state", "limit", "cell", "value"]
abbrev P_b_w_next : List PySem.Str := ["state", "limit"]
abbrev D_b_w_next : Df := ⟨4, true, 1, b_w_next⟩
def b_w_same : Ss :=
    (.cons (.ite (.cmp .Is (.var 1) (.cst .none)) (.cons (.ret (.cmp .Is (.var 0) (.cst .none)))
    .nil) .nil)
    (.cons (.ite (.isi (.var 1) .bool) (.cons (.ret (.and (.isi (.var 0) .bool) (.cmp .Eq (.var 0) (.var 1))))
    .nil) .nil)
    (.cons (.ite (.isi (.var 1) .int) (.cons (.ret (.and (.isi (.var 0) .int) (.and (.not (.isi (.var 0) .bool)) (.cmp .Eq (.var 0) (.var 1)))))
    .nil) .nil)
    (.cons (.ite (.isi (.var 1) .str) (.cons (.ret (.and (.isi (.var 0) .str) (.cmp .Eq (.var 0) (.var 1))))
    .nil) .nil)
    (.cons (.ite (.and (.isi (.var 1) .tuple) (.not (.isi (.var 0) .tuple))) (.cons (.ret (.cst (.bool false)))
    .nil) .nil)
    (.cons (.ite (.and (.isi (.var 1) .list) (.not (.isi (.var 0) .list))) (.cons (.ret (.cst (.bool false)))
    .nil) .nil)
    (.cons (.ite (.cmp .NotEq (.fn1 .len (.var 0)) (.fn1 .len (.var 1))) (.cons (.ret (.cst (.bool false)))
    .nil) .nil)
    (.cons (.for (.nm 2) (.rng1 (.fn1 .len (.var 1))) (.cons (.ite (.not (.own 1 none (.cons (.idx (.var 0) (.var 2)) (.cons (.idx (.var 1) (.var 2)) .nil)))) (.cons (.ret (.cst (.bool false)))
    .nil) .nil)
    .nil))
    (.cons (.ret (.cst (.bool true)))
    .nil)))))))))
abbrev N_b_w_same : List PySem.Str := ["actual", "expected", "k"]
abbrev P_b_w_same : List PySem.Str := ["actual", "expected"]
abbrev D_b_w_same : Df := ⟨3, false, 2, b_w_same⟩
def b_w_changed : Ss :=
    (.cons (.ite (.isi (.var 1) .bool) (.cons (.ret (.idx (.lst (.cons (.not (.var 1)) (.cons (.fn1 .int (.var 1)) .nil))) (.own 0 (some 0) (.cons (.cst (.int 2)) .nil))))
    .nil) .nil)
    (.cons (.ite (.or (.cmp .Is (.var 1) (.cst .none)) (.isi (.var 1) .int)) (.cons (.ret (.idx (.lst (.cons (.bin .Add (.or (.var 1) (.cst (.int 0))) (.cst (.int 1))) (.cons (.bin .Sub (.or (.var 1) (.cst (.int 0))) (.cst (.int 1))) (.cons (.cst (.int 0)) (.cons (.cst .none) (.cons (.cmp .Eq (.var 1) (.cst (.int 1))) (.cons (.fn1 .str (.var 1)) (.cons (.bin .Mult (.cst (.int 2)) (.or (.var 1) (.cst (.int 1)))) .nil)))))))) (.own 0 (some 0) (.cons (.cst (.int 7)) .nil))))
    .nil) .nil)
    (.cons (.ite (.isi (.var 1) .str) (.cons (.asg (.nm 5) (.lst (.cons (.slc (.var 1) (.some (.cst (.int 1))) .none) (.cons (.bin .Add (.var 1) (.cst (.str "a"))) (.cons (.rev (.var 1)) (.cons (.bin .Add (.cst (.str "b")) (.var 1)) (.cons (.cst (.str "")) (.cons (.slc (.var 1) .none (.some (.neg (.cst (.int 1))))) (.cons (.cst (.str "left")) (.cons (.cst (.int 3)) (.cons (.cst (.str "in")) .nil)))))))))))
    (.cons (.ret (.idx (.var 5) (.own 0 (some 0) (.cons (.fn1 .len (.var 5)) .nil))))
    .nil)) .nil)
    (.cons (.ite (.and (.isi (.var 1) .tuple) (.and (.cmp .NotEq (.var 1) (.tup .nil)) (.cmp .Gt (.own 0 (some 0) (.cons (.cst (.int 4)) .nil)) (.cst (.int 0))))) (.cons (.asg (.nm 2) (.own 0 (some 0) (.cons (.fn1 .len (.var 1)) .nil)))
    (.cons (.ret (.bin .Add (.bin .Add (.slc (.var 1) .none (.some (.var 2))) (.tup (.cons (.own 2 (some 0) (.cons (.idx (.var 1) (.var 2)) .nil)) .nil))) (.slc (.var 1) (.some (.bin .Add (.var 2) (.cst (.int 1)))) .none)))
    .nil)) .nil)
    (.cons (.ite (.not (.isi (.var 1) .tuple)) (.cons (.ret (.tup .nil))
    .nil) .nil)
    (.cons (.asg (.nm 2) (.own 0 (some 0) (.cons (.bin .Add (.fn1 .len (.var 1)) (.cst (.int 1))) .nil)))
    (.cons (.asg (.nm 3) (.own 0 (some 0) (.cons (.bin .Add (.fn1 .len (.var 1)) (.cst (.int 1))) .nil)))
    (.cons (.asg (.nm 4) (.lst (.cons (.bin .Add (.slc (.var 1) .none (.some (.var 2))) (.slc (.var 1) (.some (.bin .Add (.var 2) (.cst (.int 1)))) .none)) (.cons (.bin .Add (.var 1) (.slc (.var 1) .none (.some (.cst (.int 1))))) (.cons (.rev (.var 1)) (.cons (.bin .Add (.slc (.var 1) (.some (.var 2)) .none) (.slc (.var 1) .none (.some (.var 2)))) (.cons (.fn1 .list (.var 1)) (.cons (.slc (.var 1) .none (.some (.var 2))) (.cons (.tup .nil) (.cons (.bin .Add (.var 1) (.tup (.cons (.cst (.int 0)) .nil))) .nil))))))))))
    (.cons (.ite (.chn .Lt .Lt (.var 2) (.var 3) (.fn1 .len (.var 1))) (.cons (.asg (.nm 4) (.bin .Add (.var 4) (.lc [6] (.nm 6) (.rng1 (.cst (.int 3))) .none (.bin .Add (.bin .Add (.bin .Add (.bin .Add (.slc (.var 1) .none (.some (.var 2))) (.slc (.var 1) (.some (.var 3)) (.some (.bin .Add (.var 3) (.cst (.int 1)))))) (.slc (.var 1) (.some (.bin .Add (.var 2) (.cst (.int 1)))) (.some (.var 3)))) (.slc (.var 1) (.some (.var 2)) (.some (.bin .Add (.var 2) (.cst (.int 1)))))) (.slc (.var 1) (.some (.bin .Add (.var 3) (.cst (.int 1)))) .none)))))
    .nil) .nil)
    (.cons (.ret (.idx (.var 4) (.own 0 (some 0) (.cons (.fn1 .len (.var 4)) .nil))))
    .nil))))))))))
abbrev N_b_w_changed : List PySem.Str := ["state", "value", "k", "j", "more", "others", "turn"]
abbrev P_b_w_changed : List PySem.Str := ["state", "value"]
abbrev D_b_w_changed : Df := ⟨7, true, 1, b_w_changed⟩
def b_w_ints : Ss :=
    (.cons (.ite (.or (.isi (.var 0) .bool) (.not (.isi2 (.var 0) .int .tuple))) (.cons (.ret (.lst .nil))
    .nil) .nil)
    (.cons (.ite (.isi (.var 0) .int) (.cons (.ret (.lst (.cons (.var 0) .nil)))
    .nil) .nil)
    (.cons (.asg (.nm 1) (.lst .nil))
    (.cons (.for (.nm 2) (.seq (.var 0)) (.cons (.asg (.nm 1) (.bin .Add (.var 1) (.lc [3] (.nm 3) (.seq (.own 3 none (.cons (.var 2) .nil))) (.some (.cmp .NotIn (.var 3) (.var 1))) (.var 3))))
    .nil))
    (.cons (.ret (.var 1))
    .nil)))))
abbrev N_b_w_ints : List PySem.Str := ["value", "found", "part", "number"]
abbrev P_b_w_ints : List PySem.Str := ["value"]
abbrev D_b_w_ints : Df := ⟨4, false, 1, b_w_ints⟩
def b_w_exchanged : Ss :=
    (.cons (.ite (.or (.isi (.var 0) .bool) (.not (.isi2 (.var 0) .int .tuple))) (.cons (.ret (.var 0))
    .nil) .nil)
    (.cons (.ite (.isi (.var 0) .int) (.cons (.ret (.ite (.cmp .Eq (.var 0) (.var 1)) (.var 2) (.ite (.cmp .Eq (.var 0) (.var 2)) (.var 1) (.var 0))))
    .nil) .nil)
    (.cons (.ret (.fn1 .tuple (.lc [3] (.nm 3) (.seq (.var 0)) .none (.own 4 none (.cons (.var 3) (.cons (.var 1) (.cons (.var 2) .nil)))))))
    .nil)))
abbrev N_b_w_exchanged : List PySem.Str := ["value", "one", "other", "part"]
abbrev P_b_w_exchanged : List PySem.Str := ["value", "one", "other"]
abbrev D_b_w_exchanged : Df := ⟨4, false, 3, b_w_exchanged⟩
def b_w_cut : Ss :=
    (.cons (.ite (.or (.not (.isi (.var 1) .tuple)) (.cmp .Eq (.var 1) (.tup .nil))) (.cons (.ret (.var 1))
    .nil) .nil)
    (.cons (.ite (.cmp .NotEq (.lc [5] (.nm 5) (.seq (.var 1)) (.some (.not (.isi (.var 5) .str))) (.var 5)) (.lst .nil)) (.cons (.asg (.nm 2) (.own 0 (some 0) (.cons (.fn1 .len (.var 1)) .nil)))
    (.cons (.ret (.bin .Add (.bin .Add (.slc (.var 1) .none (.some (.var 2))) (.tup (.cons (.own 5 (some 0) (.cons (.idx (.var 1) (.var 2)) .nil)) .nil))) (.slc (.var 1) (.some (.bin .Add (.var 2) (.cst (.int 1)))) .none)))
    .nil)) .nil)
    (.cons (.asg (.nm 2) (.own 0 (some 0) (.cons (.fn1 .len (.var 1)) .nil)))
    (.cons (.asg (.nm 3) (.own 0 (some 0) (.cons (.bin .Add (.fn1 .len (.idx (.var 1) (.var 2))) (.cst (.int 1))) .nil)))
    (.cons (.asg (.nm 4) (.lst (.cons (.bin .Add (.bin .Add (.slc (.var 1) .none (.some (.var 2))) (.tup (.cons (.slc (.idx (.var 1) (.var 2)) .none (.some (.var 3))) (.cons (.slc (.idx (.var 1) (.var 2)) (.some (.var 3)) .none) .nil)))) (.slc (.var 1) (.some (.bin .Add (.var 2) (.cst (.int 1)))) .none)) (.cons (.bin .Add (.bin .Add (.slc (.var 1) .none (.some (.var 2))) (.tup (.cons (.fn1 .join (.slc (.var 1) (.some (.var 2)) (.some (.bin .Add (.var 2) (.cst (.int 2)))))) .nil))) (.slc (.var 1) (.some (.bin .Add (.var 2) (.cst (.int 2)))) .none)) .nil))))
    (.cons (.asg (.nm 4) (.bin .Add (.var 4) (.lst (.cons (.tup (.cons (.fn1 .join (.var 1)) .nil)) (.cons (.fn1 .tuple (.fn1 .join (.var 1))) (.cons (.bin .Add (.bin .Add (.slc (.var 1) .none (.some (.var 2))) (.tup (.cons (.cst (.str "")) .nil))) (.slc (.var 1) (.some (.var 2)) .none)) (.cons (.bin .Add (.bin .Add (.slc (.var 1) .none (.some (.var 2))) (.rev (.slc (.var 1) (.some (.var 2)) (.some (.bin .Add (.var 2) (.cst (.int 2))))))) (.slc (.var 1) (.some (.bin .Add (.var 2) (.cst (.int 2)))) .none)) .nil)))))))
    (.cons (.ret (.idx (.var 4) (.own 0 (some 0) (.cons (.fn1 .len (.var 4)) .nil))))
    .nil)))))))
abbrev N_b_w_cut : List PySem.Str := ["state", "value", "k", "at", "ways", "part"]
abbrev P_b_w_cut : List PySem.Str := ["state", "value"]
abbrev D_b_w_cut : Df := ⟨6, true, 1, b_w_cut⟩
def b_w_turned_about : Ss :=
    (.cons (.asg (.nm 2) (.own 3 none (.cons (.var 1) .nil)))
    (.cons (.asg (.nm 3) (.own 0 (some 0) (.cons (.cst (.int 5)) .nil)))
    (.cons (.ite (.and (.cmp .Lt (.var 3) (.cst (.int 3))) (.cmp .NotEq (.var 2) (.lst .nil))) (.cons (.asg (.nm 4) (.idx (.var 2) (.own 0 (some 0) (.cons (.fn1 .len (.var 2)) .nil))))
    (.cons (.asg (.nm 5) (.ite (.cmp .Eq (.var 3) (.cst (.int 0))) (.bin .Add (.var 4) (.cst (.int 1))) (.idx (.var 2) (.own 0 (some 0) (.cons (.fn1 .len (.var 2)) .nil)))))
    (.cons (.ret (.own 4 none (.cons (.var 1) (.cons (.var 4) (.cons (.var 5) .nil)))))
    .nil))) .nil)
    (.cons (.ite (.cmp .Eq (.var 3) (.cst (.int 3))) (.cons (.ret (.bin .Add (.slc (.var 1) .none (.some (.cst (.int 1)))) (.ite (.cmp .Gt (.fn1 .len (.var 1)) (.cst (.int 2))) (.own 5 (some 0) (.cons (.slc (.var 1) (.some (.cst (.int 1))) .none) .nil)) (.fn1 .tuple (.lc [8] (.nm 8) (.seq (.slc (.var 1) (.some (.cst (.int 1))) .none)) .none (.own 5 (some 0) (.cons (.var 8) .nil)))))))
    .nil) .nil)
    (.cons (.asg (.tp (.cons (.nm 6) (.cons (.nm 7) .nil))) (.tup (.cons (.own 0 (some 0) (.cons (.fn1 .len (.var 1)) .nil)) (.cons (.own 0 (some 0) (.cons (.fn1 .len (.var 1)) .nil)) .nil))))
    (.cons (.ite (.and (.cmp .Eq (.fn1 .len (.var 1)) (.cst (.int 2))) (.and (.isi (.idx (.var 1) (.cst (.int 1))) .tuple) (.cmp .NotEq (.idx (.var 1) (.cst (.int 1))) (.tup .nil)))) (.cons (.asg (.tp (.cons (.nm 6) (.cons (.nm 7) .nil))) (.tup (.cons (.own 0 (some 0) (.cons (.fn1 .len (.idx (.var 1) (.cst (.int 1)))) .nil)) (.cons (.own 0 (some 0) (.cons (.fn1 .len (.idx (.var 1) (.cst (.int 1)))) .nil)) .nil))))
    (.cons (.ret (.tup (.cons (.idx (.var 1) (.cst (.int 0))) (.cons (.bin .Add (.bin .Add (.slc (.idx (.var 1) (.cst (.int 1))) .none (.some (.var 6))) (.slc (.idx (.var 1) (.cst (.int 1))) (.some (.var 7)) (.some (.bin .Add (.var 7) (.cst (.int 1)))))) (.slc (.idx (.var 1) (.cst (.int 1))) (.some (.bin .Add (.var 6) (.cst (.int 1)))) .none)) .nil))))
    .nil)) .nil)
    (.cons (.ret (.ite (.and (.cmp .Gt (.var 6) (.cst (.int 0))) (.cmp .Gt (.var 7) (.cst (.int 0)))) (.bin .Add (.bin .Add (.slc (.var 1) .none (.some (.var 6))) (.slc (.var 1) (.some (.var 7)) (.some (.bin .Add (.var 7) (.cst (.int 1)))))) (.slc (.var 1) (.some (.bin .Add (.var 6) (.cst (.int 1)))) .none)) (.var 1)))
    .nil)))))))
abbrev N_b_w_turned_about : List PySem.Str := ["state", "told", "numbers", "pick", "one", "other", "k", "j", "part"]
abbrev P_b_w_turned_about : List PySem.Str := ["state", "told"]
abbrev D_b_w_turned_about : Df := ⟨9, true, 1, b_w_turned_about⟩
def b_w_odd : Ss :=
    (.cons (.asg (.nm 2) (.lst (.cons (.cst .none) (.cons (.cst (.str "")) (.cons (.cst (.str "yes")) (.cons .dct (.cons (.tup .nil) (.cons (.slc (.var 1) .none (.some (.cst (.int 1)))) (.cons (.fn1 .list (.var 1)) (.cons (.bin .Add (.var 1) (.tup (.cons (.cst (.int 0)) .nil))) (.cons (.bin .Add (.tup (.cons (.lst (.cons (.idx (.var 1) (.cst (.int 0))) .nil)) .nil)) (.slc (.var 1) (.some (.cst (.int 1))) .none)) (.cons (.bin .Add (.tup (.cons (.cst (.str "none such")) .nil)) (.slc (.var 1) (.some (.cst (.int 1))) .none)) (.cons (.cst (.int 7)) .nil)))))))))))))
    (.cons (.asg (.nm 3) (.own 0 (some 0) (.cons (.cst (.int 9)) .nil)))
    (.cons (.ite (.cmp .Gt (.var 3) (.cst (.int 4))) (.cons (.ret (.own 6 (some 0) (.cons (.var 1) .nil)))
    .nil) .nil)
    (.cons (.ret (.ite (.cmp .Eq (.var 3) (.cst (.int 0))) (.idx (.var 2) (.own 0 (some 0) (.cons (.fn1 .len (.var 2)) .nil))) (.own 2 (some 0) (.cons (.var 1) .nil))))
    .nil))))
abbrev N_b_w_odd : List PySem.Str := ["state", "told", "odd", "pick"]
abbrev P_b_w_odd : List PySem.Str := ["state", "told"]
abbrev D_b_w_odd : Df := ⟨4, true, 1, b_w_odd⟩
def b_w_neighbour : Ss :=
    (.cons (.asg (.nm 2) (.idx (.lst (.cons (.cst (.int 1)) (.cons (.neg (.cst (.int 1))) .nil))) (.own 0 (some 0) (.cons (.cst (.int 2)) .nil))))
    (.cons (.ite (.isi (.var 1) .str) (.cons (.ret (.var 1))
    .nil) .nil)
    (.cons (.ite (.isi (.var 1) .int) (.cons (.ret (.bin .Add (.var 1) (.var 2)))
    .nil) .nil)
    (.cons (.ite (.cmp .Eq (.var 1) (.tup .nil)) (.cons (.ret (.var 1))
    .nil) .nil)
    (.cons (.asg (.nm 3) (.own 0 (some 0) (.cons (.fn1 .len (.var 1)) .nil)))
    (.cons (.ite (.and (.cmp .Eq (.own 0 (some 0) (.cons (.cst (.int 3)) .nil)) (.cst (.int 0))) (.cmp .Gt (.fn1 .len (.var 1)) (.cst (.int 1)))) (.cons (.ret (.bin .Add (.slc (.var 1) .none (.some (.var 3))) (.slc (.var 1) (.some (.bin .Add (.var 3) (.cst (.int 1)))) .none)))
    .nil) .nil)
    (.cons (.ret (.bin .Add (.bin .Add (.slc (.var 1) .none (.some (.var 3))) (.tup (.cons (.own 8 (some 0) (.cons (.idx (.var 1) (.var 3)) .nil)) .nil))) (.slc (.var 1) (.some (.bin .Add (.var 3) (.cst (.int 1)))) .none)))
    .nil)))))))
abbrev N_b_w_neighbour : List PySem.Str := ["state", "value", "step", "k"]
abbrev P_b_w_neighbour : List PySem.Str := ["state", "value"]
abbrev D_b_w_neighbour : Df := ⟨4, true, 1, b_w_neighbour⟩
def b_is_whole : Ss :=
    (.cons (.ret (.and (.isi (.var 0) .int) (.not (.isi (.var 0) .bool))))
    .nil)
abbrev N_b_is_whole : List PySem.Str := ["value"]
abbrev P_b_is_whole : List PySem.Str := ["value"]
abbrev D_b_is_whole : Df := ⟨1, false, 1, b_is_whole⟩
def b_is_told : Ss :=
    (.cons (.ite (.or (.not (.isi (.var 0) .tuple)) (.cmp .NotEq (.fn1 .len (.var 0)) (.var 2))) (.cons (.ret (.cst (.bool false)))
    .nil) .nil)
    (.cons (.ret (.and (.isi (.idx (.var 0) (.cst (.int 0))) .str) (.cmp .Eq (.idx (.var 0) (.cst (.int 0))) (.var 1))))
    .nil))
abbrev N_b_is_told : List PySem.Str := ["told", "word", "count"]
abbrev P_b_is_told : List PySem.Str := ["told", "word", "count"]
abbrev D_b_is_told : Df := ⟨3, false, 3, b_is_told⟩
def b_are_wholes : Ss :=
    (.cons (.ret (.and (.isi (.var 0) .tuple) (.and (.cmp .Eq (.fn1 .len (.var 0)) (.var 1)) (.cmp .NotIn (.cst (.bool false)) (.lc [2] (.nm 2) (.seq (.var 0)) .none (.own 9 none (.cons (.var 2) .nil)))))))
    .nil)
abbrev N_b_are_wholes : List PySem.Str := ["value", "count", "part"]
abbrev P_b_are_wholes : List PySem.Str := ["value", "count"]
abbrev D_b_are_wholes : Df := ⟨3, false, 2, b_are_wholes⟩
def b_are_places : Ss :=
    (.cons (.ret (.and (.isi (.var 0) .tuple) (.cmp .NotIn (.cst (.bool false)) (.lc [2] (.nm 2) (.seq (.var 0)) .none (.and (.own 9 none (.cons (.var 2) .nil)) (.chn .LtE .Lt (.cst (.int 0)) (.var 2) (.var 1)))))))
    .nil)
abbrev N_b_are_places : List PySem.Str := ["value", "most", "part"]
abbrev P_b_are_places : List PySem.Str := ["value", "most"]
abbrev D_b_are_places : Df := ⟨3, false, 2, b_are_places⟩
def b_w_is_whole : Ss :=
    (.cons (.ret (.and (.isi (.var 0) .int) (.not (.isi (.var 0) .bool))))
    .nil)
abbrev N_b_w_is_whole : List PySem.Str := ["value"]
abbrev P_b_w_is_whole : List PySem.Str := ["value"]
abbrev D_b_w_is_whole : Df := ⟨1, false, 1, b_w_is_whole⟩
def b_w_is_place : Ss :=
    (.cons (.ret (.and (.own 13 none (.cons (.var 0) .nil)) (.chn .LtE .Lt (.cst (.int 0)) (.var 0) (.var 1))))
    .nil)
abbrev N_b_w_is_place : List PySem.Str := ["value", "most"]
abbrev P_b_w_is_place : List PySem.Str := ["value", "most"]
abbrev D_b_w_is_place : Df := ⟨2, false, 2, b_w_is_place⟩
def b_w_are_places : Ss :=
    (.cons (.ret (.and (.isi (.var 0) .tuple) (.cmp .Eq (.lc [2] (.nm 2) (.seq (.var 0)) (.some (.not (.own 14 none (.cons (.var 2) (.cons (.var 1) .nil))))) (.var 2)) (.lst .nil))))
    .nil)
abbrev N_b_w_are_places : List PySem.Str := ["value", "most", "part"]
abbrev P_b_w_are_places : List PySem.Str := ["value", "most"]
abbrev D_b_w_are_places : Df := ⟨3, false, 2, b_w_are_places⟩
def b_w_are_wholes : Ss :=
    (.cons (.ret (.and (.isi (.var 0) .tuple) (.and (.cmp .Eq (.fn1 .len (.var 0)) (.var 1)) (.cmp .Eq (.lc [2] (.nm 2) (.seq (.var 0)) (.some (.not (.own 13 none (.cons (.var 2) .nil)))) (.var 2)) (.lst .nil)))))
    .nil)
abbrev N_b_w_are_wholes : List PySem.Str := ["value", "count", "part"]
abbrev P_b_w_are_wholes : List PySem.Str := ["value", "count"]
abbrev D_b_w_are_wholes : Df := ⟨3, false, 2, b_w_are_wholes⟩
def b_w_is : Ss :=
    (.cons (.ret (.and (.isi (.var 0) .tuple) (.and (.cmp .Eq (.fn1 .len (.var 0)) (.var 2)) (.and (.isi (.idx (.var 0) (.cst (.int 0))) .str) (.cmp .Eq (.idx (.var 0) (.cst (.int 0))) (.var 1))))))
    .nil)
abbrev N_b_w_is : List PySem.Str := ["told", "word", "count"]
abbrev P_b_w_is : List PySem.Str := ["told", "word", "count"]
abbrev D_b_w_is : Df := ⟨3, false, 3, b_w_is⟩
def b_w_numbers : Ss :=
    (.cons (.ret (.fn1 .tuple (.lc [5] (.nm 5) (.rng1 (.bin .Add (.var 1) (.own 0 (some 0) (.cons (.bin .Add (.bin .Sub (.var 2) (.var 1)) (.cst (.int 1))) .nil)))) .none (.bin .Add (.var 3) (.own 0 (some 0) (.cons (.bin .Add (.bin .Sub (.var 4) (.var 3)) (.cst (.int 1))) .nil))))))
    .nil)
abbrev N_b_w_numbers : List PySem.Str := ["state", "low", "high", "least", "most", "k"]
abbrev P_b_w_numbers : List PySem.Str := ["state", "low", "high", "least", "most"]
abbrev D_b_w_numbers : Df := ⟨6, true, 4, b_w_numbers⟩
def b_w_all_sets : Ss :=
    (.cons (.asg (.nm 1) (.lst (.cons (.tup .nil) .nil)))
    (.cons (.for (.nm 2) (.seq (.var 0)) (.cons (.asg (.nm 1) (.bin .Add (.var 1) (.lc [3] (.nm 3) (.seq (.var 1)) .none (.bin .Add (.var 3) (.tup (.cons (.var 2) .nil))))))
    .nil))
    (.cons (.ret (.var 1))
    .nil)))
abbrev N_b_w_all_sets : List PySem.Str := ["row", "found", "each", "part"]
abbrev P_b_w_all_sets : List PySem.Str := ["row"]
abbrev D_b_w_all_sets : Df := ⟨4, false, 1, b_w_all_sets⟩
def b_w_rising : Ss :=
    (.cons (.ret (.cmp .Eq (.lc [1] (.nm 1) (.rng1 (.bin .Sub (.fn1 .len (.var 0)) (.cst (.int 1)))) (.some (.cmp .GtE (.idx (.var 0) (.var 1)) (.idx (.var 0) (.bin .Add (.var 1) (.cst (.int 1)))))) (.var 1)) (.lst .nil)))
    .nil)
abbrev N_b_w_rising : List PySem.Str := ["value", "k"]
abbrev P_b_w_rising : List PySem.Str := ["value"]
abbrev D_b_w_rising : Df := ⟨2, false, 1, b_w_rising⟩
def b_w_are_rising_places : Ss :=
    (.cons (.ret (.and (.own 15 none (.cons (.var 0) (.cons (.var 1) .nil))) (.own 20 none (.cons (.var 0) .nil))))
    .nil)
abbrev N_b_w_are_rising_places : List PySem.Str := ["value", "count"]
abbrev P_b_w_are_rising_places : List PySem.Str := ["value", "count"]
abbrev D_b_w_are_rising_places : Df := ⟨2, false, 2, b_w_are_rising_places⟩
end Pv.Hn

set_option maxRecDepth 100000
/-! Walking a run of the small Python. -/
namespace Pv
open PySem PySem.W
section
variable {α β : Type} {m : M α} {f : α → M β} {ls : List PyData} {P : β → List PyData → Prop} {Q : α → List PyData → Prop} {E : Ex → List PyData → Prop}
/-- what a run comes to -/
@[irreducible] def Wp {α : Type} (r : R α) (Q : α → List PyData → Prop) (E : Ex → List PyData → Prop) : Prop := Out r Q E
theorem Wp.def {α : Type} {r : R α} {Q : α → List PyData → Prop} {E : Ex → List PyData → Prop} : Wp r Q E = Out r Q E := by unfold Wp; rfl
theorem Wp.okI {α : Type} {a : α} {ls : List PyData} {Q : α → List PyData → Prop} {E : Ex → List PyData → Prop} (h : Wp (R.ok a ls) Q E) : Q a ls := by unfold Wp at h; exact h
theorem Wp.exI {α : Type} {x : Ex} {ls : List PyData} {Q : α → List PyData → Prop} {E : Ex → List PyData → Prop} (h : Wp (R.exn x ls : R α) Q E) : E x ls := by unfold Wp at h; exact h
theorem Wp.stI {α : Type} {Q : α → List PyData → Prop} {E : Ex → List PyData → Prop} (h : Wp (R.stuck : R α) Q E) : False := by unfold Wp at h; exact h
theorem wp_ok {α : Type} {a : α} {ls : List PyData} {Q : α → List PyData → Prop} {E : Ex → List PyData → Prop} (h : Q a ls) : Wp (R.ok a ls) Q E := by unfold Wp; exact h
theorem wp_exn {α : Type} {x : Ex} {ls : List PyData} {Q : α → List PyData → Prop} {E : Ex → List PyData → Prop} (h : E x ls) : Wp (R.exn x ls : R α) Q E := by unfold Wp; exact h
theorem Wp.imp {α : Type} {r : R α} {Q Q' : α → List PyData → Prop} {E E' : Ex → List PyData → Prop} (h : Wp r Q E) (k : ∀ a ls, Q a ls → Q' a ls) (k2 : ∀ x ls, E x ls → E' x ls) : Wp r Q' E' := by
  unfold Wp at h ⊢
  exact Out.imp h k k2
theorem wp_bind (h : Wp (m ls) (fun a ls' => Wp (f a ls') P E) E) : Wp (M.bind m f ls) P E := by
  unfold M.bind
  cases e : m ls with
  | ok a ls' => rw [e] at h; exact h.okI
  | exn x ls' => rw [e] at h; exact wp_exn h.exI
  | stuck => rw [e] at h; exact h.stI.elim
theorem wp_opt {o : Option α} (h : ∃ c, o = some c ∧ Q c ls) : Wp (M.opt o ls) Q E := by
  obtain ⟨c, rfl, h⟩ := h
  exact wp_ok h
theorem wp_if {b : Bool} {x y : M α} (h1 : b = true → Wp (x ls) Q E) (h2 : b = false → Wp (y ls) Q E) : Wp ((if b = true then x else y) ls) Q E := by
  cases b with
  | true => exact h1 rfl
  | false => exact h2 rfl
theorem wp_true {b : Bool} {x y : M α} (hb : b = true) (h : Wp (x ls) Q E) : Wp ((if b = true then x else y) ls) Q E := by
  subst hb; exact h
theorem wp_false {b : Bool} {x y : M α} (hb : b = false) (h : Wp (y ls) Q E) : Wp ((if b = true then x else y) ls) Q E := by
  subst hb; exact h
theorem wp_imp {r : R α} {Q' : α → List PyData → Prop} (h : Wp r Q' E) (k : ∀ a ls, Q' a ls → Q a ls) : Wp r Q E := Wp.imp h k fun _ _ z => z
theorem wp_of {r : R α} {a : α} (e : r = .ok a ls) (h : Q a ls) : Wp r Q E := by subst e; exact wp_ok h
theorem wp_and {a b : M PyData} {Q : PyData → List PyData → Prop} (h : Wp (a ls) (fun x ls1 => ∃ t, truth x = some t ∧ (t = true → Wp (b ls1) Q E) ∧ (t = false → Q x ls1)) E) : Wp (andor true a b ls) Q E := by
  unfold andor
  refine wp_bind (wp_imp h fun x ls1 ⟨t, ht, h1, h2⟩ => wp_bind (wp_opt ⟨t, ht, ?_⟩))
  cases t with
  | true => exact h1 rfl
  | false => exact wp_ok (h2 rfl)
theorem wp_or {a b : M PyData} {Q : PyData → List PyData → Prop} (h : Wp (a ls) (fun x ls1 => ∃ t, truth x = some t ∧ (t = false → Wp (b ls1) Q E) ∧ (t = true → Q x ls1)) E) : Wp (andor false a b ls) Q E := by
  unfold andor
  refine wp_bind (wp_imp h fun x ls1 ⟨t, ht, h1, h2⟩ => wp_bind (wp_opt ⟨t, ht, ?_⟩))
  cases t with
  | true => exact wp_ok (h2 rfl)
  | false => exact h1 rfl
end
theorem wp_seq {Φ : Nat → List PyData → M PyData} {fuel : Nat} {s : S} {ss : Ss} {ρ : Env} {ls : List PyData} {P : Fl → List PyData → Prop} {E : Ex → List PyData → Prop} (Mid : Env → List PyData → Prop)
    (h : Wp (ex Φ fuel s ρ ls) (fun f ls' => ∃ ρ', f = .nx ρ' ∧ Mid ρ' ls') E) (k : ∀ ρ' ls', Mid ρ' ls' → Wp (exs Φ fuel ss ρ' ls') P E) : Wp (exs Φ fuel (.cons s ss) ρ ls) P E := by
  refine wp_bind (wp_imp h fun f ls' ⟨ρ', e, m⟩ => ?_)
  subst e
  exact k ρ' ls' m
theorem mulR {i j : Int} (h : small j = true) : binop .Mult (.int i) (.int j) = some (.int (i * j)) := by
  show (if (small i || small j) = true then _ else _) = _
  rw [h, Bool.or_true]
  rfl
theorem mulL {i j : Int} (h : small i = true) : binop .Mult (.int i) (.int j) = some (.int (i * j)) := by
  show (if (small i || small j) = true then _ else _) = _
  rw [h, Bool.true_or]
  rfl
theorem modP {i j : Int} (h : 0 < j) : binop .Mod (.int i) (.int j) = some (.int (i % j)) := if_pos h
theorem fdivP {i j : Int} (h : 0 < j) (h2 : j < 1073741824) : binop .FloorDiv (.int i) (.int j) = some (.int (i / j)) := if_pos ⟨h, h2⟩
theorem eqv_t {i j : Int} (h : PyData.eqv (.int i) (.int j) = true) : i = j := eq_of_beq h
theorem eqv_f {i j : Int} (h : PyData.eqv (.int i) (.int j) = false) : i ≠ j := fun e => by
  subst e
  have : (i == i) = false := h
  simp at this
theorem and_t {x : PyData} {A B : Prop} (e : truth x = some true) (h : A) : ∃ t, truth x = some t ∧ (t = true → A) ∧ (t = false → B) := ⟨true, e, fun _ => h, fun z => by cases z⟩
theorem and_f {x : PyData} {A B : Prop} (e : truth x = some false) (h : B) : ∃ t, truth x = some t ∧ (t = true → A) ∧ (t = false → B) := ⟨false, e, (fun z => by cases z), fun _ => h⟩
theorem or_f {x : PyData} {A B : Prop} (e : truth x = some false) (h : A) : ∃ t, truth x = some t ∧ (t = false → A) ∧ (t = true → B) := ⟨false, e, fun _ => h, fun z => by cases z⟩
theorem or_t {x : PyData} {A B : Prop} (e : truth x = some true) (h : B) : ∃ t, truth x = some t ∧ (t = false → A) ∧ (t = true → B) := ⟨true, e, (fun z => by cases z), fun _ => h⟩
/-- a loop over a list, each turn by an invariant -/
theorem wp_for {f : PyData → Env → M Fl} {P : Fl → List PyData → Prop} {E : Ex → List PyData → Prop} (I : Nat → Env → List PyData → Prop) {xs : List PyData}
    (turn : ∀ (i : Nat) (x : PyData) (ρ : Env) (ls : List PyData), xs[i]? = some x → I i ρ ls → Wp (f x ρ ls) (fun r ls' => match r with
      | .nx ρ' => I (i + 1) ρ' ls'
      | .cnt ρ' => I (i + 1) ρ' ls'
      | .brk ρ' => P (.nx ρ') ls'
      | .ret d => P (.ret d) ls') E)
    (fin : ∀ (ρ : Env) (ls : List PyData), I xs.length ρ ls → P (.nx ρ) ls) : ∀ {ρ : Env} {ls : List PyData}, I 0 ρ ls → Wp (loopF f xs ρ ls) P E := by
  suffices go : ∀ (n : Nat) (ρ : Env) (ls : List PyData), n ≤ xs.length → I (xs.length - n) ρ ls → Wp (loopF f (xs.drop (xs.length - n)) ρ ls) P E by
    intro ρ ls h
    have := go xs.length ρ ls (Nat.le_refl _) (by rw [Nat.sub_self]; exact h)
    rw [Nat.sub_self, List.drop_zero] at this
    exact this
  intro n
  induction n with
  | zero =>
    intro ρ ls _ h
    rw [Nat.sub_zero, List.drop_length]
    exact wp_ok (fin ρ ls h)
  | succ n ih =>
    intro ρ ls hn h
    have hlt : xs.length - (n + 1) < xs.length := by omega
    rw [List.drop_eq_getElem_cons hlt]
    refine wp_bind (wp_imp (turn _ _ ρ ls (List.getElem?_eq_getElem hlt) h) fun r ls' q => ?_)
    have e : xs.length - (n + 1) + 1 = xs.length - n := by omega
    cases r with
    | nx ρ' => have q : I _ ρ' ls' := q; rw [e] at q ⊢; exact ih ρ' ls' (by omega) q
    | cnt ρ' => have q : I _ ρ' ls' := q; rw [e] at q ⊢; exact ih ρ' ls' (by omega) q
    | brk ρ' => exact wp_ok q
    | ret d => exact wp_ok q
end Pv

set_option maxRecDepth 100000
set_option maxHeartbeats 1000000
/-! The drawing of numbers. -/
namespace Pv
open PySem PySem.W
/-- a drawing state -/
def StG (ls : List PyData) : Prop := ∃ (cells : List Int) (i v r : Int), ls = [.list (cells.map .int), .int i, .int v, .int r] ∧ 0 ≤ i ∧ 0 ≤ v
theorem StG.start (ns : List Int) : StG (ls0 ns) := ⟨ns, 0, 0, 1, rfl, Int.le_refl _, Int.le_refl _⟩
def tailS : Ss → Ss
  | .cons _ b => b
  | b => b
abbrev endB (f : Fl) : M PyData := match f with
  | .nx _ => M.pure PyData.none
  | .ret d => M.pure d
  | _ => M.stuck
variable {Φ : Nat → List PyData → M PyData} {fuel : Nat} {n : Int} {E : Ex → List PyData → Prop}
abbrev DrawN (n : Int) (d : PyData) (ls' : List PyData) : Prop := ∃ k, d = .int k ∧ 0 ≤ k ∧ k < n ∧ StG ls'
/-- behind the cells' reading -/
theorem next_tail (h0 : 0 < n) (h1 : n < 1073741824) {w : Slot} {i v r : Int} (hi : 0 ≤ i) (hv : 0 ≤ v) {cells : List Int} :
    Wp (exs Φ fuel (tailS Hn.b_w_next) [.st, .fz (.int n), w, .no] [.list (cells.map .int), .int i, .int v, .int r]) (fun f ls' => Wp (endB f ls') (DrawN n) E) E := by
  walk_at "wpT"
  refine wp_if (fun c => ?_) (fun c => ?_)
  · have hv : 0 < v := of_decide_eq_true c
    walk_at "wpT"
    refine wp_opt ⟨_, modP h0, ?_⟩
    walk_at "wpT"
    refine wp_opt ⟨_, fdivP h0 h1, ?_⟩
    walk_at "wpT"
    exact ⟨_, rfl, Int.emod_nonneg _ (by omega), Int.emod_lt_of_pos _ h0, cells, i, _, r, rfl, hi, Int.ediv_nonneg (by omega) (by omega)⟩
  · walk_at "wpT"
    refine wp_opt ⟨_, mulR rfl, ?_⟩
    walk_at "wpT"
    refine wp_opt ⟨_, modP h0, ?_⟩
    walk_at "wpT"
    exact ⟨_, rfl, Int.emod_nonneg _ (by omega), Int.emod_lt_of_pos _ h0, cells, i, _, _, rfl, hi, hv⟩
theorem atI_map {cells : List Int} {i : Int} (h : 0 ≤ i) (h2 : i < (cells.map PyData.int).length) : ∃ c : Int, L2.atI (cells.map PyData.int) i = some (.int c) := by
  have hl : i.toNat < cells.length := by rw [List.length_map] at h2; omega
  obtain ⟨j, rfl⟩ := Int.eq_ofNat_of_zero_le h
  have hl : j < cells.length := by simpa using hl
  refine ⟨cells[j], L2.atI_nat (j := j) ?_⟩
  rw [List.getElem?_map, List.getElem?_eq_getElem hl]
  rfl
theorem next_body (h0 : 0 < n) (h1 : n < 1073741824) {ls : List PyData} (hs : StG ls) :
    Wp (runB Φ fuel 4 Hn.b_w_next true [.int n] ls) (DrawN n) E := by
  obtain ⟨cells, i, v, r, rfl, hi, hv⟩ := hs
  unfold runB
  refine wp_bind (wp_seq (fun ρ' ls' => ∃ w i v r, ρ' = [.st, .fz (.int n), w, .no] ∧ ls' = [.list (cells.map .int), .int i, .int v, .int r] ∧ 0 ≤ i ∧ 0 ≤ v) ?_ ?_)
  · walk_at "wpT"
    refine ⟨_, rfl, fun c => ?_, fun c => ?_⟩
    · have := eqv_t c
      subst this
      walk_at "wpT"
      refine wp_if (fun c2 => ?_) (fun c2 => ?_)
      · have c2 : i < (cells.map PyData.int).length := by have := of_decide_eq_true c2; exact this
        obtain ⟨x, hx⟩ := atI_map hi c2
        walk_at "wpT"
        refine wp_opt ⟨_, hx, ?_⟩
        walk_at "wpT"
        refine wp_if (fun c3 => ?_) (fun c3 => ?_)
        · have c3 : (10 : Int) ^ 18 ≤ x := of_decide_eq_true c3
          walk_at "wpT"
          exact ⟨_, rfl, .fz (.int x), _, _, _, rfl, rfl, by omega, Int.le_trans (by decide) c3⟩
        · walk_at "wpT"
          refine wp_opt ⟨_, mulR rfl, ?_⟩
          walk_at "wpT"
          exact ⟨_, rfl, .fz (.int x), _, _, _, rfl, rfl, by omega, Int.le_refl _⟩
      · walk_at "wpT"
        exact ⟨_, rfl, .no, _, _, _, rfl, rfl, hi, hv⟩
    · walk_at "wpT"
      refine wp_false c ?_
      walk_at "wpT"
      exact ⟨_, rfl, .no, _, _, _, rfl, rfl, hi, hv⟩
  · rintro ρ' ls' ⟨w, i, v, r, rfl, rfl, hi, hv⟩
    exact next_tail h0 h1 hi hv
end Pv

set_option maxRecDepth 100000
set_option maxHeartbeats 1000000
/-! Data that are small; the laws' comparison. -/
namespace Pv
open PySem PySem.W
/-- data without dicts: depth up to n; ints below 2^b; texts and sequences up to s, l -/
def Gd (b s l : Nat) : Nat → PyData → Prop
  | _, .none => True
  | _, .bool _ => True
  | _, .int i => i.natAbs < 2 ^ b
  | _, .str z => z.length ≤ s ∧ PyData.strOk z = true
  | 0, .tuple _ => False
  | 0, .list _ => False
  | n + 1, .tuple xs => xs.length ≤ l ∧ ∀ x ∈ xs, Gd b s l n x
  | n + 1, .list xs => xs.length ≤ l ∧ ∀ x ∈ xs, Gd b s l n x
  | _, .dict _ => False
/-- .. or an empty dict -/
def GdA (b s l n : Nat) (d : PyData) : Prop := Gd b s l n d ∨ d = .dict []
variable {Φ : Nat → List PyData → M PyData} {fuel : Nat} {E : Ex → List PyData → Prop}
abbrev SameQ (a e : PyData) (ls : List PyData) (d : PyData) (ls' : List PyData) : Prop := ls' = ls ∧ ∃ b, d = .bool b ∧ (b = true ↔ a = e)
def SameOk (b s l n : Nat) (Φ : Nat → List PyData → M PyData) : Prop := ∀ a e ls (E : Ex → List PyData → Prop), GdA b s l n a → Gd b s l n e → Wp (Φ 1 [a, e] ls) (SameQ a e ls) E
theorem eqv_ii {i j : Int} : PyData.eqv (.int i) (.int j) = true ↔ i = j := ⟨eqv_t, fun e => by subst e; exact beq_self_eq_true i⟩
theorem rng_get {lo : Int} {n i : Nat} {x : PyData} (h : (rng lo n)[i]? = some x) : i < n ∧ x = .int (lo + i) := by
  have hi : i < n := by
    have := (List.getElem?_eq_some_iff.mp h).1
    simpa [rng] using this
  have : (rng lo n)[i]? = some (.int (lo + i)) := by simp [rng, hi]
  rw [this] at h
  cases h
  exact ⟨hi, rfl⟩
theorem rng_len (lo : Int) (n : Nat) : (rng lo n).length = n := by simp [rng]
theorem eqStr {x y : Str} (hx : PyData.strOk x = true) (hy : PyData.strOk y = true) : cmpop .Eq (.str x) (.str y) = some (x == y) := by
  have h : ∀ z : Str, PyData.strOk z = true → SeqAt.shaped (.str z) = true := fun z hz => by
    show (PyData.strOk z && decide ((PyData.str z).depth ≤ 64)) = true
    rw [hz]
    rfl
  show (if (SeqAt.shaped (.str x) && SeqAt.shaped (.str y)) = true then some (PyData.eqv (.str x) (.str y)) else none) = _
  rw [h x hx, h y hy]
  rfl
theorem atI_of {xs : List PyData} {i : Nat} {x : PyData} (h : xs[i]? = some x) : L2.atI xs (0 + (i : Int)) = some x := by
  rw [Int.zero_add]
  exact L2.atI_nat h
theorem few_of {n : Nat} (h : n ≤ 1000000) : (chop (n : Int) && few (n : Int).toNat) = true := by
  simp only [chop, few, Bool.and_eq_true, decide_eq_true_eq, Int.toNat_natCast]
  exact ⟨by omega, h⟩
theorem wp_rng {n : Nat} (h : n ≤ 1000000) {ls : List PyData} {Q : List PyData → List PyData → Prop} {E : Ex → List PyData → Prop} (q : Q (rng 0 n) ls) : Wp (M.opt ((intOf (.int (n : Int))).bind fun n => if chop n && few n.toNat then some (rng 0 n.toNat) else none) ls) Q E := by
  refine wp_opt ⟨rng 0 n, ?_, q⟩
  have e := few_of h
  rw [Int.toNat_natCast] at e
  simp only [intOf, Option.bind_some, Int.toNat_natCast, e, if_true]
theorem same_seq {b s l n : Nat} (hl : l ≤ 1000000) (hS : SameOk b s l n Φ) {xs ys : List PyData} (hx : xs.length ≤ l ∧ ∀ x ∈ xs, Gd b s l n x) (hy : ys.length ≤ l ∧ ∀ y ∈ ys, Gd b s l n y) (ls : List PyData) {c : List PyData → PyData} (hc : c = .tuple ∨ c = .list) :
    Wp (runB Φ fuel 3 Hn.b_w_same false [c xs, c ys] ls) (SameQ (c xs) (c ys) ls) E := by
  have inj : c xs = c ys ↔ xs = ys := by rcases hc with rfl | rfl <;> simp
  have hidx : ∀ (zs : List PyData) (k : Int), index (c zs) k = L2.atI zs k := fun zs k => by rcases hc with rfl | rfl <;> rfl
  have loop : ∀ {P : Fl → List PyData → Prop}, xs.length = ys.length → P (.ret (.bool false)) ls ∨ True → (xs ≠ ys → P (.ret (.bool false)) ls) → (∀ w, xs = ys → P (.nx [.fz (c xs), .fz (c ys), w]) ls) →
      Wp (loopF (fun x ρ => M.bind (M.opt (bindT (.nm 2) x ρ)) fun ρ' => exs Φ fuel (.cons (.ite (.not (.own 1 none (.cons (.idx (.var 0) (.var 2)) (.cons (.idx (.var 1) (.var 2)) .nil)))) (.cons (.ret (.cst (.bool false))) .nil) .nil) .nil) ρ') (rng 0 ys.length) [.fz (c xs), .fz (c ys), .no] ls) P E := by
    intro P hlen _ hf ht
    refine wp_for (fun i ρ ls' => ls' = ls ∧ (∃ w, w ≠ Slot.st ∧ ρ = [.fz (c xs), .fz (c ys), w]) ∧ ∀ j : Nat, j < i → xs[j]? = ys[j]?) ?_ ?_ ⟨rfl, ⟨.no, by simp, rfl⟩, fun j h => absurd h (Nat.not_lt_zero _)⟩
    · rintro i x ρ ls' hx' ⟨rfl, ⟨w, hw, rfl⟩, hI⟩
      obtain ⟨hi, rfl⟩ := rng_get hx'
      have hxi : i < xs.length := by omega
      refine wp_bind (wp_opt ⟨[.fz (c xs), .fz (c ys), .fz (.int (0 + (i : Int)))], by cases w <;> first | rfl | exact absurd rfl hw, ?_⟩)
      walk_at "wpT"
      refine wp_opt ⟨xs[i], by show (index (c xs) (0 + (i : Int))) = _; rw [hidx]; exact atI_of (List.getElem?_eq_getElem hxi), ?_⟩
      walk_at "wpT"
      refine wp_opt ⟨ys[i], by show (index (c ys) (0 + (i : Int))) = _; rw [hidx]; exact atI_of (List.getElem?_eq_getElem hi), ?_⟩
      walk_at "wpT"
      refine wp_imp (hS _ _ _ _ (.inl (hx.2 _ (List.getElem_mem hxi))) (hy.2 _ (List.getElem_mem hi))) ?_
      rintro d ls2 ⟨rfl, bb, rfl, hb⟩
      walk_at "wpT"
      refine wp_if (fun c => ?_) (fun c => ?_)
      · have hne : xs[i] ≠ ys[i] := fun z => by
          rw [hb.mpr z] at c
          cases c
        walk_at "wpT"
        exact hf fun z => hne (by simp [z])
      · have he : xs[i] = ys[i] := hb.mp (by simpa using c)
        walk_at "wpT"
        refine ⟨rfl, ⟨_, by simp, rfl⟩, fun j hj => ?_⟩
        by_cases hji : j = i
        · subst hji
          rw [List.getElem?_eq_getElem hxi, List.getElem?_eq_getElem hi, he]
        · exact hI j (by omega)
    · rintro ρ ls' ⟨rfl, ⟨w, _, rfl⟩, hI⟩
      refine ht w (List.ext_getElem? fun j => ?_)
      rw [rng_len] at hI
      by_cases hj : j < ys.length
      · exact hI j hj
      · rw [List.getElem?_eq_none (by omega), List.getElem?_eq_none (by omega)]
  rcases hc with rfl | rfl
  · unfold runB
    walk_at "wpT"
    refine wp_if (fun c => ?_) (fun c => ?_)
    · have hne : xs.length ≠ ys.length := fun z => by
        have c : (!PyData.eqv (.int (xs.length : Int)) (.int (ys.length : Int))) = true := c
        rw [z, eqv_ii.mpr rfl] at c
        cases c
      walk_at "wpT"
      exact ⟨rfl, _, rfl, by simp; intro z; exact hne (by rw [z])⟩
    · have heq : xs.length = ys.length := by
        have c : (!PyData.eqv (.int (xs.length : Int)) (.int (ys.length : Int))) = false := c
        have : PyData.eqv (.int (xs.length : Int)) (.int (ys.length : Int)) = true := by simpa using c
        exact Int.ofNat.inj (eqv_t this)
      walk_at "wpT"
      refine wp_rng (n := ys.length) (by omega) ?_
      refine loop heq (.inr trivial) (fun hne => ?_) (fun w e => ?_)
      · walk_at "wpT"
        exact ⟨rfl, _, rfl, by simp [hne]⟩
      · walk_at "wpT"
        exact ⟨rfl, _, rfl, by simp [e]⟩
  · unfold runB
    walk_at "wpT"
    refine wp_if (fun c => ?_) (fun c => ?_)
    · have hne : xs.length ≠ ys.length := fun z => by
        have c : (!PyData.eqv (.int (xs.length : Int)) (.int (ys.length : Int))) = true := c
        rw [z, eqv_ii.mpr rfl] at c
        cases c
      walk_at "wpT"
      exact ⟨rfl, _, rfl, by simp; intro z; exact hne (by rw [z])⟩
    · have heq : xs.length = ys.length := by
        have c : (!PyData.eqv (.int (xs.length : Int)) (.int (ys.length : Int))) = false := c
        have : PyData.eqv (.int (xs.length : Int)) (.int (ys.length : Int)) = true := by simpa using c
        exact Int.ofNat.inj (eqv_t this)
      walk_at "wpT"
      refine wp_rng (n := ys.length) (by omega) ?_
      refine loop heq (.inr trivial) (fun hne => ?_) (fun w e => ?_)
      · walk_at "wpT"
        exact ⟨rfl, _, rfl, by simp [hne]⟩
      · walk_at "wpT"
        exact ⟨rfl, _, rfl, by simp [e]⟩
theorem same_body {b s l n : Nat} (hl : l ≤ 1000000) (hS : ∀ m, n = m + 1 → SameOk b s l m Φ) (a e : PyData) (ls : List PyData) (ha : GdA b s l n a) (he : Gd b s l n e) :
    Wp (runB Φ fuel 3 Hn.b_w_same false [a, e] ls) (SameQ a e ls) E := by
  cases e with
  | none =>
    unfold runB
    walk_at "wpT"
    cases a <;> exact ⟨rfl, _, rfl, by simp⟩
  | bool x =>
    cases a with
    | bool y =>
      unfold runB
      walk_at "wpT"
      refine ⟨rfl, _, rfl, ?_⟩
      cases x <;> cases y <;> simp [PyData.eqv]
    | _ => unfold runB; walk_at "wpT"; exact ⟨rfl, _, rfl, by simp [isTy]⟩
  | int x =>
    cases a with
    | int y =>
      unfold runB
      walk_at "wpT"
      exact ⟨rfl, _, rfl, eqv_ii.trans (by simp)⟩
    | _ => unfold runB; walk_at "wpT"; exact ⟨rfl, _, rfl, by simp [isTy]⟩
  | str x =>
    cases a with
    | str y =>
      unfold runB
      have ha : PyData.strOk y = true := by
        rcases ha with ha | ha
        · cases n <;> exact ha.2
        · cases ha
      walk_at "wpT"
      refine wp_opt ⟨.bool (y == x), by rw [eqStr ha (by cases n <;> exact he.2)]; rfl, ?_⟩
      walk_at "wpT"
      refine ⟨rfl, _, rfl, ?_⟩
      rw [beq_iff_eq]
      simp
    | _ => unfold runB; walk_at "wpT"; exact ⟨rfl, _, rfl, by simp [isTy]⟩
  | tuple ys =>
    cases n with
    | zero => exact he.elim
    | succ m =>
      cases a with
      | tuple xs => exact same_seq hl (hS m rfl) (by rcases ha with ha | ha; exact ha; cases ha) he ls (.inl rfl)
      | _ => unfold runB; walk_at "wpT"; exact ⟨rfl, _, rfl, by simp [isTy]⟩
  | list ys =>
    cases n with
    | zero => exact he.elim
    | succ m =>
      cases a with
      | list xs => exact same_seq hl (hS m rfl) (by rcases ha with ha | ha; exact ha; cases ha) he ls (.inr rfl)
      | _ => unfold runB; walk_at "wpT"; exact ⟨rfl, _, rfl, by simp [isTy]⟩
  | dict _ => cases n <;> exact he.elim
end Pv

set_option maxRecDepth 100000
set_option maxHeartbeats 1000000
/-! Small data are closed under what the laws do. -/
namespace Pv
open PySem PySem.W
variable {b s l n : Nat}
/-- a sequence of at most k things -/
def TG (P : PyData → Prop) (k : Nat) (xs : List PyData) : Prop := xs.length ≤ k ∧ ∀ x ∈ xs, P x
/-- a text -/
def SG (s : Nat) (z : Str) : Prop := z.length ≤ s ∧ PyData.strOk z = true
theorem Gd.non : Gd b s l n .none := by cases n <;> trivial
theorem Gd.bl {x : Bool} : Gd b s l n (.bool x) := by cases n <;> trivial
theorem Gd.int {i : Int} (h : i.natAbs < 2 ^ b) : Gd b s l n (.int i) := by cases n <;> exact h
theorem Gd.str {z : Str} (h : SG s z) : Gd b s l n (.str z) := by cases n <;> exact h
theorem Gd.tup {xs : List PyData} (h : TG (Gd b s l n) l xs) : Gd b s l (n + 1) (.tuple xs) := h
theorem Gd.lst {xs : List PyData} (h : TG (Gd b s l n) l xs) : Gd b s l (n + 1) (.list xs) := h
theorem Gd.of_int {i : Int} (h : Gd b s l n (.int i)) : i.natAbs < 2 ^ b := by cases n <;> exact h
theorem Gd.of_str {z : Str} (h : Gd b s l n (.str z)) : SG s z := by cases n <;> exact h
theorem Gd.of_tup {xs : List PyData} (h : Gd b s l n (.tuple xs)) : ∃ m, n = m + 1 ∧ TG (Gd b s l m) l xs := by
  cases n with
  | zero => exact h.elim
  | succ m => exact ⟨m, rfl, h⟩
theorem Gd.of_lst {xs : List PyData} (h : Gd b s l n (.list xs)) : ∃ m, n = m + 1 ∧ TG (Gd b s l m) l xs := by
  cases n with
  | zero => exact h.elim
  | succ m => exact ⟨m, rfl, h⟩
theorem Gd.no_dict {kvs : List (PyData × PyData)} (h : Gd b s l n (.dict kvs)) : False := by cases n <;> exact h
theorem Gd.mono {b' s' l' : Nat} (hb : b ≤ b') (hs : s ≤ s') (hl : l ≤ l') : ∀ {n n' : Nat} {d : PyData}, n ≤ n' → Gd b s l n d → Gd b' s' l' n' d
  | n, n', .none, _, _ => .non
  | n, n', .bool _, _, _ => .bl
  | n, n', .int i, _, h => .int (Nat.lt_of_lt_of_le h.of_int (Nat.pow_le_pow_right (by decide) hb))
  | n, n', .str z, _, h => .str ⟨Nat.le_trans h.of_str.1 hs, h.of_str.2⟩
  | 0, n', .tuple xs, _, h => h.elim
  | 0, n', .list xs, _, h => h.elim
  | n + 1, 0, .tuple xs, hn, h => by omega
  | n + 1, 0, .list xs, hn, h => by omega
  | n + 1, n' + 1, .tuple xs, hn, h => ⟨Nat.le_trans h.1 hl, fun x hx => Gd.mono hb hs hl (by omega) (h.2 x hx)⟩
  | n + 1, n' + 1, .list xs, hn, h => ⟨Nat.le_trans h.1 hl, fun x hx => Gd.mono hb hs hl (by omega) (h.2 x hx)⟩
  | n, n', .dict _, _, h => h.no_dict.elim

/-! ### sequences -/
variable {P P' : PyData → Prop} {k m : Nat} {xs ys : List PyData}
theorem TG.nil : TG P 0 [] := ⟨Nat.le_refl _, fun x h => by cases h⟩
theorem TG.one {x : PyData} (h : P x) : TG P 1 [x] := ⟨Nat.le_refl _, fun y hy => by rw [List.mem_singleton] at hy; subst hy; exact h⟩
theorem TG.cons {x : PyData} (h : P x) (t : TG P k xs) : TG P (k + 1) (x :: xs) := ⟨Nat.succ_le_succ t.1, fun y hy => by
  rcases List.mem_cons.mp hy with e | e
  · subst e; exact h
  · exact t.2 y e⟩
theorem TG.app (h : TG P k xs) (t : TG P m ys) : TG P (k + m) (xs ++ ys) := ⟨by rw [List.length_append]; exact Nat.add_le_add h.1 t.1, fun y hy => (List.mem_append.mp hy).elim (h.2 y) (t.2 y)⟩
theorem cut_len {α : Type} (xs : List α) (lo hi : Option Int) : (cut xs lo hi).length ≤ xs.length := by
  unfold cut
  rw [List.length_take, List.length_drop]
  omega
theorem cut_mem {α : Type} {xs : List α} {lo hi : Option Int} {x : α} (h : x ∈ cut xs lo hi) : x ∈ xs := List.mem_of_mem_drop (List.mem_of_mem_take h)
theorem TG.cut (h : TG P k xs) (lo hi : Option Int) : TG P k (Pv.cut xs lo hi) := ⟨Nat.le_trans (cut_len _ _ _) h.1, fun y hy => h.2 y (cut_mem hy)⟩
theorem TG.rev (h : TG P k xs) : TG P k xs.reverse := ⟨by rw [List.length_reverse]; exact h.1, fun y hy => h.2 y (List.mem_reverse.mp hy)⟩
theorem TG.mono (h : TG P k xs) (hk : k ≤ m) (hp : ∀ x, P x → P' x) : TG P' m xs := ⟨Nat.le_trans h.1 hk, fun y hy => hp y (h.2 y hy)⟩
theorem TG.map {α : Type} {f : α → PyData} {zs : List α} (hk : zs.length ≤ k) (h : ∀ z ∈ zs, P (f z)) : TG P k (zs.map f) := ⟨by rw [List.length_map]; exact hk, fun y hy => by
  obtain ⟨z, hz, rfl⟩ := List.mem_map.mp hy
  exact h z hz⟩

/-! ### texts -/
theorem strOk_iff {z : Str} : PyData.strOk z = true ↔ ∀ c ∈ z.cps.toList, c < 0x110000 := by
  unfold PyData.strOk
  rw [Array.all_eq_true']
  constructor
  · intro h c hc
    exact of_decide_eq_true (h c (by simpa using hc))
  · intro h c hc
    exact decide_eq_true (h c (by simpa using hc))
theorem SG.of_list {cs : List Nat} (hl : cs.length ≤ s) (h : ∀ c ∈ cs, c < 0x110000) : SG s ⟨cs.toArray⟩ := ⟨by simpa [Str.length] using hl, strOk_iff.mpr (by simpa using h)⟩
theorem SG.len {z : Str} (h : SG s z) : z.cps.toList.length ≤ s := by simpa [Str.length] using h.1
theorem SG.cps {z : Str} (h : SG s z) : ∀ c ∈ z.cps.toList, c < 0x110000 := strOk_iff.mp h.2
theorem SG.cut {z : Str} (h : SG s z) (lo hi : Option Int) : SG s ⟨(Pv.cut z.cps.toList lo hi).toArray⟩ := .of_list (Nat.le_trans (cut_len _ _ _) h.len) fun c hc => h.cps c (cut_mem hc)
theorem SG.rev {z : Str} (h : SG s z) : SG s ⟨z.cps.toList.reverse.toArray⟩ := .of_list (by rw [List.length_reverse]; exact h.len) fun c hc => h.cps c (List.mem_reverse.mp hc)
theorem str_app (x y : Str) : x ++ y = ⟨(x.cps.toList ++ y.cps.toList).toArray⟩ := by
  show (⟨x.cps ++ y.cps⟩ : Str) = _
  congr 1
  apply Array.ext'
  simp
theorem SG.app {x y : Str} {t : Nat} (h : SG s x) (h2 : SG t y) : SG (s + t) (x ++ y) := by
  rw [str_app]
  exact .of_list (by rw [List.length_append]; exact Nat.add_le_add h.len h2.len) fun c hc => (List.mem_append.mp hc).elim (h.cps c) (h2.cps c)
theorem SG.mono {z : Str} {t : Nat} (h : SG s z) (ht : s ≤ t) : SG t z := ⟨Nat.le_trans h.1 ht, h.2⟩
theorem SG.ofString {x : String} (h : x.toList.length ≤ s) : SG s (Str.ofString x) := by
  rw [Str.ofString_eq_toList]
  refine .of_list (by rw [List.length_map]; exact h) fun c hc => ?_
  obtain ⟨d, _, rfl⟩ := List.mem_map.mp hc
  have h := d.valid
  simp only [UInt32.isValidChar, Nat.isValidChar] at h
  show d.val.toNat < _
  omega
theorem repr_len {m : Nat} (h : m < 2 ^ b) : (Nat.repr m).toList.length ≤ b + 1 := by
  have h2 : m < 10 ^ (b + 1) := Nat.lt_of_lt_of_le h (Nat.le_trans (Nat.pow_le_pow_left (by decide) b) (Nat.pow_le_pow_right (by decide) (Nat.le_succ b)))
  rw [String.length_toList]
  exact (Nat.length_repr_le_iff (n := m) (k := b + 1) (Nat.succ_pos _)).mpr h2
theorem SG.int {i : Int} (h : i.natAbs < 2 ^ b) : SG (b + 2) (Str.ofString (toString i)) := by
  refine .ofString ?_
  show (Int.repr i).toList.length ≤ _
  cases i with
  | ofNat m =>
    show (Nat.repr m).toList.length ≤ _
    exact Nat.le_succ_of_le (repr_len h)
  | negSucc m =>
    show ("-" ++ Nat.repr (m + 1)).toList.length ≤ _
    rw [String.toList_append, List.length_append]
    have := repr_len (b := b) (m := m + 1) h
    show 1 + _ ≤ _
    omega
theorem log_lt {i : Int} (h : i.natAbs < 2 ^ b) (hb : b ≤ 1919) : i.natAbs.log2 < 1920 := by
  by_cases h0 : i.natAbs = 0
  · rw [h0]; decide
  · have := (Nat.log2_lt h0).mpr h
    omega
theorem Gd.strInt {i : Int} (h : i.natAbs < 2 ^ b) (hb : b ≤ 1919) : f1 .str (.int i) = some (.str (Str.ofString (toString i))) := if_pos (log_lt h hb)
/-- what == may compare -/
theorem Gd.lay : ∀ {n : Nat} {d : PyData}, Gd b s l n d → d.canLay0 = true ∧ d.depth ≤ n
  | _, .none, _ => ⟨rfl, Nat.zero_le _⟩
  | _, .bool _, _ => ⟨rfl, Nat.zero_le _⟩
  | _, .int _, _ => ⟨rfl, Nat.zero_le _⟩
  | _, .str _, h => ⟨h.of_str.2, Nat.zero_le _⟩
  | 0, .tuple _, h => h.elim
  | 0, .list _, h => h.elim
  | n + 1, .tuple xs, h => by
    have hh : ∀ x ∈ xs, x.canLay0 = true ∧ x.depth ≤ n := fun x hx => Gd.lay (h.2 x hx)
    exact ⟨by show PyData.canLayAll0 xs = true; exact layAll hh, by show PyData.depthAll xs + 1 ≤ n + 1; exact Nat.succ_le_succ (depAll hh)⟩
  | n + 1, .list xs, h => by
    have hh : ∀ x ∈ xs, x.canLay0 = true ∧ x.depth ≤ n := fun x hx => Gd.lay (h.2 x hx)
    exact ⟨by show PyData.canLayAll0 xs = true; exact layAll hh, by show PyData.depthAll xs + 1 ≤ n + 1; exact Nat.succ_le_succ (depAll hh)⟩
  | n, .dict _, h => h.no_dict.elim
where
  layAll {n : Nat} : ∀ {xs : List PyData}, (∀ x ∈ xs, x.canLay0 = true ∧ x.depth ≤ n) → PyData.canLayAll0 xs = true
    | [], _ => rfl
    | x :: xs, h => by
      show (x.canLay0 && PyData.canLayAll0 xs) = true
      rw [(h x List.mem_cons_self).1, layAll fun y hy => h y (List.mem_cons_of_mem _ hy)]
      rfl
  depAll {n : Nat} : ∀ {xs : List PyData}, (∀ x ∈ xs, x.canLay0 = true ∧ x.depth ≤ n) → PyData.depthAll xs ≤ n
    | [], _ => Nat.zero_le _
    | x :: xs, h => Nat.max_le.mpr ⟨(h x List.mem_cons_self).2, depAll fun y hy => h y (List.mem_cons_of_mem _ hy)⟩
theorem Gd.shaped {d : PyData} (h : Gd b s l n d) (hn : n ≤ 64) : SeqAt.shaped d = true := by
  unfold SeqAt.shaped
  rw [h.lay.1, decide_eq_true (Nat.le_trans h.lay.2 hn)]
  rfl
theorem eqG {x y : PyData} {n' : Nat} {b' s' l' : Nat} (hx : Gd b s l n x) (hy : Gd b' s' l' n' y) (h1 : n ≤ 64) (h2 : n' ≤ 64) : cmpop .Eq x y = some (PyData.eqv x y) := by
  show (if (SeqAt.shaped x && SeqAt.shaped y) = true then some (PyData.eqv x y) else none) = _
  rw [hx.shaped h1, hy.shaped h2]
  rfl
theorem neG {x y : PyData} {n' : Nat} {b' s' l' : Nat} (hx : Gd b s l n x) (hy : Gd b' s' l' n' y) (h1 : n ≤ 64) (h2 : n' ≤ 64) : cmpop .NotEq x y = some (!PyData.eqv x y) := by
  show (if (SeqAt.shaped x && SeqAt.shaped y) = true then some (!PyData.eqv x y) else none) = _
  rw [hx.shaped h1, hy.shaped h2]
  rfl

/-! ### the same, walked -/
section
variable {ls : List PyData} {Q : PyData → List PyData → Prop} {E : Ex → List PyData → Prop}
theorem wp_tadd (h : TG P k xs) (t : TG P' m ys) (hz : k + m ≤ sizeLine) (q : Q (.tuple (xs ++ ys)) ls) : Wp (M.opt (binop .Add (.tuple xs) (.tuple ys)) ls) Q E :=
  wp_opt ⟨_, if_pos (Nat.le_trans (Nat.add_le_add h.1 t.1) hz), q⟩
theorem wp_ladd (h : TG P k xs) (t : TG P' m ys) (hz : k + m ≤ sizeLine) (q : Q (.list (xs ++ ys)) ls) : Wp (M.opt (binop .Add (.list xs) (.list ys)) ls) Q E :=
  wp_opt ⟨_, if_pos (Nat.le_trans (Nat.add_le_add h.1 t.1) hz), q⟩
theorem wp_sadd {x y : Str} {t : Nat} (h : SG s x) (h2 : SG t y) (hz : s + t ≤ sizeLine) (q : Q (.str (x ++ y)) ls) : Wp (M.opt (binop .Add (.str x) (.str y)) ls) Q E :=
  wp_opt ⟨_, if_pos (Nat.le_trans (Nat.add_le_add h.1 h2.1) hz), q⟩
theorem wp_sslc {x : Str} {lo hi : Option Int} (h : SG s x) (hz : s ≤ sizeLine) (q : Q (.str ⟨(cut x.cps.toList lo hi).toArray⟩) ls) : Wp (M.opt (slice (.str x) lo hi) ls) Q E :=
  wp_opt ⟨_, if_pos (Nat.le_trans h.1 hz), q⟩
theorem wp_srev {x : Str} (h : SG s x) (hz : s ≤ sizeLine) (q : Q (.str ⟨x.cps.toList.reverse.toArray⟩) ls) : Wp (M.opt (reversed (.str x)) ls) Q E :=
  wp_opt ⟨_, if_pos (Nat.le_trans h.1 hz), q⟩
/-- one of a list's items -/
theorem wp_pick {i : Int} (h0 : 0 ≤ i) (h1 : i < xs.length) (q : ∀ x ∈ xs, Q x ls) : Wp (M.opt ((intOf (.int i)).bind fun k => index (.list xs) k) ls) Q E := by
  obtain ⟨j, rfl⟩ := Int.eq_ofNat_of_zero_le h0
  have hj : j < xs.length := by omega
  exact wp_opt ⟨xs[j], L2.atI_nat (List.getElem?_eq_getElem hj), q _ (List.getElem_mem hj)⟩
theorem wp_pickT {i : Int} (h0 : 0 ≤ i) (h1 : i < xs.length) (q : ∀ x ∈ xs, Q x ls) : Wp (M.opt ((intOf (.int i)).bind fun k => index (.tuple xs) k) ls) Q E := by
  obtain ⟨j, rfl⟩ := Int.eq_ofNat_of_zero_le h0
  have hj : j < xs.length := by omega
  exact wp_opt ⟨xs[j], L2.atI_nat (List.getElem?_eq_getElem hj), q _ (List.getElem_mem hj)⟩
end
end Pv

set_option maxRecDepth 100000
set_option maxHeartbeats 1000000
/-! A told thing changed. -/
namespace Pv
open PySem PySem.W
theorem len_nil : ([] : List PyData).length ≤ 0 := Nat.le_refl _
theorem len_one {x : PyData} : [x].length ≤ 1 := Nat.le_refl _
theorem len_two {x y : PyData} : [x, y].length ≤ 2 := Nat.le_refl _
theorem len_app {xs ys : List PyData} {i j : Nat} (h : xs.length ≤ i) (h2 : ys.length ≤ j) : (xs ++ ys).length ≤ i + j := by rw [List.length_append]; exact Nat.add_le_add h h2
theorem len_cut {xs : List PyData} {lo hi : Option Int} {i : Nat} (h : xs.length ≤ i) : (cut xs lo hi).length ≤ i := Nat.le_trans (cut_len _ _ _) h
theorem len_rev {xs : List PyData} {i : Nat} (h : xs.length ≤ i) : xs.reverse.length ≤ i := by rw [List.length_reverse]; exact h
section
variable {ls : List PyData} {Q : PyData → List PyData → Prop} {E : Ex → List PyData → Prop} {xs ys : List PyData} {k m : Nat}
theorem wp_ta (h : xs.length ≤ k) (t : ys.length ≤ m) (hz : k + m ≤ sizeLine) (q : Q (.tuple (xs ++ ys)) ls) : Wp (M.opt (binop .Add (.tuple xs) (.tuple ys)) ls) Q E :=
  wp_opt ⟨_, if_pos (Nat.le_trans (Nat.add_le_add h t) hz), q⟩
theorem wp_la (h : xs.length ≤ k) (t : ys.length ≤ m) (hz : k + m ≤ sizeLine) (q : Q (.list (xs ++ ys)) ls) : Wp (M.opt (binop .Add (.list xs) (.list ys)) ls) Q E :=
  wp_opt ⟨_, if_pos (Nat.le_trans (Nat.add_le_add h t) hz), q⟩
end
variable {Φ : Nat → List PyData → M PyData} {fuel : Nat} {E : Ex → List PyData → Prop} {b s l n : Nat}
def PhiNext (Φ : Nat → List PyData → M PyData) : Prop := ∀ (n : Int) (ls : List PyData) (E : Ex → List PyData → Prop), 0 < n → n < 1073741824 → StG ls → Wp (Φ 0 [.int n] ls) (DrawN n) E
/-- what changed gives -/
abbrev ChQ (b s l n : Nat) (d : PyData) (ls' : List PyData) : Prop := Gd (b + 1) (s + b + 5) (5 * l + 10) (n + 1) d ∧ StG ls'
def PhiCh (b s l n : Nat) (Φ : Nat → List PyData → M PyData) : Prop := ∀ (d : PyData) (ls : List PyData) (E : Ex → List PyData → Prop), Gd b s l n d → StG ls → Wp (Φ 2 [d] ls) (ChQ b s l n) E
theorem ch_bool (hN : PhiNext Φ) {x : Bool} {ls : List PyData} (hs : StG ls) : Wp (runB Φ fuel 7 Hn.b_w_changed true [.bool x] ls) (ChQ b s l n) E := by
  unfold runB
  walk_at "wq"
  refine wp_imp (hN 2 _ _ (by decide) (by decide) hs) ?_
  rintro d ls' ⟨k, rfl, h0, h1, hs'⟩
  walk_at "wq"
  refine wp_pick h0 (by simpa using h1) fun y hy => ?_
  simp only [List.mem_cons, List.not_mem_nil, or_false] at hy
  rcases hy with rfl | rfl
  · walk_at "wq"; exact ⟨.bl, hs'⟩
  · walk_at "wq"; exact ⟨.int (by cases x <;> first | exact Nat.two_pow_pos _ | exact Nat.one_lt_two_pow (Nat.succ_ne_zero b)), hs'⟩
theorem one_lt_p (b : Nat) : 1 < 2 ^ (b + 1) := Nat.one_lt_two_pow (Nat.succ_ne_zero b)
theorem two_lt_p (b : Nat) : 2 ^ b + 1 ≤ 2 ^ (b + 1) := by
  have := Nat.two_pow_pos b
  rw [Nat.pow_succ]
  omega
theorem four_le_p (hb1 : 1 ≤ b) : 4 ≤ 2 ^ (b + 1) := by
  have := Nat.pow_le_pow_right (n := 2) (by decide) (show 2 ≤ b + 1 by omega)
  exact this
theorem ch_int (hb1 : 1 ≤ b) (hN : PhiNext Φ) {i : Int} (hi : i.natAbs < 2 ^ b) (hb : b ≤ 1919) {ls : List PyData} (hs : StG ls) : Wp (runB Φ fuel 7 Hn.b_w_changed true [.int i] ls) (ChQ b s l n) E := by
  have h1 := one_lt_p b
  have h2 := two_lt_p b
  have h3 : 2 ^ (b + 1) = 2 ^ b * 2 := Nat.pow_succ _ _
  unfold runB
  by_cases h0 : i = 0
  · subst h0
    walk_at "wq"
    refine wp_imp (hN 7 _ _ (by decide) (by decide) hs) ?_
    rintro d ls' ⟨k, rfl, hk0, hk1, hs'⟩
    walk_at "wq"
    refine wp_pick hk0 (by simpa using hk1) fun y hy => ?_
    simp only [List.mem_cons, List.not_mem_nil, or_false] at hy
    rcases hy with rfl | rfl | rfl | rfl | rfl | rfl | rfl
    · walk_at "wq"; exact ⟨.int h1, hs'⟩
    · walk_at "wq"; exact ⟨.int h1, hs'⟩
    · walk_at "wq"; exact ⟨.int (Nat.two_pow_pos _), hs'⟩
    · walk_at "wq"; exact ⟨.non, hs'⟩
    · walk_at "wq"; exact ⟨.bl, hs'⟩
    · walk_at "wq"; exact ⟨.str ((SG.int (b := b) (i := 0) (Nat.two_pow_pos _)).mono (by omega)), hs'⟩
    · walk_at "wq"; exact ⟨.int (by have := four_le_p hb1; show 2 < 2 ^ (b + 1); omega), hs'⟩
  · have ht : truth (.int i) = some true := by
      show some (i != 0) = _
      rw [(bne_iff_ne).mpr h0]
    walk_at "wq"
    refine or_t ht ?_
    walk_at "wq"
    refine or_t ht ?_
    walk_at "wq"
    refine wp_opt ⟨_, Gd.strInt hi hb, ?_⟩
    walk_at "wq"
    refine or_t ht ?_
    refine wp_opt ⟨_, mulL rfl, ?_⟩
    walk_at "wq"
    refine wp_imp (hN 7 _ _ (by decide) (by decide) hs) ?_
    rintro d ls' ⟨k, rfl, hk0, hk1, hs'⟩
    walk_at "wq"
    refine wp_pick hk0 (by simpa using hk1) fun y hy => ?_
    simp only [List.mem_cons, List.not_mem_nil, or_false] at hy
    rcases hy with rfl | rfl | rfl | rfl | rfl | rfl | rfl
    · walk_at "wq"; exact ⟨.int (by omega), hs'⟩
    · walk_at "wq"; exact ⟨.int (by omega), hs'⟩
    · walk_at "wq"; exact ⟨.int (Nat.two_pow_pos _), hs'⟩
    · walk_at "wq"; exact ⟨.non, hs'⟩
    · walk_at "wq"; exact ⟨.bl, hs'⟩
    · walk_at "wq"; exact ⟨.str ((SG.int hi).mono (by omega)), hs'⟩
    · walk_at "wq"; exact ⟨.int (by rw [Int.natAbs_mul]; show 2 * i.natAbs < _; omega), hs'⟩
theorem ch_none (hb1 : 1 ≤ b) (hN : PhiNext Φ) {ls : List PyData} (hs : StG ls) : Wp (runB Φ fuel 7 Hn.b_w_changed true [.none] ls) (ChQ b s l n) E := by
  have h1 := one_lt_p b
  unfold runB
  walk_at "wq"
  refine wp_imp (hN 7 _ _ (by decide) (by decide) hs) ?_
  rintro d ls' ⟨k, rfl, hk0, hk1, hs'⟩
  walk_at "wq"
  refine wp_pick hk0 (by simpa using hk1) fun y hy => ?_
  simp only [List.mem_cons, List.not_mem_nil, or_false] at hy
  rcases hy with rfl | rfl | rfl | rfl | rfl | rfl | rfl
  · walk_at "wq"; exact ⟨.int h1, hs'⟩
  · walk_at "wq"; exact ⟨.int h1, hs'⟩
  · walk_at "wq"; exact ⟨.int (Nat.two_pow_pos _), hs'⟩
  · walk_at "wq"; exact ⟨.non, hs'⟩
  · walk_at "wq"; exact ⟨.bl, hs'⟩
  · walk_at "wq"; exact ⟨.str (SG.mono (s := 4) (.ofString (by decide)) (by omega)), hs'⟩
  · walk_at "wq"; exact ⟨.int (by have := four_le_p hb1; show 2 < 2 ^ (b + 1); omega), hs'⟩
theorem ch_str (hb1 : 1 ≤ b) (hN : PhiNext Φ) {z : Str} (hz : SG s z) (hsz : s ≤ 1000000) {ls : List PyData} (hs : StG ls) : Wp (runB Φ fuel 7 Hn.b_w_changed true [.str z] ls) (ChQ b s l n) E := by
  have ha : SG 1 (Str.ofString "a") := .ofString (by decide)
  have hb : SG 1 (Str.ofString "b") := .ofString (by decide)
  unfold runB
  walk_at "wq"
  refine wp_sslc hz (by walk_at "lineT") ?_
  walk_at "wq"
  refine wp_sadd hz ha (by walk_at "lineT") ?_
  walk_at "wq"
  refine wp_srev hz (by walk_at "lineT") ?_
  walk_at "wq"
  refine wp_sadd hb hz (by walk_at "lineT") ?_
  walk_at "wq"
  refine wp_sslc hz (by walk_at "lineT") ?_
  walk_at "wq"
  refine wp_imp (hN 9 _ _ (by decide) (by decide) hs) ?_
  rintro d ls' ⟨k, rfl, hk0, hk1, hs'⟩
  walk_at "wq"
  refine wp_pick hk0 (by simpa using hk1) fun y hy => ?_
  simp only [List.mem_cons, List.not_mem_nil, or_false] at hy
  rcases hy with rfl | rfl | rfl | rfl | rfl | rfl | rfl | rfl | rfl
  · walk_at "wq"; exact ⟨.str ((hz.cut _ _).mono (by omega)), hs'⟩
  · walk_at "wq"; exact ⟨.str ((hz.app ha).mono (by omega)), hs'⟩
  · walk_at "wq"; exact ⟨.str (hz.rev.mono (by omega)), hs'⟩
  · walk_at "wq"; exact ⟨.str ((hb.app hz).mono (by omega)), hs'⟩
  · walk_at "wq"; exact ⟨.str (SG.mono (s := 0) (.ofString (by decide)) (by omega)), hs'⟩
  · walk_at "wq"; exact ⟨.str ((hz.cut _ _).mono (by omega)), hs'⟩
  · walk_at "wq"; exact ⟨.str (SG.mono (s := 4) (.ofString (by decide)) (by omega)), hs'⟩
  · walk_at "wq"; exact ⟨.int (by have := four_le_p hb1; show 3 < 2 ^ (b + 1); omega), hs'⟩
  · walk_at "wq"; exact ⟨.str (SG.mono (s := 2) (.ofString (by decide)) (by omega)), hs'⟩
theorem ch_lst (hN : PhiNext Φ) {xs : List PyData} {ls : List PyData} (hs : StG ls) : Wp (runB Φ fuel 7 Hn.b_w_changed true [.list xs] ls) (ChQ b s l n) E := by
  unfold runB
  walk_at "wq"
  exact ⟨.tup ⟨Nat.zero_le _, fun x h => by cases h⟩, hs⟩

theorem eqv_nil {xs : List PyData} : PyData.eqv (.tuple xs) (.tuple []) = xs.isEmpty := by cases xs <;> rfl
theorem ne_nil {xs : List PyData} (h : TG (Gd b s l n) l xs) (hn : n + 1 ≤ 64) : cmpop .NotEq (.tuple xs) (.tuple []) = some (!xs.isEmpty) := by
  rw [neG (Gd.tup h) (Gd.tup (b := b) (s := s) (l := l) (n := n) ⟨Nat.zero_le _, fun x h => by cases h⟩) hn hn, eqv_nil]
theorem eq_nil {xs : List PyData} (h : TG (Gd b s l n) l xs) (hn : n + 1 ≤ 64) : cmpop .Eq (.tuple xs) (.tuple []) = some xs.isEmpty := by
  rw [eqG (Gd.tup h) (Gd.tup (b := b) (s := s) (l := l) (n := n) ⟨Nat.zero_le _, fun x h => by cases h⟩) hn hn, eqv_nil]
/-- a tuple made of parts of a tuple -/
theorem mk_tup {b' s' l' : Nat} {P : PyData → Prop} {xs : List PyData} {k : Nat} (h : TG P k xs) (hk : k ≤ l') (hp : ∀ x, P x → Gd b' s' l' n x) : Gd b' s' l' (n + 1) (.tuple xs) := .tup (h.mono hk hp)
/-- a comprehension, each item by an invariant -/
theorem wp_lc {f : PyData → M (Option PyData)} {P : List PyData → List PyData → Prop} {E : Ex → List PyData → Prop} (I : Nat → List PyData → List PyData → Prop) {xs : List PyData}
    (turn : ∀ (i : Nat) (x : PyData) (acc ls : List PyData), xs[i]? = some x → I i acc ls → Wp (f x ls) (fun o ls' => I (i + 1) (match o with | some d => acc ++ [d] | none => acc) ls') (fun _ _ => False))
    (fin : ∀ (acc ls : List PyData), I xs.length acc ls → P acc ls) {ls : List PyData} (h0 : I 0 [] ls) : Wp (loopC f xs [] ls) P E := by
  suffices go : ∀ (n : Nat) (acc ls : List PyData), n ≤ xs.length → I (xs.length - n) acc ls → Wp (loopC f (xs.drop (xs.length - n)) acc ls) P E by
    have := go xs.length [] ls (Nat.le_refl _) (by rw [Nat.sub_self]; exact h0)
    rw [Nat.sub_self, List.drop_zero] at this
    exact this
  intro n
  induction n with
  | zero =>
    intro acc ls _ h
    rw [Nat.sub_zero, List.drop_length]
    exact wp_ok (fin acc ls h)
  | succ n ih =>
    intro acc ls hn h
    have hlt : xs.length - (n + 1) < xs.length := by omega
    rw [List.drop_eq_getElem_cons hlt]
    have q := turn _ _ acc ls (List.getElem?_eq_getElem hlt) h
    have e : xs.length - (n + 1) + 1 = xs.length - n := by omega
    rw [e] at q ⊢
    unfold loopC
    cases e1 : f xs[xs.length - (n + 1)] ls with
    | ok o ls' =>
      rw [e1] at q
      cases o with
      | some d => exact ih _ _ (by omega) q.okI
      | none => exact ih _ _ (by omega) q.okI
    | exn x ls' => rw [e1] at q; exact q.exI.elim
    | stuck => rw [e1] at q; exact q.stI.elim
abbrev Q1 (Φ : Nat → List PyData → M PyData) (fuel : Nat) : Ss := match Hn.b_w_changed with | .cons _ (.cons _ (.cons _ (.cons _ (.cons _ r)))) => r | r => r
/-- what is made of parts of a good tuple -/
theorem part_fin {k : Nat} {ys : List PyData} (t : TG (Gd b s l n) k ys) (hk : k ≤ 5 * l + 10) : Gd (b + 1) (s + b + 5) (5 * l + 10) (n + 1 + 1) (.tuple ys) := mk_tup t hk fun x hx => Gd.mono (by omega) (by omega) (by omega) (by omega) hx
/-- the last part: the whole tuple rearranged -/
theorem ch_rest (hN : PhiNext Φ) {xs : List PyData} (h : TG (Gd b s l n) l xs) (hl : l ≤ 1000000) {ls : List PyData} (hs : StG ls) :
    Wp (exs Φ fuel (Q1 Φ fuel) [.st, .fz (.tuple xs), .no, .no, .no, .no, .no] ls) (fun f ls' => Wp (endB f ls') (ChQ b s l (n + 1)) E) E := by
  have hx := h.1
  have hlen : (0 : Int) < xs.length + 1 := by omega
  have z0 : Gd b s l n (.int 0) := .int (Nat.two_pow_pos _)
  walk_at "wq"
  refine wp_imp (hN _ _ _ hlen (by omega) hs) ?_
  rintro d ls1 ⟨k, rfl, k0, k1, hs1⟩
  walk_at "wq"
  refine wp_imp (hN _ _ _ hlen (by omega) hs1) ?_
  rintro d ls2 ⟨j, rfl, j0, j1, hs2⟩
  walk_at "wq"
  have gm : ∀ y ∈ [PyData.tuple (cut xs none (some k) ++ cut xs (some (k + 1)) none), PyData.tuple (xs ++ cut xs none (some 1)), PyData.tuple xs.reverse, PyData.tuple (cut xs (some k) none ++ cut xs none (some k)), PyData.list xs,
      PyData.tuple (cut xs none (some k)), PyData.tuple [], PyData.tuple (xs ++ [PyData.int 0])], Gd (b + 1) (s + b + 5) (5 * l + 10) (n + 1 + 1) y := by
    intro y hy
    simp only [List.mem_cons, List.not_mem_nil, or_false] at hy
    rcases hy with rfl | rfl | rfl | rfl | rfl | rfl | rfl | rfl
    · exact part_fin (by walk_at "tgT") (by omega)
    · exact part_fin (by walk_at "tgT") (by omega)
    · exact part_fin (by walk_at "tgT") (by omega)
    · exact part_fin (by walk_at "tgT") (by omega)
    · exact Gd.mono (by omega) (by omega) (by omega) (by omega) (Gd.lst h)
    · exact part_fin (by walk_at "tgT") (by omega)
    · exact part_fin (by walk_at "tgT") (by omega)
    · exact part_fin (by walk_at "tgT") (by omega)
  have gs : Gd (b + 1) (s + b + 5) (5 * l + 10) (n + 1 + 1) (.tuple (cut xs none (some k) ++ cut xs (some j) (some (j + 1)) ++ cut xs (some (k + 1)) (some j) ++ cut xs (some k) (some (k + 1)) ++ cut xs (some (j + 1)) none)) := part_fin (by walk_at "tgT") (by omega)
  refine wp_if (fun c => ?_) (fun c => ?_)
  · walk_at "wq"
    refine wp_if (fun c2 => ?_) (fun c2 => ?_)
    · walk_at "wq"
      refine wp_lc (fun i acc ls' => StG ls' ∧ acc.length ≤ i ∧ ∀ y ∈ acc, Gd (b + 1) (s + b + 5) (5 * l + 10) (n + 1 + 1) y) ?_ ?_ ⟨hs2, Nat.zero_le _, fun y hy => by cases hy⟩
      · rintro i x acc ls3 hx' ⟨hs3, ha, hg⟩
        obtain ⟨hi, rfl⟩ := rng_get hx'
        walk_at "wq"
        refine ⟨hs3, by rw [List.length_append]; exact Nat.add_le_add ha (Nat.le_refl 1), fun y hy => ?_⟩
        rcases List.mem_append.mp hy with hy | hy
        · exact hg y hy
        · rw [List.mem_singleton] at hy
          subst hy
          exact gs
      · rintro acc ls3 ⟨hs3, ha, hg⟩
        have ha : acc.length ≤ 3 := ha
        walk_at "wq"
        refine wp_la (k := 8) (m := 3) (Nat.le_refl _) ha (by walk_at "lineT") ?_
        walk_at "wq"
        refine wp_imp (hN _ _ _ (by simp only [List.length_append, List.length_cons]; omega) (by simp only [List.length_append, List.length_cons, List.length_nil]; omega) hs3) ?_
        rintro d ls4 ⟨q, rfl, q0, q1, hs4⟩
        walk_at "wq"
        exact wp_pick q0 q1 fun y hy => by
          walk_at "wq"
          refine ⟨?_, hs4⟩
          rcases List.mem_append.mp hy with hy | hy
          · exact gm y hy
          · exact hg y hy
    · walk_at "wq"
      refine wp_imp (hN 8 _ _ (by decide) (by decide) hs2) ?_
      rintro d ls3 ⟨q, rfl, q0, q1, hs3⟩
      walk_at "wq"
      exact wp_pick q0 (by simpa using q1) fun y hy => by walk_at "wq"; exact ⟨gm y hy, hs3⟩
  · walk_at "wq"
    refine wp_imp (hN 8 _ _ (by decide) (by decide) hs2) ?_
    rintro d ls3 ⟨q, rfl, q0, q1, hs3⟩
    walk_at "wq"
    exact wp_pick q0 (by simpa using q1) fun y hy => by walk_at "wq"; exact ⟨gm y hy, hs3⟩
theorem ch_tup (hN : PhiNext Φ) (hC : PhiCh b s l n Φ) {xs : List PyData} (h : TG (Gd b s l n) l xs) (hl : l ≤ 1000000) (hn : n + 1 ≤ 64) {ls : List PyData} (hs : StG ls) :
    Wp (runB Φ fuel 7 Hn.b_w_changed true [.tuple xs] ls) (ChQ b s l (n + 1)) E := by
  have hx := h.1
  unfold runB
  walk_at "wq"
  refine wp_opt ⟨_, by rw [ne_nil h hn]; rfl, ?_⟩
  cases xs with
  | nil => repeat (first | exact ch_rest hN h hl hs | walk_at "wp1")
  | cons y0 ys =>
    walk_at "wq"
    refine wp_imp (hN 4 _ _ (by decide) (by decide) hs) ?_
    rintro d ls1 ⟨k, rfl, k0, k1, hs1⟩
    walk_at "wq"
    refine wp_if (fun c => ?_) (fun c => ?_)
    · walk_at "wq"
      refine wp_imp (hN _ _ _ (by simp only [List.length_cons]; omega) (by omega) hs1) ?_
      rintro d ls2 ⟨j, rfl, j0, j1, hs2⟩
      walk_at "wq"
      refine wp_pickT j0 j1 fun y hy => ?_
      walk_at "wq"
      refine wp_imp (hC _ _ _ (h.2 y hy) hs2) ?_
      rintro d ls3 ⟨gd, hs3⟩
      walk_at "wq"
      refine ⟨.tup (TG.mono (k := l + 1 + l) ?_ (by omega) fun x hx => hx), hs3⟩
      have m0 : ∀ x, Gd b s l n x → Gd (b + 1) (s + b + 5) (5 * l + 10) (n + 1) x := fun x hx => Gd.mono (by omega) (by omega) (by omega) (by omega) hx
      exact ((TG.mono (h.cut _ _) (Nat.le_refl _) m0).app (TG.one gd)).app (TG.mono (h.cut _ _) (Nat.le_refl _) m0)
    · repeat (first | exact ch_rest hN h hl hs1 | walk_at "wp1")
theorem changed_body (hb1 : 1 ≤ b) (hb : b ≤ 1900) (hsz : s ≤ 1000000) (hl : l ≤ 1000000) (hn : n ≤ 60) (hN : PhiNext Φ) (hC : ∀ m, n = m + 1 → PhiCh b s l m Φ) {d : PyData} (h : Gd b s l n d) {ls : List PyData} (hs : StG ls) :
    Wp (runB Φ fuel 7 Hn.b_w_changed true [d] ls) (ChQ b s l n) E := by
  cases d with
  | none => exact ch_none hb1 hN hs
  | bool x => exact ch_bool hN hs
  | int i => exact ch_int hb1 hN h.of_int (by omega) hs
  | str z => exact ch_str hb1 hN h.of_str hsz hs
  | tuple xs =>
    obtain ⟨m, rfl, t⟩ := h.of_tup
    exact ch_tup hN (hC m rfl) t hl (by omega) hs
  | list xs => exact ch_lst hN hs
  | dict _ => exact h.no_dict.elim
end Pv

set_option maxRecDepth 100000
set_option maxHeartbeats 1000000
/-! The whole numbers in a told thing; two of them exchanged. -/
namespace Pv
open PySem PySem.W
mutual
/-- how many leaves a thing has -/
def lv : PyData → Nat
  | .tuple xs => lvs xs
  | .list xs => lvs xs
  | _ => 1
def lvs : List PyData → Nat
  | [] => 0
  | x :: xs => lv x + lvs xs
end
theorem lvs_take : ∀ {xs : List PyData} {i : Nat} {x : PyData}, xs[i]? = some x → lvs (xs.take (i + 1)) = lvs (xs.take i) + lv x
  | [], i, x, h => by simp at h
  | y :: ys, 0, x, h => by
    have e : y = x := by simpa using h
    subst e
    show lv y + lvs (ys.take 0) = lvs [] + lv y
    rw [List.take_zero]
    show lv y + 0 = 0 + lv y
    omega
  | y :: ys, i + 1, x, h => by
    have := lvs_take (xs := ys) (i := i) (x := x) (by simpa using h)
    show lv y + lvs (ys.take (i + 1)) = lv y + lvs (ys.take i) + lv x
    omega
theorem lvs_le : ∀ {xs : List PyData} {i : Nat}, lvs (xs.take i) ≤ lvs xs
  | [], i => by rw [List.take_nil]; exact Nat.le_refl _
  | y :: ys, 0 => by rw [List.take_zero]; exact Nat.zero_le _
  | y :: ys, i + 1 => by
    have := lvs_le (xs := ys) (i := i)
    show lv y + lvs (ys.take i) ≤ lv y + lvs ys
    omega
variable {Φ : Nat → List PyData → M PyData} {fuel : Nat} {E : Ex → List PyData → Prop} {b s l n : Nat}
/-- whole numbers, as data -/
def IntsG (b k : Nat) (r : PyData) : Prop := ∃ ns : List Int, r = .list (ns.map .int) ∧ (∀ i ∈ ns, i.natAbs < 2 ^ b) ∧ ns.length ≤ k
def PhiInts (b s l n : Nat) (Φ : Nat → List PyData → M PyData) : Prop := ∀ (d : PyData) (ls : List PyData) (E : Ex → List PyData → Prop), Gd b s l n d → lv d ≤ 1000000 → Wp (Φ 3 [d] ls) (fun r ls' => ls' = ls ∧ IntsG b (lv d) r) E
theorem ints_shaped (ns : List Int) : SeqAt.shaped (.list (ns.map .int)) = true := by
  have h1 : ∀ ns : List Int, PyData.canLayAll0 (ns.map PyData.int) = true := fun ns => by
    induction ns with
    | nil => rfl
    | cons i ns ih => show (true && PyData.canLayAll0 (ns.map PyData.int)) = true; rw [ih]; rfl
  have h2 : ∀ ns : List Int, PyData.depthAll (ns.map PyData.int) = 0 := fun ns => by
    induction ns with
    | nil => rfl
    | cons i ns ih => show max 0 (PyData.depthAll (ns.map PyData.int)) = 0; rw [ih]; rfl
  unfold SeqAt.shaped
  rw [show (PyData.list (ns.map PyData.int)).canLay0 = PyData.canLayAll0 (ns.map PyData.int) from rfl, h1, show (PyData.list (ns.map PyData.int)).depth = PyData.depthAll (ns.map PyData.int) + 1 from rfl, h2]
  rfl
theorem notin_ints (i : Int) (ns : List Int) : ∃ c, cmpop .NotIn (.int i) (.list (ns.map .int)) = some c := ⟨_, by
  show (if (SeqAt.shaped (.int i) && SeqAt.shaped (.list (ns.map PyData.int))) = true then _ else _) = _
  rw [ints_shaped]
  rfl⟩
theorem ints_body (hI : ∀ m, n = m + 1 → PhiInts b s l m Φ) {d : PyData} (h : Gd b s l n d) (hv : lv d ≤ 1000000) (ls : List PyData) :
    Wp (runB Φ fuel 4 Hn.b_w_ints false [d] ls) (fun r ls' => ls' = ls ∧ IntsG b (lv d) r) E := by
  have nil : IntsG b (lv d) (.list []) := ⟨[], rfl, (fun i hi => by cases hi), Nat.zero_le _⟩
  cases d with
  | none => unfold runB; walk_at "wq"; exact ⟨rfl, nil⟩
  | bool x => unfold runB; walk_at "wq"; exact ⟨rfl, nil⟩
  | str z => unfold runB; walk_at "wq"; exact ⟨rfl, nil⟩
  | list xs => unfold runB; walk_at "wq"; exact ⟨rfl, nil⟩
  | dict _ => exact h.no_dict.elim
  | int i => unfold runB; walk_at "wq"; exact ⟨rfl, [i], rfl, fun j hj => by rw [List.mem_singleton] at hj; subst hj; exact h.of_int, Nat.le_refl _⟩
  | tuple xs =>
    obtain ⟨m, rfl, t⟩ := h.of_tup
    unfold runB
    walk_at "wq"
    have hv : lvs xs ≤ 1000000 := hv
    refine wp_for (fun i ρ ls' => ls' = ls ∧ ∃ w ns, w ≠ Slot.st ∧ ρ = [.fz (.tuple xs), .fz (.list (ns.map .int)), w, .no] ∧ (∀ i ∈ ns, i.natAbs < 2 ^ b) ∧ ns.length ≤ lvs (xs.take i)) ?_ ?_
      ⟨rfl, .no, [], by simp, rfl, (fun i hi => by cases hi), Nat.zero_le _⟩
    · rintro i x ρ ls' hx ⟨rfl, w, ns, hw, rfl, g, hl⟩
      have hlt := lvs_take hx
      have hle := lvs_le (xs := xs) (i := i + 1)
      refine wp_bind (wp_opt ⟨[.fz (.tuple xs), .fz (.list (ns.map .int)), .fz x, .no], by cases w <;> first | rfl | exact absurd rfl hw, ?_⟩)
      walk_at "wq"
      refine wp_imp (hI m rfl x ls' _ (t.2 x (List.mem_of_getElem? hx)) (by omega)) ?_
      rintro r ls2 ⟨rfl, ms, rfl, gm, hm⟩
      walk_at "wq"
      refine wp_lc (fun j acc ls' => ls' = ls2 ∧ ∃ ks : List Int, acc = ks.map .int ∧ (∀ i ∈ ks, i.natAbs < 2 ^ b) ∧ ks.length ≤ j) ?_ ?_ ⟨rfl, [], rfl, (fun i hi => by cases hi), Nat.zero_le _⟩
      · rintro j y acc ls3 hy ⟨rfl, ks, rfl, gk, hk⟩
        obtain ⟨y', hy', rfl⟩ : ∃ y' : Int, ms[j]? = some y' ∧ y = .int y' := by
          rw [List.getElem?_map] at hy
          obtain ⟨y', h1, h2⟩ := Option.map_eq_some_iff.mp hy
          exact ⟨y', h1, h2.symm⟩
        obtain ⟨c, hc⟩ := notin_ints y' ns
        walk_at "wq"
        refine wp_opt ⟨.bool c, by rw [hc]; rfl, ?_⟩
        walk_at "wq"
        refine wp_if (fun c => ?_) (fun c => ?_)
        · walk_at "wq"
          refine ⟨rfl, ks ++ [y'], by simp, fun i hi => ?_, by rw [List.length_append]; exact Nat.add_le_add hk (Nat.le_refl 1)⟩
          rcases List.mem_append.mp hi with hi | hi
          · exact gk i hi
          · rw [List.mem_singleton] at hi
            subst hi
            exact gm _ (List.mem_of_getElem? hy')
        · walk_at "wq"
          exact ⟨rfl, ks, rfl, gk, by omega⟩
      · rintro acc ls3 ⟨rfl, ks, rfl, gk, hk⟩
        rw [List.length_map] at hk
        walk_at "wq"
        refine wp_la (k := ns.length) (m := ks.length) (by simp) (by simp) (by walk_at "lineT") ?_
        walk_at "wq"
        refine ⟨rfl, .fz x, ns ++ ks, (by simp), (by rw [List.map_append]; rfl), fun i hi => ?_, by rw [List.length_append]; omega⟩
        exact (List.mem_append.mp hi).elim (g i) (gk i)
    · rintro ρ ls' ⟨rfl, w, ns, hw, rfl, g, hl⟩
      walk_at "wq"
      rw [List.take_length] at hl
      exact ⟨rfl, ns, rfl, g, hl⟩
def PhiExc (b s l n : Nat) (Φ : Nat → List PyData → M PyData) : Prop := ∀ (d : PyData) (i j : Int) (ls : List PyData) (E : Ex → List PyData → Prop), Gd b s l n d → i.natAbs < 2 ^ b → j.natAbs < 2 ^ b → Wp (Φ 4 [d, .int i, .int j] ls) (fun r ls' => ls' = ls ∧ Gd b s l n r) E
theorem exc_body (hX : ∀ m, n = m + 1 → PhiExc b s l m Φ) {d : PyData} (h : Gd b s l n d) {i j : Int} (hi : i.natAbs < 2 ^ b) (hj : j.natAbs < 2 ^ b) (ls : List PyData) :
    Wp (runB Φ fuel 4 Hn.b_w_exchanged false [d, .int i, .int j] ls) (fun r ls' => ls' = ls ∧ Gd b s l n r) E := by
  cases d with
  | none => unfold runB; walk_at "wq"; exact ⟨rfl, h⟩
  | bool x => unfold runB; walk_at "wq"; exact ⟨rfl, h⟩
  | str z => unfold runB; walk_at "wq"; exact ⟨rfl, h⟩
  | list xs => unfold runB; walk_at "wq"; exact ⟨rfl, h⟩
  | dict _ => exact h.no_dict.elim
  | int k =>
    unfold runB
    walk_at "wq"
    refine wp_if (fun c => ?_) (fun c => ?_)
    · walk_at "wq"
      exact ⟨rfl, .int hj⟩
    · walk_at "wq"
      refine wp_if (fun c => ?_) (fun c => ?_)
      · walk_at "wq"
        exact ⟨rfl, .int hi⟩
      · walk_at "wq"
        exact ⟨rfl, h⟩
  | tuple xs =>
    obtain ⟨m, rfl, t⟩ := h.of_tup
    unfold runB
    walk_at "wq"
    refine wp_lc (fun q acc ls' => ls' = ls ∧ acc.length ≤ q ∧ ∀ y ∈ acc, Gd b s l m y) ?_ ?_ ⟨rfl, Nat.zero_le _, fun y hy => by cases hy⟩
    · rintro q x acc ls' hx ⟨rfl, ha, hg⟩
      walk_at "wq"
      refine wp_imp (hX m rfl x i j ls' _ (t.2 x (List.mem_of_getElem? hx)) hi hj) ?_
      rintro r ls2 ⟨rfl, gr⟩
      walk_at "wq"
      refine ⟨rfl, by rw [List.length_append]; exact Nat.add_le_add ha (Nat.le_refl 1), fun y hy => ?_⟩
      rcases List.mem_append.mp hy with hy | hy
      · exact hg y hy
      · rw [List.mem_singleton] at hy
        subst hy
        exact gr
    · rintro acc ls' ⟨rfl, ha, hg⟩
      walk_at "wq"
      exact ⟨rfl, .tup ⟨Nat.le_trans ha t.1, hg⟩⟩
end Pv

set_option maxRecDepth 100000
set_option maxHeartbeats 1000000
/-! A told thing with texts, cut. -/
namespace Pv
open PySem PySem.W
variable {Φ : Nat → List PyData → M PyData} {fuel : Nat} {E : Ex → List PyData → Prop} {b s l n : Nat}
theorem cut_map {α β : Type} (f : α → β) (xs : List α) (lo hi : Option Int) : cut (xs.map f) lo hi = (cut xs lo hi).map f := by
  unfold cut
  rw [List.length_map, ← List.map_drop, ← List.map_take]
theorem strsOf_map : ∀ zs : List Str, strsOf (zs.map .str) = some zs
  | [] => rfl
  | z :: zs => by
    show (strsOf (zs.map .str)).map (z :: ·) = _
    rw [strsOf_map zs]
    rfl
theorem glued_cps (acc : Array Nat) : ∀ zs : List Str, zs.foldl (fun acc p => acc ++ (Str.mk #[]).cps ++ p.cps) acc = acc ++ (zs.flatMap fun z => z.cps.toList).toArray
  | [] => by simp
  | z :: zs => by
    rw [List.foldl_cons, glued_cps _ zs]
    apply Array.ext'
    simp
theorem join_cps (zs : List Str) : Txt.join (Str.mk #[]) zs = ⟨(zs.flatMap fun z => z.cps.toList).toArray⟩ := by
  cases zs with
  | nil => rfl
  | cons z zs =>
    show (⟨zs.foldl (fun acc p => acc ++ (Str.mk #[]).cps ++ p.cps) z.cps⟩ : Str) = _
    rw [glued_cps]
    congr 1
    apply Array.ext'
    simp
theorem flat_len : ∀ {zs : List Str} {k : Nat}, (∀ z ∈ zs, SG s z) → zs.length ≤ k → (zs.flatMap fun z => z.cps.toList).length ≤ k * s
  | [], k, _, _ => Nat.zero_le _
  | z :: zs, 0, _, h => by simp at h
  | z :: zs, k + 1, g, h => by
    rw [List.flatMap_cons, List.length_append, Nat.succ_mul]
    have := flat_len (zs := zs) (k := k) (fun y hy => g y (List.mem_cons_of_mem _ hy)) (by simpa using h)
    have := (g z List.mem_cons_self).len
    omega
theorem SG.join {zs : List Str} {k : Nat} (g : ∀ z ∈ zs, SG s z) (h : zs.length ≤ k) : SG (k * s) (Txt.join (Str.mk #[]) zs) := by
  rw [join_cps]
  refine .of_list (flat_len g h) fun c hc => ?_
  obtain ⟨z, hz, hc⟩ := List.mem_flatMap.mp hc
  exact (g z hz).cps c hc
theorem sum_len : ∀ {zs : List Str} {k : Nat}, (∀ z ∈ zs, SG s z) → zs.length ≤ k → (zs.map (·.length)).sum ≤ k * s
  | [], k, _, _ => Nat.zero_le _
  | z :: zs, 0, _, h => by simp at h
  | z :: zs, k + 1, g, h => by
    rw [List.map_cons, List.sum_cons, Nat.succ_mul]
    have := sum_len (zs := zs) (k := k) (fun y hy => g y (List.mem_cons_of_mem _ hy)) (by simpa using h)
    have := (g z List.mem_cons_self).1
    omega
section
variable {ls : List PyData} {Q : PyData → List PyData → Prop}
theorem wp_join {zs : List Str} {k : Nat} (g : ∀ z ∈ zs, SG s z) (h : zs.length ≤ k) (hz : k * s ≤ 16777216) (q : Q (.str (Txt.join (Str.mk #[]) zs)) ls) : Wp (M.opt (f1 .join (.tuple (zs.map .str))) ls) Q E := by
  refine wp_opt ⟨_, ?_, q⟩
  simp only [f1, seqOf, Option.bind_some, strsOf_map]
  exact if_pos (by have := sum_len g h; omega)
theorem wp_chars {z : Str} (g : SG s z) (hz : s ≤ sizeLine) (q : Q (.tuple (z.cps.toList.map fun c => PyData.str ⟨#[c]⟩)) ls) : Wp (M.opt (f1 .tuple (.str z)) ls) Q E :=
  wp_opt ⟨_, if_pos (Nat.le_trans g.1 hz), q⟩
theorem wp_slen {z : Str} (g : SG s z) (hz : s ≤ sizeLine) (q : Q (.int z.length) ls) : Wp (M.opt (f1 .len (.str z)) ls) Q E := wp_opt ⟨_, if_pos (Nat.le_trans g.1 hz), q⟩
end
theorem chars_good {z : Str} (g : SG s z) : TG (Gd b 1 l n) s (z.cps.toList.map fun c => PyData.str ⟨#[c]⟩) := .map g.len fun c hc => .str (SG.of_list (cs := [c]) (Nat.le_refl 1) fun d hd => by rw [List.mem_singleton] at hd; subst hd; exact g.cps d hc)
theorem wp_joinE {ls : List PyData} {Q : PyData → List PyData → Prop} {ys : List PyData} {zs : List Str} {k : Nat} (e : ys = zs.map .str) (g : ∀ z ∈ zs, SG s z) (h : zs.length ≤ k) (hz : k * s ≤ 16777216) (q : Q (.str (Txt.join (Str.mk #[]) zs)) ls) : Wp (M.opt (f1 .join (.tuple ys)) ls) Q E := by
  subst e
  exact wp_join g h hz q
/-- what cut gives -/
abbrev CutQ (b s l n : Nat) (t : Bool) (d : PyData) (ls' : List PyData) : Prop := Gd b (l * s + 2 * s + 10) (l * s + 3 * l + 10) (n + 1) d ∧ StG ls' ∧ (t = true → ∃ ys, d = .tuple ys)
abbrev Q2 : Ss := match Hn.b_w_cut with | .cons _ (.cons _ r) => r | r => r
theorem atI_strs {zs : List Str} {k : Int} (h : 0 ≤ k) (h2 : k < (zs.map PyData.str).length) : ∃ z ∈ zs, L2.atI (zs.map PyData.str) k = some (.str z) := by
  obtain ⟨j, rfl⟩ := Int.eq_ofNat_of_zero_le h
  have hl : j < zs.length := by simpa using h2
  refine ⟨zs[j], List.getElem_mem hl, L2.atI_nat (j := j) ?_⟩
  rw [List.getElem?_map, List.getElem?_eq_getElem hl]
  rfl
theorem cut_strs (hN : PhiNext Φ) {zs : List Str} (g : ∀ z ∈ zs, SG s z) (hl : zs.length ≤ l) (h0 : 0 < zs.length) (hs1 : s ≤ 100000) (hl1 : l ≤ 100000) (hls : l * s ≤ 1000000) {ls : List PyData} (hs : StG ls) :
    Wp (exs Φ fuel Q2 [.st, .fz (.tuple (zs.map .str)), .no, .no, .no, .no] ls) (fun f ls' => Wp (endB f ls') (CutQ b s l (n + 1) true) E) E := by
  have hx : (zs.map PyData.str).length ≤ l := by rw [List.length_map]; exact hl
  walk_at "wq"
  refine wp_imp (hN _ _ _ (by rw [List.length_map]; omega) (by omega) hs) ?_
  rintro d ls1 ⟨k, rfl, k0, k1, hs1'⟩
  obtain ⟨z, hz, hk⟩ := atI_strs k0 k1
  have gz := g z hz
  walk_at "wq"
  refine wp_opt ⟨.str z, hk, ?_⟩
  walk_at "wq"
  refine wp_slen gz (by walk_at "lineT") ?_
  walk_at "wq"
  have hzl := gz.1
  refine wp_imp (hN _ _ _ (by omega) (by omega) hs1') ?_
  rintro d ls2 ⟨j, rfl, j0, j1, hs2⟩
  walk_at "wq"
  refine wp_opt ⟨.str z, hk, ?_⟩
  walk_at "wq"
  refine wp_sslc gz (by walk_at "lineT") ?_
  walk_at "wq"
  refine wp_opt ⟨.str z, hk, ?_⟩
  walk_at "wq"
  refine wp_sslc gz (by walk_at "lineT") ?_
  walk_at "wq"
  refine wp_joinE (cut_map _ _ _ _) (fun y hy => g y (cut_mem hy)) (Nat.le_trans (cut_len _ _ _) hl) (by omega) ?_
  walk_at "wq"
  refine wp_joinE rfl g hl (by omega) ?_
  walk_at "wq"
  refine wp_joinE rfl g hl (by omega) ?_
  walk_at "wq"
  refine wp_chars (SG.join g hl) (by walk_at "lineT") ?_
  walk_at "wq"
  have jn : ∀ lo hi, SG (l * s) (Txt.join (Str.mk #[]) (cut zs lo hi)) := fun lo hi => SG.join (fun y hy => g y (cut_mem hy)) (Nat.le_trans (cut_len _ _ _) hl)
  refine wp_imp (hN 6 _ _ (by decide) (by decide) hs2) ?_
  rintro d ls3 ⟨q, rfl, q0, q1, hs3⟩
  walk_at "wq"
  refine wp_pick q0 (by simpa using q1) fun y hy => ?_
  walk_at "wq"
  refine ⟨?_, hs3, fun _ => ?_⟩
  rotate_left
  · simp only [List.cons_append, List.nil_append, List.mem_cons, List.not_mem_nil, or_false] at hy
    rcases hy with rfl | rfl | rfl | rfl | rfl | rfl <;> exact ⟨_, rfl⟩
  have S0 : ∀ {z : Str} {t : Nat}, SG t z → t ≤ l * s + 2 * s + 10 → Gd b (l * s + 2 * s + 10) (l * s + 3 * l + 10) (n + 1) (.str z) := fun h ht => .str (h.mono ht)
  have tx : TG (Gd b (l * s + 2 * s + 10) (l * s + 3 * l + 10) (n + 1)) l (zs.map PyData.str) := .map hl fun z hz => S0 (g z hz) (by omega)
  have fin : ∀ {ys : List PyData} {k : Nat}, TG (Gd b (l * s + 2 * s + 10) (l * s + 3 * l + 10) (n + 1)) k ys → k ≤ l * s + 3 * l + 10 → Gd b (l * s + 2 * s + 10) (l * s + 3 * l + 10) (n + 1 + 1) (.tuple ys) := fun t hk => .tup (t.mono hk fun _ h => h)
  simp only [List.cons_append, List.nil_append, List.mem_cons, List.not_mem_nil, or_false] at hy
  rcases hy with rfl | rfl | rfl | rfl | rfl | rfl
  · exact fin (((tx.cut _ _).app (.cons (S0 (gz.cut _ _) (by omega)) (.one (S0 (gz.cut _ _) (by omega))))).app (tx.cut _ _)) (by omega)
  · exact fin (((tx.cut _ _).app (.one (S0 (jn _ _) (by omega)))).app (tx.cut _ _)) (by omega)
  · exact fin (.one (S0 (SG.join g hl) (by omega))) (by omega)
  · exact fin (TG.mono (chars_good (b := b) (l := l * s + 3 * l + 10) (n := n + 1) (SG.join g hl)) (Nat.le_refl _) fun x hx => Gd.mono (Nat.le_refl _) (by omega) (Nat.le_refl _) (Nat.le_refl _) hx) (by omega)
  · exact fin (((tx.cut _ _).app (.one (S0 (SG.ofString (s := 0) (by decide)) (by omega)))).app (tx.cut _ _)) (by omega)
  · exact fin (((tx.cut _ _).app (tx.cut _ _).rev).app (tx.cut _ _)) (by omega)
def PhiCut (b s l n : Nat) (Φ : Nat → List PyData → M PyData) : Prop := ∀ (d : PyData) (ls : List PyData) (E : Ex → List PyData → Prop), Gd b s l n d → StG ls → Wp (Φ 5 [d] ls) (CutQ b s l n (isTy .tuple d)) E
theorem strs_of : ∀ {xs : List PyData}, (∀ x ∈ xs, isTy .str x = true) → ∃ zs : List Str, xs = zs.map .str
  | [], _ => ⟨[], rfl⟩
  | x :: xs, h => by
    obtain ⟨zs, rfl⟩ := strs_of fun y hy => h y (List.mem_cons_of_mem _ hy)
    have := h x List.mem_cons_self
    cases x with
    | str z => exact ⟨z :: zs, rfl⟩
    | _ => cases this
theorem cut_body (hN : PhiNext Φ) (hC : ∀ m, n = m + 1 → PhiCut b s l m Φ) (hs1 : s ≤ 100000) (hl1 : l ≤ 100000) (hls : l * s ≤ 1000000) (hn : n ≤ 60) {d : PyData} (h : Gd b s l n d) {ls : List PyData} (hs : StG ls) :
    Wp (runB Φ fuel 6 Hn.b_w_cut true [d] ls) (CutQ b s l n (isTy .tuple d)) E := by
  have same : CutQ b s l n (isTy .tuple d) d ls := ⟨Gd.mono (Nat.le_refl _) (by omega) (by omega) (by omega) h, hs, fun e => by cases d <;> first | exact ⟨_, rfl⟩ | cases e⟩
  cases d with
  | none => unfold runB; walk_at "wq"; exact same
  | bool x => unfold runB; walk_at "wq"; exact same
  | str z => unfold runB; walk_at "wq"; exact same
  | list xs => unfold runB; walk_at "wq"; exact same
  | int i => unfold runB; walk_at "wq"; exact same
  | dict _ => exact h.no_dict.elim
  | tuple xs =>
    obtain ⟨m, rfl, t⟩ := h.of_tup
    unfold runB
    walk_at "wq"
    refine wp_opt ⟨_, by rw [eq_nil t (by omega)]; rfl, ?_⟩
    cases xs with
    | nil => walk_at "wq"; exact same
    | cons y0 ys =>
      walk_at "wq"
      refine wp_lc (fun i acc ls' => ls' = ls ∧ TG (Gd b s l m) i acc ∧ (acc = [] → ∀ (j : Nat) (x : PyData), j < i → (y0 :: ys)[j]? = some x → isTy .str x = true)) ?_ ?_ ⟨rfl, TG.nil, fun _ j x hj => absurd hj (Nat.not_lt_zero _)⟩
      · rintro i x acc ls' hx ⟨rfl, ta, hA⟩
        have gx := t.2 x (List.mem_of_getElem? hx)
        walk_at "wq"
        refine wp_if (fun c => ?_) (fun c => ?_)
        · walk_at "wq"
          exact ⟨rfl, ta.app (.one gx), fun e => by simp at e⟩
        · walk_at "wq"
          refine ⟨rfl, ta.mono (Nat.le_succ _) fun _ h => h, fun e j x' hj hx' => ?_⟩
          by_cases hji : j = i
          · subst hji
            rw [hx] at hx'
            cases hx'
            have c : (!isTy .str x) = false := c
            simpa using c
          · exact hA e j x' (by omega) hx'
      · rintro acc ls' ⟨rfl, ta, hA⟩
        walk_at "wq"
        have el : cmpop .NotEq (.list acc) (.list []) = some (!acc.isEmpty) := by
          rw [neG (Gd.lst (ta.mono t.1 fun _ h => h)) (Gd.lst (b := b) (s := s) (l := l) (n := m) ⟨Nat.zero_le _, fun x h => by cases h⟩) (by omega) (by omega)]
          cases acc <;> rfl
        refine wp_opt ⟨_, by rw [el]; rfl, ?_⟩
        cases acc with
        | nil =>
          obtain ⟨zs, hz⟩ := strs_of (xs := y0 :: ys) fun x hx => by
            obtain ⟨j, hj, e⟩ := List.getElem_of_mem hx
            exact hA rfl j x hj (by rw [← e]; exact List.getElem?_eq_getElem hj)
          have hl : zs.length ≤ l := by have := t.1; rw [hz, List.length_map] at this; exact this
          have h0 : 0 < zs.length := by have := congrArg List.length hz; rw [List.length_map] at this; rw [← this]; exact Nat.succ_pos _
          have g : ∀ z ∈ zs, SG s z := fun z hzz => (t.2 (.str z) (by rw [hz]; exact List.mem_map_of_mem hzz)).of_str
          rw [hz]
          repeat (first | exact cut_strs hN g hl h0 hs1 hl1 hls hs | walk_at "wp1")
        | cons a as =>
          walk_at "wq"
          refine wp_imp (hN _ _ _ (by simp only [List.length_cons]; omega) (by have := t.1; omega) hs) ?_
          rintro d ls2 ⟨j, rfl, j0, j1, hs2⟩
          walk_at "wq"
          refine wp_pickT j0 j1 fun y hy => ?_
          walk_at "wq"
          refine wp_imp (hC m rfl _ _ _ (t.2 y hy) hs2) ?_
          rintro d ls3 ⟨gd, hs3, _⟩
          have hx := t.1
          walk_at "wq"
          refine ⟨.tup (TG.mono (k := l + 1 + l) ?_ (by omega) fun x hx => hx), hs3, fun _ => ⟨_, rfl⟩⟩
          have m0 : ∀ x, Gd b s l m x → Gd b (l * s + 2 * s + 10) (l * s + 3 * l + 10) (m + 1) x := fun x hx => Gd.mono (Nat.le_refl _) (by omega) (by omega) (by omega) hx
          exact ((TG.mono (t.cut _ _) (Nat.le_refl _) m0).app (TG.one gd)).app (TG.mono (t.cut _ _) (Nat.le_refl _) m0)
end Pv

set_option maxRecDepth 100000
set_option maxHeartbeats 1000000
/-! A told thing turned about. -/
namespace Pv
open PySem PySem.W
variable {Φ : Nat → List PyData → M PyData} {fuel : Nat} {E : Ex → List PyData → Prop} {b s l n : Nat}
abbrev TurnQ (b s l n : Nat) (d : PyData) (ls' : List PyData) : Prop := Gd (b + 1) (l * s + 2 * s + 10) (l * s + 4 * l + 20) (n + 2) d ∧ StG ls'
abbrev Q3 : Ss := match Hn.b_w_turned_about with | .cons _ (.cons _ (.cons _ (.cons _ r))) => r | r => r
theorem turn_fin {k : Nat} {ys : List PyData} (t : TG (Gd b s l n) k ys) (hk : k ≤ l * s + 4 * l + 20) : Gd (b + 1) (l * s + 2 * s + 10) (l * s + 4 * l + 20) (n + 2) (.tuple ys) := by
  refine Gd.mono (Nat.le_refl _) (Nat.le_refl _) (Nat.le_refl _) (show n + 1 ≤ n + 2 by omega) (.tup (t.mono hk fun x hx => ?_))
  exact Gd.mono (by omega) (by omega) (by omega) (Nat.le_refl _) hx
abbrev Q4 : Ss := match Q3 with | .cons _ (.cons _ r) => r | r => r
theorem turn_last {xs : List PyData} (t : TG (Gd b s l n) l xs) (hl1 : l ≤ 100000) {ls : List PyData} (hs : StG ls) {w2 w3 w4 w5 : Slot} {k j : Int} :
    Wp (exs Φ fuel Q4 [.st, .fz (.tuple xs), w2, w3, w4, w5, .fz (.int k), .fz (.int j), .no] ls) (fun f ls' => Wp (endB f ls') (TurnQ b s l n) E) E := by
  have hx := t.1
  have same : TurnQ b s l n (.tuple xs) ls := ⟨turn_fin t (by omega), hs⟩
  walk_at "wq"
  refine ⟨_, rfl, fun c => ?_, fun c => ?_⟩
  · walk_at "wq"
    refine wp_if (fun c2 => ?_) (fun c2 => ?_)
    · walk_at "wq"
      exact ⟨turn_fin (by walk_at "tgT") (by omega), hs⟩
    · walk_at "wq"
      exact same
  · walk_at "wq"
    refine wp_false c ?_
    walk_at "wq"
    exact same
/-- the last part of turned_about -/
theorem turn_tail (hN : PhiNext Φ) {xs : List PyData} (t : TG (Gd b s l n) l xs) (h0 : 0 < xs.length) (hl1 : l ≤ 100000) (hn : n ≤ 50) {ls : List PyData} (hs : StG ls) {w2 w3 w4 w5 : Slot} :
    Wp (exs Φ fuel Q3 [.st, .fz (.tuple xs), w2, w3, w4, w5, .no, .no, .no] ls) (fun f ls' => Wp (endB f ls') (TurnQ b s l n) E) E := by
  have hx := t.1
  walk_at "wq"
  refine wp_imp (hN _ _ _ (by omega) (by omega) hs) ?_
  rintro d ls1 ⟨k, rfl, k0, k1, hs1⟩
  walk_at "wq"
  refine wp_imp (hN _ _ _ (by omega) (by omega) hs1) ?_
  rintro d ls2 ⟨j, rfl, j0, j1, hs2⟩
  walk_at "wq"
  refine ⟨_, rfl, fun c => ?_, fun c => ?_⟩
  · have c := eqv_t c
    match xs, c, t with
    | [x, y], _, t =>
      have gy := t.2 y (by simp)
      have gx := t.2 x (by simp)
      walk_at "wq"
      cases y with
      | tuple ys =>
        obtain ⟨m, rfl, ty⟩ := gy.of_tup
        walk_at "wq"
        refine wp_opt ⟨_, by rw [ne_nil ty (by omega)]; rfl, ?_⟩
        cases ys with
        | nil => repeat (first | exact turn_last t hl1 hs2 | walk_at "wp1")
        | cons z zs =>
          have hz := ty.1
          walk_at "wq"
          refine wp_imp (hN _ _ _ (by simp only [List.length_cons]; omega) (by omega) hs2) ?_
          rintro d ls3 ⟨k', rfl, k0', k1', hs3⟩
          walk_at "wq"
          refine wp_imp (hN _ _ _ (by simp only [List.length_cons]; omega) (by omega) hs3) ?_
          rintro d ls4 ⟨j', rfl, j0', j1', hs4⟩
          walk_at "wq"
          refine ⟨?_, hs4⟩
          have hz2 := TG.mono (P' := Gd (b + 1) (l * s + 2 * s + 10) (l * s + 4 * l + 20) m) ty (Nat.le_refl _) fun x hx => Gd.mono (by omega) (by omega) (by omega) (Nat.le_refl _) hx
          refine .tup (TG.mono (k := 2) (.cons (Gd.mono (by omega) (by omega) (by omega) (by omega) gx) (.one ?_)) (by omega) fun _ h => h)
          refine Gd.mono (Nat.le_refl _) (Nat.le_refl _) (Nat.le_refl _) (show m + 1 ≤ m + 1 + 1 by omega) (Gd.tup (TG.mono (k := l + l + l) (by walk_at "tgT") (by omega) fun _ h => h))
      | _ => repeat (first | exact turn_last t hl1 hs2 | walk_at "wp1")
  · walk_at "wq"
    refine wp_false c ?_
    repeat (first | exact turn_last t hl1 hs2 | walk_at "wp1")
theorem ints_gd {ns : List Int} {k : Nat} (h : ∀ i ∈ ns, i.natAbs < 2 ^ b) (hk : ns.length ≤ k) : Gd b s k 1 (.list (ns.map .int)) := .lst (.map hk fun i hi => .int (h i hi))
theorem ints_ne {ns : List Int} (h : ∀ i ∈ ns, i.natAbs < 2 ^ b) : cmpop .NotEq (.list (ns.map .int)) (.list []) = some (!ns.isEmpty) := by
  rw [neG (ints_gd (s := 0) h (Nat.le_refl _)) (Gd.lst (b := b) (s := 0) (l := 0) (n := 0) ⟨Nat.zero_le _, fun x h => by cases h⟩) (by decide) (by decide)]
  cases ns <;> rfl
/-- one of the numbers -/
theorem wp_pickI {ls : List PyData} {Q : PyData → List PyData → Prop} {ns : List Int} {i : Int} (h0 : 0 ≤ i) (h1 : i < (ns.map PyData.int).length) (q : ∀ k ∈ ns, Q (.int k) ls) : Wp (M.opt ((intOf (.int i)).bind fun k => index (.list (ns.map .int)) k) ls) Q E :=
  wp_pick h0 h1 fun x hx => by
    obtain ⟨k, hk, rfl⟩ := List.mem_map.mp hx
    exact q k hk
def PhiTurn (b s l n W : Nat) (Φ : Nat → List PyData → M PyData) : Prop := ∀ (xs : List PyData) (ls : List PyData) (E : Ex → List PyData → Prop), TG (Gd b s l n) l xs → 0 < xs.length → lvs xs ≤ W → StG ls → Wp (Φ 6 [.tuple xs] ls) (TurnQ b s l n) E
theorem turned_body (hN : PhiNext Φ) (hI : PhiInts b s l (n + 1) Φ) (hX : PhiExc (b + 1) s l (n + 1) Φ) (hC : ∀ m ≤ n + 1, PhiCut b s l m Φ) {xs : List PyData} (t : TG (Gd b s l n) l xs) (h0 : 0 < xs.length) (hW : lvs xs ≤ 1000000)
    (hs1 : s ≤ 100000) (hl1 : l ≤ 100000) (hls : l * s ≤ 1000000) (hn : n ≤ 50) {ls : List PyData} (hs : StG ls) :
    Wp (runB Φ fuel 9 Hn.b_w_turned_about true [.tuple xs] ls) (TurnQ b s l n) E := by
  have hx := t.1
  unfold runB
  walk_at "wq"
  refine wp_imp (hI _ _ _ (.tup t) hW) ?_
  rintro d ls0 ⟨rfl, ns, rfl, gn, hn2⟩
  have hn2 : ns.length ≤ 1000000 := Nat.le_trans hn2 hW
  walk_at "wq"
  refine wp_imp (hN 5 _ _ (by decide) (by decide) hs) ?_
  rintro d ls1 ⟨pick, rfl, p0, p1, hs1'⟩
  walk_at "wq"
  have rest : ∀ {ls1 : List PyData} {w4 w5 : Slot}, w4 = .no → w5 = .no → StG ls1 → Wp (exs Φ fuel (match Hn.b_w_turned_about with | .cons _ (.cons _ (.cons _ r)) => r | r => r) [.st, .fz (.tuple xs), .fz (.list (ns.map .int)), .fz (.int pick), w4, w5, .no, .no, .no] ls1) (fun f ls' => Wp (endB f ls') (TurnQ b s l n) E) E := by
    rintro ls1 w4 w5 rfl rfl hs1
    walk_at "wq"
    refine wp_if (fun c => ?_) (fun c => ?_)
    · walk_at "wq"
      refine wp_if (fun c2 => ?_) (fun c2 => ?_)
      · walk_at "wq"
        refine wp_imp (hC (n + 1) (Nat.le_refl _) _ _ _ (.tup (t.cut _ _)) hs1) ?_
        rintro r ls2 ⟨gr, hs2, ht⟩
        obtain ⟨ys, rfl⟩ := ht rfl
        have hy := (show TG _ _ ys from gr).1
        walk_at "wq"
        refine ⟨.tup (TG.mono (k := l + (l * s + 3 * l + 10)) (.app (TG.mono (t.cut _ _) (Nat.le_refl _) fun x hx => Gd.mono (by omega) (by omega) (by omega) (by omega) hx) (TG.mono (show TG _ _ ys from gr) (Nat.le_refl _) fun x hx => Gd.mono (by omega) (by omega) (by omega) (by omega) hx)) (by omega) fun _ h => h), hs2⟩
      · walk_at "wq"
        refine wp_lc (fun i acc ls' => StG ls' ∧ acc.length ≤ i ∧ ∀ y ∈ acc, Gd b (l * s + 2 * s + 10) (l * s + 3 * l + 10) (n + 1) y) ?_ ?_ ⟨hs1, Nat.zero_le _, fun y hy => by cases hy⟩
        · rintro i x acc ls2 hx' ⟨hs2, ha, hg⟩
          walk_at "wq"
          refine wp_imp (hC n (Nat.le_succ _) _ _ _ (t.2 x (cut_mem (List.mem_of_getElem? hx'))) hs2) ?_
          rintro r ls3 ⟨gr, hs3, _⟩
          walk_at "wq"
          refine ⟨hs3, by rw [List.length_append]; exact Nat.add_le_add ha (Nat.le_refl 1), fun y hy => ?_⟩
          rcases List.mem_append.mp hy with hy | hy
          · exact hg y hy
          · rw [List.mem_singleton] at hy
            subst hy
            exact gr
        · rintro acc ls2 ⟨hs2, ha, hg⟩
          have ha : acc.length ≤ l := Nat.le_trans ha (Nat.le_trans (cut_len _ _ _) hx)
          walk_at "wq"
          refine ⟨.tup (TG.mono (k := l + l) (.app (TG.mono (t.cut _ _) (Nat.le_refl _) fun x hx => Gd.mono (by omega) (by omega) (by omega) (by omega) hx) (TG.mono ⟨ha, hg⟩ (Nat.le_refl _) fun x hx => Gd.mono (by omega) (by omega) (by omega) (by omega) hx)) (by omega) fun _ h => h), hs2⟩
    · repeat (first | exact turn_tail hN t h0 hl1 hn hs1 | walk_at "wp1")
  refine ⟨_, rfl, fun c => ?_, fun c => ?_⟩
  · walk_at "wq"
    refine wp_opt ⟨_, by rw [ints_ne gn]; rfl, ?_⟩
    cases ns with
    | nil => repeat (first | exact rest rfl rfl hs1' | walk_at "wp1")
    | cons i0 is =>
      have hl2 : is.length + 1 ≤ 1000000 := hn2
      have go : ∀ {one other : Int} {ls : List PyData}, one ∈ i0 :: is → (other = one + 1 ∨ other ∈ i0 :: is) → StG ls → Wp (Φ 4 [.tuple xs, .int one, .int other] ls) (TurnQ b s l n) E := fun {one other ls} h1 h2 hs => by
        have g1 := gn one h1
        have p2 := two_lt_p b
        have g2 : other.natAbs < 2 ^ (b + 1) := by
          rcases h2 with rfl | h2
          · omega
          · have := gn other h2; omega
        refine wp_imp (hX (.tuple xs) one other ls E (Gd.mono (Nat.le_succ _) (Nat.le_refl _) (Nat.le_refl _) (Nat.le_refl _) (.tup t)) (by omega) g2) ?_
        rintro r ls' ⟨rfl, gr⟩
        exact ⟨Gd.mono (Nat.le_refl _) (by omega) (by omega) (by omega) gr, hs⟩
      walk_at "wq"
      refine wp_imp (hN _ _ _ (by simp only [List.length_map, List.length_cons]; omega) (by simp only [List.length_map, List.length_cons]; omega) hs1') ?_
      rintro d ls2 ⟨q, rfl, q0, q1, hs2⟩
      walk_at "wq"
      refine wp_pickI (ns := i0 :: is) q0 q1 fun one h1 => ?_
      walk_at "wq"
      refine wp_if (fun c2 => ?_) (fun c2 => ?_)
      · walk_at "wq"
        refine wp_imp (go h1 (.inl rfl) hs2) fun r ls' h => ?_
        walk_at "wq"
        exact h
      · walk_at "wq"
        refine wp_imp (hN _ _ _ (by simp only [List.length_map, List.length_cons]; omega) (by simp only [List.length_map, List.length_cons]; omega) hs2) ?_
        rintro d ls3 ⟨q', rfl, q0', q1', hs3⟩
        walk_at "wq"
        refine wp_pickI (ns := i0 :: is) q0' q1' fun other h2 => ?_
        walk_at "wq"
        refine wp_imp (go h1 (.inr h2) hs3) fun r ls' h => ?_
        walk_at "wq"
        exact h
  · walk_at "wq"
    refine wp_false c ?_
    repeat (first | exact rest rfl rfl hs1' | walk_at "wp1")
end Pv

set_option maxRecDepth 100000
set_option maxHeartbeats 1000000
/-! What is asked of a judge; things near to others. -/
namespace Pv
open PySem PySem.W
variable {Φ : Nat → List PyData → M PyData} {fuel : Nat} {E : Ex → List PyData → Prop} {b s l n : Nat}
theorem cut_pre {α : Type} (xs : List α) (k : Nat) : cut xs none (some (k : Int)) = xs.take k := by
  unfold cut
  rw [HT.sIx_nat, HT.sIx_none, List.drop_zero, Nat.sub_zero]
  exact (List.take_eq_take_min).symm
theorem cut_suf {α : Type} (xs : List α) (k : Nat) : cut xs (some (k : Int)) none = xs.drop k := by
  unfold cut
  rw [HT.sIx_nat, HT.sIx_none]
  by_cases h : k ≤ xs.length
  · rw [Nat.min_eq_left h, ← List.length_drop, List.take_length]
  · rw [List.drop_eq_nil_of_le (show xs.length ≤ k by omega), List.drop_eq_nil_of_le (by omega), List.take_nil]
theorem cut_mid {α : Type} (xs : List α) (i j : Nat) : cut xs (some (i : Int)) (some (j : Int)) = (xs.take j).drop i := by
  unfold cut
  rw [HT.sIx_nat, HT.sIx_nat, List.drop_take]
  by_cases h : i ≤ xs.length
  · rw [Nat.min_eq_left h]
    by_cases h2 : j ≤ xs.length
    · rw [Nat.min_eq_left h2]
    · rw [Nat.min_eq_right (by omega), List.take_of_length_le (by simp), List.take_of_length_le (by rw [List.length_drop]; omega)]
  · rw [Nat.min_eq_right (show xs.length ≤ i by omega), List.drop_length, List.take_nil, List.drop_eq_nil_of_le (show xs.length ≤ i by omega), List.take_nil]
section
variable {ls : List PyData} {Q : PyData → List PyData → Prop} {xs : List PyData} {x : PyData}
theorem wp_atT (j : Nat) (h : xs[j]? = some x) (q : Q x ls) : Wp (M.opt ((intOf (.int (j : Int))).bind fun k => index (.tuple xs) k) ls) Q E := wp_opt ⟨x, L2.atI_nat h, q⟩
theorem wp_atL (j : Nat) (h : xs[j]? = some x) (q : Q x ls) : Wp (M.opt ((intOf (.int (j : Int))).bind fun k => index (.list xs) k) ls) Q E := wp_opt ⟨x, L2.atI_nat h, q⟩
end
def OddQ (d : PyData) (ls' : List PyData) : Prop := GdA 101 2100 2500 12 d ∧ StG ls'
/-- what may be told: a tuple that is not empty, of small data -/
def ToldG (xs : List PyData) : Prop := TG (Gd 100 20 100 8) 100 xs ∧ 0 < xs.length ∧ lvs xs ≤ 1000000
def PhiOdd (Φ : Nat → List PyData → M PyData) : Prop := ∀ (xs : List PyData) (ls : List PyData) (E : Ex → List PyData → Prop), ToldG xs → StG ls → Wp (Φ 7 [.tuple xs] ls) OddQ E
theorem odd_body (hN : PhiNext Φ) (hT : PhiTurn 100 20 100 8 1000000 Φ) (hC : PhiCh 100 20 100 9 Φ) {xs : List PyData} (t : ToldG xs) {ls : List PyData} (hs : StG ls) :
    Wp (runB Φ fuel 4 Hn.b_w_odd true [.tuple xs] ls) OddQ E := by
  obtain ⟨t, h0, hv⟩ := t
  have hx := t.1
  have cov : ∀ {k m : Nat} {ys : List PyData}, TG (Gd 101 2100 2500 m) k ys → k ≤ 2500 → m ≤ 11 → GdA 101 2100 2500 12 (.tuple ys) := fun t hk hm => .inl (Gd.mono (Nat.le_refl _) (Nat.le_refl _) (Nat.le_refl _) (show _ + 1 ≤ 12 by omega) (.tup (t.mono hk fun _ h => h)))
  have up : ∀ {x : PyData}, Gd 100 20 100 8 x → Gd 101 2100 2500 11 x := fun h => Gd.mono (by decide) (by decide) (by decide) (by decide) h
  have t2 : TG (Gd 101 2100 2500 11) 100 xs := t.mono (Nat.le_refl _) fun _ h => up h
  match xs, t, t2, h0 with
  | x :: xs, t, t2, h0 =>
    have gx := t2.2 x List.mem_cons_self
    unfold runB
    walk_at "wq"
    refine wp_atT 0 rfl ?_
    walk_at "wq"
    refine wp_imp (hN 9 _ _ (by decide) (by decide) hs) ?_
    rintro d ls1 ⟨pick, rfl, p0, p1, hs1⟩
    walk_at "wq"
    refine wp_if (fun c => ?_) (fun c => ?_)
    · walk_at "wq"
      refine wp_imp (hT _ _ _ t (by simp) hv hs1) ?_
      rintro r ls2 ⟨gr, hs2⟩
      walk_at "wq"
      exact ⟨.inl (Gd.mono (by decide) (by decide) (by decide) (by decide) gr), hs2⟩
    · walk_at "wq"
      refine wp_if (fun c2 => ?_) (fun c2 => ?_)
      · walk_at "wq"
        refine wp_imp (hN 11 _ _ (by decide) (by decide) hs1) ?_
        rintro d ls2 ⟨k, rfl, k0, k1, hs2⟩
        walk_at "wq"
        refine wp_pick k0 (by simpa using k1) fun y hy => ?_
        walk_at "wq"
        refine ⟨?_, hs2⟩
        simp only [List.mem_cons, List.not_mem_nil, or_false] at hy
        rcases hy with rfl | rfl | rfl | rfl | rfl | rfl | rfl | rfl | rfl | rfl | rfl
        · exact .inl .non
        · exact .inl (.str (SG.mono (s := 0) (.ofString (by decide)) (by decide)))
        · exact .inl (.str (SG.mono (s := 3) (.ofString (by decide)) (by decide)))
        · exact .inr rfl
        · exact cov (k := 0) (m := 11) ⟨Nat.le_refl _, fun x h => by cases h⟩ (by decide) (by decide)
        · exact cov (t2.cut _ _) (by decide) (by decide)
        · exact .inl (Gd.lst (t2.mono (by decide) fun _ h => h))
        · exact cov (t2.app (.one (.int (by decide)))) (by decide) (by decide)
        · exact cov (TG.app (.one (Gd.lst (n := 10) (TG.mono (P' := Gd 101 2100 2500 10) (.one (Gd.mono (by decide) (by decide) (by decide) (by decide) (t.2 x List.mem_cons_self))) (show 1 ≤ 2500 by decide) fun _ h => h))) (t2.cut _ _)) (by decide) (by decide)
        · exact cov (TG.app (.one (.str (SG.mono (s := 9) (.ofString (by decide)) (by decide)))) (t2.cut _ _)) (by decide) (by decide)
        · exact .inl (.int (by decide))
      · walk_at "wq"
        refine wp_imp (hC _ _ _ (.tup t) hs1) ?_
        rintro r ls2 ⟨gr, hs2⟩
        walk_at "wq"
        exact ⟨.inl (Gd.mono (by decide) (by decide) (by decide) (by decide) gr), hs2⟩
/-! ### near things -/
abbrev NearS (P : PyData → Prop) (ls' : List PyData → Prop) (d : PyData) (ls : List PyData) : Prop := P d ∧ ls' ls
theorem near_int {i : Int} (hN : PhiNext Φ) {ls : List PyData} (hs : StG ls) : Wp (runB Φ fuel 4 Hn.b_w_neighbour true [.int i] ls) (fun d ls' => (∃ j : Int, d = .int j ∧ i - 1 ≤ j ∧ j ≤ i + 1) ∧ StG ls') E := by
  unfold runB
  walk_at "wq"
  refine wp_imp (hN 2 _ _ (by decide) (by decide) hs) ?_
  rintro d ls1 ⟨k, rfl, k0, k1, hs1⟩
  walk_at "wq"
  refine wp_pick k0 (by simpa using k1) fun y hy => ?_
  simp only [List.mem_cons, List.not_mem_nil, or_false] at hy
  rcases hy with rfl | rfl
  · walk_at "wq"; exact ⟨⟨_, rfl, by omega, by omega⟩, hs1⟩
  · walk_at "wq"; exact ⟨⟨_, rfl, by omega, by omega⟩, hs1⟩
/-- a tuple's near ones: a part left out, or a part's near one -/
theorem near_tup {P P' : PyData → Prop} {k : Nat} {xs : List PyData} (hN : PhiNext Φ) (hg : ∀ x, P x → Gd b s l n x) (hk : k ≤ l) (hl : l ≤ 1000000) (hn : n + 1 ≤ 64) (t : TG P k xs) (hp : ∀ x, P x → P' x)
    (h8 : ∀ x ls, P x → StG ls → Wp (Φ 8 [x] ls) (fun d ls' => P' d ∧ StG ls') E) {ls : List PyData} (hs : StG ls) :
    Wp (runB Φ fuel 4 Hn.b_w_neighbour true [.tuple xs] ls) (fun d ls' => (∃ ys, d = .tuple ys ∧ TG P' k ys ∧ (xs ≠ [] → ys ≠ [])) ∧ StG ls') E := by
  have hx : xs.length ≤ l := Nat.le_trans t.1 hk
  have tg := t.mono (m := l) hk hg
  have same : ∀ {ls}, StG ls → (∃ ys, PyData.tuple xs = .tuple ys ∧ TG P' k ys ∧ (xs ≠ [] → ys ≠ [])) ∧ StG ls := fun hs => ⟨⟨_, rfl, t.mono (Nat.le_refl _) hp, id⟩, hs⟩
  unfold runB
  walk_at "wq"
  refine wp_imp (hN 2 _ _ (by decide) (by decide) hs) ?_
  rintro d ls1 ⟨q, rfl, q0, q1, hs1⟩
  walk_at "wq"
  refine wp_pick q0 (by simpa using q1) fun step hstep => ?_
  have hst : ∃ i : Int, step = .int i := by
    simp only [List.mem_cons, List.not_mem_nil, or_false] at hstep
    rcases hstep with rfl | rfl <;> exact ⟨_, rfl⟩
  obtain ⟨i, rfl⟩ := hst
  walk_at "wq"
  refine wp_opt ⟨_, by rw [eq_nil tg hn]; rfl, ?_⟩
  cases xs with
  | nil => walk_at "wq"; exact same hs1
  | cons y0 ys =>
    walk_at "wq"
    refine wp_imp (hN _ _ _ (by simp only [List.length_cons]; omega) (by omega) hs1) ?_
    rintro d ls2 ⟨j, rfl, j0, j1, hs2⟩
    walk_at "wq"
    refine wp_imp (hN 3 _ _ (by decide) (by decide) hs2) ?_
    rintro d ls3 ⟨m, rfl, m0, m1, hs3⟩
    walk_at "wq"
    obtain ⟨jn, rfl⟩ := Int.eq_ofNat_of_zero_le j0
    have hj : jn < (y0 :: ys).length := by omega
    have e1 : cut (y0 :: ys) none (some (jn : Int)) = (y0 :: ys).take jn := cut_pre _ _
    have e2 : cut (y0 :: ys) (some ((jn : Int) + 1)) none = (y0 :: ys).drop (jn + 1) := cut_suf _ (jn + 1)
    have hl1 : ((y0 :: ys).take jn).length = jn := by rw [List.length_take]; omega
    have hl2 : ((y0 :: ys).drop (jn + 1)).length = (y0 :: ys).length - (jn + 1) := by rw [List.length_drop]
    have t1 : ∀ x ∈ (y0 :: ys).take jn, P' x := fun x hx => hp x (t.2 x (List.mem_of_mem_take hx))
    have t2 : ∀ x ∈ (y0 :: ys).drop (jn + 1), P' x := fun x hx => hp x (t.2 x (List.mem_of_mem_drop hx))
    have ht1 := t.1
    have left : ∀ {ls}, 1 < (y0 :: ys).length → StG ls → (∃ zs, PyData.tuple (cut (y0 :: ys) none (some (jn : Int)) ++ cut (y0 :: ys) (some ((jn : Int) + 1)) none) = .tuple zs ∧ TG P' k zs ∧ (y0 :: ys ≠ [] → zs ≠ [])) ∧ StG ls := fun h1 hs => ⟨⟨_, rfl, by
      rw [e1, e2]
      exact ⟨by rw [List.length_append, hl1, hl2]; omega, fun x hx => (List.mem_append.mp hx).elim (t1 x) (t2 x)⟩, fun _ z => by
      have := congrArg List.length z
      rw [e1, e2, List.length_append, hl1, hl2, List.length_nil] at this
      omega⟩, hs⟩
    have inner : ∀ {ls}, StG ls → Wp (M.bind (M.opt ((intOf (.int (jn : Int))).bind fun k => index (.tuple (y0 :: ys)) k)) (fun x => Φ 8 [x]) ls) (fun d ls' => (P' d ∧ StG ls')) E := fun hs => wp_bind (wp_atT jn (List.getElem?_eq_getElem hj) (h8 _ _ (t.2 _ (List.getElem_mem hj)) hs))
    have fin : ∀ {d ls}, P' d → StG ls → (∃ zs, PyData.tuple (cut (y0 :: ys) none (some (jn : Int)) ++ [d] ++ cut (y0 :: ys) (some ((jn : Int) + 1)) none) = .tuple zs ∧ TG P' k zs ∧ (y0 :: ys ≠ [] → zs ≠ [])) ∧ StG ls := fun hd hs => ⟨⟨_, rfl, by
      rw [e1, e2]
      refine ⟨by rw [List.length_append, List.length_append, hl1, hl2]; simp only [List.length_cons, List.length_nil] at hj ht1 ⊢; omega, fun x hx => ?_⟩
      rcases List.mem_append.mp hx with hx | hx
      · rcases List.mem_append.mp hx with hx | hx
        · exact t1 x hx
        · rw [List.mem_singleton] at hx
          subst hx
          exact hd
      · exact t2 x hx, fun _ z => by simp at z⟩, hs⟩
    have rest : ∀ {ls}, StG ls → Wp (M.bind (M.opt ((intOf (.int (jn : Int))).bind fun k => index (.tuple (y0 :: ys)) k)) (fun x => Φ 8 [x]) ls) (fun d ls' => (P' d ∧ StG ls')) E := inner
    have use : ∀ {ls} {w : Slot}, StG ls → Wp (exs Φ fuel (match Hn.b_w_neighbour with | .cons _ (.cons _ (.cons _ (.cons _ (.cons _ (.cons _ r))))) => r | r => r) [.st, .fz (.tuple (y0 :: ys)), w, .fz (.int (jn : Int))] ls) (fun f ls' => Wp (endB f ls') (fun d ls' => (∃ zs, d = .tuple zs ∧ TG P' k zs ∧ (y0 :: ys ≠ [] → zs ≠ [])) ∧ StG ls') E) E := fun {ls w} hs => by
      walk_at "wq"
      refine wp_atT jn (List.getElem?_eq_getElem hj) ?_
      walk_at "wq"
      refine wp_imp (h8 _ _ (t.2 _ (List.getElem_mem hj)) hs) ?_
      rintro d ls4 ⟨hd, hs4⟩
      walk_at "wq"
      exact fin hd hs4
    refine ⟨_, rfl, fun c => ?_, fun c => ?_⟩
    · walk_at "wq"
      refine wp_if (fun c2 => ?_) (fun c2 => ?_)
      · have c2 : decide ((1 : Int) < ((y0 :: ys).length : Nat)) = true := c2
        walk_at "wq"
        exact left (by have := of_decide_eq_true c2; omega) hs3
      · repeat (first | exact use hs3 | walk_at "wp1")
    · walk_at "wq"
      refine wp_false c ?_
      repeat (first | exact use hs3 | walk_at "wp1")
end Pv

set_option maxRecDepth 100000
set_option maxHeartbeats 1000000
/-! The shared defs at their depths of calls. -/
namespace Pv
open PySem PySem.W
/-- the shared defs stand at their places -/
structure Sh (D : Nat → Option Df) : Prop where
  d0 : D 0 = some Hn.D_b_w_next
  d1 : D 1 = some Hn.D_b_w_same
  d2 : D 2 = some Hn.D_b_w_changed
  d3 : D 3 = some Hn.D_b_w_ints
  d4 : D 4 = some Hn.D_b_w_exchanged
  d5 : D 5 = some Hn.D_b_w_cut
  d6 : D 6 = some Hn.D_b_w_turned_about
  d7 : D 7 = some Hn.D_b_w_odd
  d8 : D 8 = some Hn.D_b_w_neighbour
variable {D : Nat → Option Df} {fuel : Nat} {E : Ex → List PyData → Prop} {b s l n : Nat}
theorem run_def {L f : Nat} {d : Df} {ds : List PyData} (h : D f = some d) (hl : ds.length = d.ar) : run D fuel (L + 1) f ds = runB (run D fuel L) fuel d.n d.body d.st ds := by
  show (match D f with | none => M.stuck | some d => if ds.length = d.ar then runB (run D fuel L) fuel d.n d.body d.st ds else M.stuck) = _
  rw [h]
  exact if_pos hl
theorem next_run (S : Sh D) {L : Nat} (hL : 1 ≤ L) : PhiNext (run D fuel L) := by
  obtain ⟨L, rfl⟩ := Nat.exists_eq_add_of_le' hL
  intro n ls E h0 h1 hs
  rw [run_def S.d0 rfl]
  exact next_body h0 h1 hs
theorem same_run (S : Sh D) (hl : l ≤ 1000000) : ∀ {n L : Nat}, n + 1 ≤ L → SameOk b s l n (run D fuel L) := by
  intro n
  induction n with
  | zero =>
    intro L hL
    obtain ⟨L, rfl⟩ := Nat.exists_eq_add_of_le' (show 1 ≤ L by omega)
    intro a e ls E ha he
    rw [run_def S.d1 rfl]
    exact same_body hl (fun m h => by omega) a e ls ha he
  | succ n ih =>
    intro L hL
    obtain ⟨L, rfl⟩ := Nat.exists_eq_add_of_le' (show 1 ≤ L by omega)
    intro a e ls E ha he
    rw [run_def S.d1 rfl]
    exact same_body hl (fun m h => by cases h; exact ih (by omega)) a e ls ha he
theorem ch_run (S : Sh D) (hb1 : 1 ≤ b) (hb : b ≤ 1900) (hsz : s ≤ 1000000) (hl : l ≤ 1000000) : ∀ {n L : Nat}, n ≤ 60 → n + 2 ≤ L → PhiCh b s l n (run D fuel L) := by
  intro n
  induction n with
  | zero =>
    intro L hn hL
    obtain ⟨L, rfl⟩ := Nat.exists_eq_add_of_le' (show 1 ≤ L by omega)
    intro d ls E h hs
    rw [run_def S.d2 rfl]
    exact changed_body hb1 hb hsz hl hn (next_run S (by omega)) (fun m h => by omega) h hs
  | succ n ih =>
    intro L hn hL
    obtain ⟨L, rfl⟩ := Nat.exists_eq_add_of_le' (show 1 ≤ L by omega)
    intro d ls E h hs
    rw [run_def S.d2 rfl]
    exact changed_body hb1 hb hsz hl hn (next_run S (by omega)) (fun m h => by cases h; exact ih (by omega) (by omega)) h hs
theorem ints_run (S : Sh D) : ∀ {n L : Nat}, n + 1 ≤ L → PhiInts b s l n (run D fuel L) := by
  intro n
  induction n with
  | zero =>
    intro L hL
    obtain ⟨L, rfl⟩ := Nat.exists_eq_add_of_le' (show 1 ≤ L by omega)
    intro d ls E h hv
    rw [run_def S.d3 rfl]
    exact ints_body (fun m h => by omega) h hv ls
  | succ n ih =>
    intro L hL
    obtain ⟨L, rfl⟩ := Nat.exists_eq_add_of_le' (show 1 ≤ L by omega)
    intro d ls E h hv
    rw [run_def S.d3 rfl]
    exact ints_body (fun m h => by cases h; exact ih (by omega)) h hv ls
theorem exc_run (S : Sh D) : ∀ {n L : Nat}, n + 1 ≤ L → PhiExc b s l n (run D fuel L) := by
  intro n
  induction n with
  | zero =>
    intro L hL
    obtain ⟨L, rfl⟩ := Nat.exists_eq_add_of_le' (show 1 ≤ L by omega)
    intro d i j ls E h hi hj
    rw [run_def S.d4 rfl]
    exact exc_body (fun m h => by omega) h hi hj ls
  | succ n ih =>
    intro L hL
    obtain ⟨L, rfl⟩ := Nat.exists_eq_add_of_le' (show 1 ≤ L by omega)
    intro d i j ls E h hi hj
    rw [run_def S.d4 rfl]
    exact exc_body (fun m h => by cases h; exact ih (by omega)) h hi hj ls
theorem cut_run (S : Sh D) (hs1 : s ≤ 100000) (hl1 : l ≤ 100000) (hls : l * s ≤ 1000000) : ∀ {n L : Nat}, n ≤ 60 → n + 2 ≤ L → PhiCut b s l n (run D fuel L) := by
  intro n
  induction n with
  | zero =>
    intro L hn hL
    obtain ⟨L, rfl⟩ := Nat.exists_eq_add_of_le' (show 1 ≤ L by omega)
    intro d ls E h hs
    rw [run_def S.d5 rfl]
    exact cut_body (next_run S (by omega)) (fun m h => by omega) hs1 hl1 hls hn h hs
  | succ n ih =>
    intro L hn hL
    obtain ⟨L, rfl⟩ := Nat.exists_eq_add_of_le' (show 1 ≤ L by omega)
    intro d ls E h hs
    rw [run_def S.d5 rfl]
    exact cut_body (next_run S (by omega)) (fun m h => by cases h; exact ih (by omega) (by omega)) hs1 hl1 hls hn h hs
theorem turn_run (S : Sh D) (hs1 : s ≤ 100000) (hl1 : l ≤ 100000) (hls : l * s ≤ 1000000) (hn : n ≤ 50) {L : Nat} (hL : n + 4 ≤ L) : PhiTurn b s l n 1000000 (run D fuel L) := by
  obtain ⟨L, rfl⟩ := Nat.exists_eq_add_of_le' (show 1 ≤ L by omega)
  intro xs ls E t h0 hW hs
  rw [run_def S.d6 rfl]
  exact turned_body (next_run S (by omega)) (ints_run S (by omega)) (exc_run S (by omega)) (fun m hm => cut_run S hs1 hl1 hls (by omega) (by omega)) t h0 hW hs1 hl1 hls hn hs
theorem odd_run (S : Sh D) {L : Nat} (hL : 14 ≤ L) : PhiOdd (run D fuel L) := by
  obtain ⟨L, rfl⟩ := Nat.exists_eq_add_of_le' (show 1 ≤ L by omega)
  intro xs ls E t hs
  rw [run_def S.d7 rfl]
  exact odd_body (next_run S (by omega)) (turn_run S (by decide) (by decide) (by decide) (by decide) (by omega)) (ch_run S (by decide) (by decide) (by decide) (by decide) (by decide) (by omega)) t hs

/-! ### near things, by their forms -/
def IntR (lo hi : Int) (d : PyData) : Prop := ∃ i : Int, d = .int i ∧ lo ≤ i ∧ i ≤ hi
def TupOf (P : PyData → Prop) (k : Nat) (d : PyData) : Prop := ∃ xs, d = .tuple xs ∧ TG P k xs
def NearOk (D : Nat → Option Df) (fuel : Nat) (P P' : PyData → Prop) (L0 : Nat) : Prop := (∀ x, P x → P' x) ∧ ∀ (L : Nat), L0 ≤ L → ∀ (d : PyData) (ls : List PyData) (E : Ex → List PyData → Prop), P d → StG ls → Wp (run D fuel L 8 [d] ls) (fun r ls' => P' r ∧ StG ls') E
theorem NearOk.int (S : Sh D) {lo hi : Int} : NearOk D fuel (IntR lo hi) (IntR (lo - 1) (hi + 1)) 2 := ⟨fun x ⟨i, e, h1, h2⟩ => ⟨i, e, by omega, by omega⟩, fun L hL d ls E ⟨i, e, h1, h2⟩ hs => by
  subst e
  obtain ⟨L, rfl⟩ := Nat.exists_eq_add_of_le' (show 1 ≤ L by omega)
  rw [run_def S.d8 rfl]
  refine wp_imp (near_int (next_run S (by omega)) hs) ?_
  rintro r ls' ⟨⟨j, rfl, h3, h4⟩, hs'⟩
  exact ⟨⟨j, rfl, by omega, by omega⟩, hs'⟩⟩
theorem NearOk.tup (S : Sh D) {P P' : PyData → Prop} {k L0 : Nat} (hg : ∀ x, P x → Gd b s l n x) (hk : k ≤ l) (hl : l ≤ 1000000) (hn : n + 1 ≤ 64) (h0 : 1 ≤ L0) (h : NearOk D fuel P P' L0) : NearOk D fuel (TupOf P k) (TupOf P' k) (L0 + 1) :=
  ⟨fun x ⟨xs, e, t⟩ => ⟨xs, e, t.mono (Nat.le_refl _) h.1⟩, fun L hL d ls E ⟨xs, e, t⟩ hs => by
    subst e
    obtain ⟨L, rfl⟩ := Nat.exists_eq_add_of_le' (show 1 ≤ L by omega)
    rw [run_def S.d8 rfl]
    exact wp_imp (near_tup (next_run S (by omega)) hg hk hl hn t h.1 (fun x ls hx hs => h.2 L (by omega) x ls E hx hs) hs) fun r ls' ⟨⟨ys, e, t, _⟩, hs⟩ => ⟨⟨ys, e, t⟩, hs⟩⟩
/-- a sequence that is not empty -/
def TupN (P : PyData → Prop) (k : Nat) (d : PyData) : Prop := ∃ xs, d = .tuple xs ∧ TG P k xs ∧ xs ≠ []
theorem TupN.of {P : PyData → Prop} {k : Nat} {d : PyData} (h : TupN P k d) : TupOf P k d := let ⟨xs, e, t, _⟩ := h; ⟨xs, e, t⟩
theorem NearOk.tupN (S : Sh D) {P P' : PyData → Prop} {k L0 : Nat} (hg : ∀ x, P x → Gd b s l n x) (hk : k ≤ l) (hl : l ≤ 1000000) (hn : n + 1 ≤ 64) (h0 : 1 ≤ L0) (h : NearOk D fuel P P' L0) : NearOk D fuel (TupN P k) (TupN P' k) (L0 + 1) :=
  ⟨fun x ⟨xs, e, t, ne⟩ => ⟨xs, e, t.mono (Nat.le_refl _) h.1, ne⟩, fun L hL d ls E ⟨xs, e, t, ne⟩ hs => by
    subst e
    obtain ⟨L, rfl⟩ := Nat.exists_eq_add_of_le' (show 1 ≤ L by omega)
    rw [run_def S.d8 rfl]
    exact wp_imp (near_tup (next_run S (by omega)) hg hk hl hn t h.1 (fun x ls hx hs => h.2 L (by omega) x ls E hx hs) hs) fun r ls' ⟨⟨ys, e, t, n2⟩, hs⟩ => ⟨⟨ys, e, t, n2 ne⟩, hs⟩⟩
theorem IntR.gd {lo hi : Int} (h1 : lo.natAbs < 2 ^ b) (h2 : hi.natAbs < 2 ^ b) {d : PyData} (h : IntR lo hi d) : Gd b s l n d := by
  obtain ⟨i, rfl, h3, h4⟩ := h
  exact .int (by omega)
theorem TupOf.gd {P : PyData → Prop} {k : Nat} (hp : ∀ x, P x → Gd b s l n x) (hk : k ≤ l) {d : PyData} (h : TupOf P k d) : Gd b s l (n + 1) d := by
  obtain ⟨xs, rfl, t⟩ := h
  exact .tup (t.mono hk hp)
/-- whole numbers in a tuple -/
theorem TupOf.ints {lo hi : Int} {k : Nat} {d : PyData} (h : TupOf (IntR lo hi) k d) : ∃ ns : List Int, d = .tuple (ns.map .int) ∧ ns.length ≤ k ∧ ∀ i ∈ ns, lo ≤ i ∧ i ≤ hi := by
  obtain ⟨xs, rfl, h1, h2⟩ := h
  suffices go : ∀ xs : List PyData, (∀ x ∈ xs, IntR lo hi x) → ∃ ns : List Int, xs = ns.map .int ∧ ∀ i ∈ ns, lo ≤ i ∧ i ≤ hi by
    obtain ⟨ns, rfl, h⟩ := go xs h2
    exact ⟨ns, rfl, by simpa using h1, h⟩
  intro xs
  induction xs with
  | nil => exact fun _ => ⟨[], rfl, fun i h => by cases h⟩
  | cons x xs ih =>
    intro h
    obtain ⟨i, rfl, h3, h4⟩ := h x List.mem_cons_self
    obtain ⟨ns, rfl, hn⟩ := ih fun y hy => h y (List.mem_cons_of_mem _ hy)
    exact ⟨i :: ns, rfl, fun j hj => by
      rcases List.mem_cons.mp hj with rfl | hj
      · exact ⟨h3, h4⟩
      · exact hn j hj⟩
theorem TupOf.rows {lo hi : Int} {k m : Nat} {d : PyData} (h : TupOf (TupOf (IntR lo hi) k) m d) : ∃ rs : List (List Int), d = .tuple (rs.map fun r => .tuple (r.map .int)) ∧ rs.length ≤ m ∧ ∀ r ∈ rs, r.length ≤ k ∧ ∀ i ∈ r, lo ≤ i ∧ i ≤ hi := by
  obtain ⟨xs, rfl, h1, h2⟩ := h
  suffices go : ∀ xs : List PyData, (∀ x ∈ xs, TupOf (IntR lo hi) k x) → ∃ rs : List (List Int), xs = rs.map (fun r => .tuple (r.map .int)) ∧ ∀ r ∈ rs, r.length ≤ k ∧ ∀ i ∈ r, lo ≤ i ∧ i ≤ hi by
    obtain ⟨rs, rfl, h⟩ := go xs h2
    exact ⟨rs, rfl, by simpa using h1, h⟩
  intro xs
  induction xs with
  | nil => exact fun _ => ⟨[], rfl, fun i h => by cases h⟩
  | cons x xs ih =>
    intro h
    obtain ⟨ns, rfl, h3, h4⟩ := (h x List.mem_cons_self).ints
    obtain ⟨rs, rfl, hr⟩ := ih fun y hy => h y (List.mem_cons_of_mem _ hy)
    exact ⟨ns :: rs, rfl, fun j hj => by
      rcases List.mem_cons.mp hj with rfl | hj
      · exact ⟨h3, h4⟩
      · exact hr j hj⟩
end Pv

set_option maxRecDepth 100000
set_option maxHeartbeats 1000000
/-! Runs that do not look at the drawing state. -/
namespace Pv
open PySem PySem.W
/-- a run that leaves the state alone, and does not look at it; what it gives has P -/
def BlP {α : Type} (P : α → Prop) (m : M α) : Prop := (∃ a, P a ∧ ∀ ls, m ls = .ok a ls) ∨ (∃ x, ∀ ls, m ls = .exn x ls) ∨ ∀ ls, m ls = .stuck
abbrev Bl {α : Type} (m : M α) : Prop := BlP (fun _ => True) m
section
variable {α β : Type} {P : α → Prop} {Q : β → Prop}
theorem BlP.pure {a : α} (h : P a) : BlP P (M.pure a) := .inl ⟨a, h, fun _ => rfl⟩
theorem BlP.stuck : BlP P (M.stuck : M α) := .inr (.inr fun _ => rfl)
theorem BlP.raise {x : Ex} : BlP P (M.raise x : M α) := .inr (.inl ⟨x, fun _ => rfl⟩)
theorem BlP.bind {m : M α} {f : α → M β} (h : BlP P m) (k : ∀ a, P a → BlP Q (f a)) : BlP Q (M.bind m f) := by
  rcases h with ⟨a, pa, e⟩ | ⟨x, e⟩ | e
  · have : M.bind m f = f a := by funext ls; unfold M.bind; rw [e]
    rw [this]
    exact k a pa
  · exact .inr (.inl ⟨x, fun ls => by unfold M.bind; rw [e]⟩)
  · exact .inr (.inr fun ls => by unfold M.bind; rw [e])
theorem BlP.opt {o : Option α} (h : ∀ a, o = some a → P a) : BlP P (M.opt o) := by
  cases o with
  | none => exact .stuck
  | some a => exact .pure (h a rfl)
theorem BlP.imp {P' : α → Prop} {m : M α} (h : BlP P m) (k : ∀ a, P a → P' a) : BlP P' m := by
  rcases h with ⟨a, pa, e⟩ | h | h
  · exact .inl ⟨a, k a pa, e⟩
  · exact .inr (.inl h)
  · exact .inr (.inr h)
theorem BlP.ite {c : Prop} [Decidable c] {m n : M α} (h : BlP P m) (k : BlP P n) : BlP P (if c then m else n) := by
  split <;> assumption
theorem BlP.guard {b : Bool} : Bl (M.guard b) := by unfold M.guard; exact .ite (.pure trivial) .stuck
theorem BlP.caught {m : M α} {f : Ex → M α} (h : BlP P m) (k : ∀ x, BlP P (f x)) : BlP P (M.caught m f) := by
  rcases h with ⟨a, pa, e⟩ | ⟨x, e⟩ | e
  · exact .inl ⟨a, pa, fun ls => by unfold M.caught; rw [e]⟩
  · have : M.caught m f = f x := by funext ls; unfold M.caught; rw [e]
    rw [this]
    exact k x
  · exact .inr (.inr fun ls => by unfold M.caught; rw [e])
theorem Bl.b {m : M α} {f : α → M β} (h : Bl m) (k : ∀ a, BlP Q (f a)) : BlP Q (M.bind m f) := BlP.bind h fun a _ => k a
theorem Bl.o {o : Option α} : Bl (M.opt o) := .opt fun _ _ => trivial
theorem Bl.p {a : α} : Bl (M.pure a) := .pure trivial
end
def NoSt (ρ : Env) : Prop := ∀ i : Nat, ρ[i]? ≠ some Slot.st
theorem NoSt.set {ρ : Env} (h : NoSt ρ) {i : Nat} {s : Slot} (hs : s ≠ .st) : NoSt (ρ.set i s) := fun j e => by
  rw [List.getElem?_set] at e
  split at e
  · split at e
    · exact hs (by simpa using e)
    · cases e
  · exact h j e
theorem NoSt.wipe {ρ : Env} (h : NoSt ρ) : ∀ vs : List Nat, NoSt (wipeE ρ vs)
  | [] => h
  | v :: vs => (NoSt.wipe h vs).set (by simp)
theorem NoSt.frz {ρ : Env} (h : NoSt ρ) : ∀ vs : List Nat, NoSt (frzE ρ vs)
  | [] => h
  | v :: vs => by
    have ih := NoSt.frz h vs
    unfold frzE
    split
    · exact ih.set (by simp)
    · exact ih
mutual
theorem NoSt.bindT : ∀ (t : Tg) (d : PyData) (ρ ρ' : Env), NoSt ρ → Pv.bindT t d ρ = some ρ' → NoSt ρ'
  | .nm i, d, ρ, ρ', h, e => by
    unfold Pv.bindT at e
    split at e
    · cases e
    · cases e; exact h.set (by simp)
    · cases e
  | .tp ts, d, ρ, ρ', h, e => by
    cases d <;> first | (unfold Pv.bindT at e; exact NoSt.bindTs ts _ ρ ρ' h e) | (unfold Pv.bindT at e; cases e)
theorem NoSt.bindTs : ∀ (ts : Tgs) (ds : List PyData) (ρ ρ' : Env), NoSt ρ → Pv.bindTs ts ds ρ = some ρ' → NoSt ρ'
  | .nil, [], ρ, ρ', h, e => by unfold Pv.bindTs at e; cases e; exact h
  | .cons t ts, d :: ds, ρ, ρ', h, e => by
    unfold Pv.bindTs at e
    obtain ⟨ρ1, e1, e2⟩ := Option.bind_eq_some_iff.mp e
    exact NoSt.bindTs ts ds ρ1 ρ' (NoSt.bindT t d ρ ρ1 h e1) e2
  | .nil, _ :: _, ρ, ρ', h, e => by unfold Pv.bindTs at e; cases e
  | .cons _ _, [], ρ, ρ', h, e => by unfold Pv.bindTs at e; cases e
end
mutual
/-- the calls of a text are of defs with C -/
def bcE (C : Nat → Bool) : Pv.E → Bool
  | .own f st es => (match st with | none => C f | some _ => true) && bcEs C es
  | .bin _ a b => bcE C a && bcE C b
  | .neg a => bcE C a
  | .not a => bcE C a
  | .and a b => bcE C a && bcE C b
  | .or a b => bcE C a && bcE C b
  | .cmp _ a b => bcE C a && bcE C b
  | .chn _ _ a b c => bcE C a && bcE C b && bcE C c
  | .ite c a b => bcE C c && bcE C a && bcE C b
  | .isi a _ => bcE C a
  | .isi2 a _ _ => bcE C a
  | .fn1 _ a => bcE C a
  | .fn2 _ a b => bcE C a && bcE C b
  | .cnt a b => bcE C a && bcE C b
  | .idx a i => bcE C a && bcE C i
  | .slc a lo hi => bcE C a && bcO C lo && bcO C hi
  | .rev a => bcE C a
  | .tup es => bcEs C es
  | .lst es => bcEs C es
  | .lof it => bcI C it
  | .tof it => bcI C it
  | .lc _ _ it c e => bcI C it && bcO C c && bcE C e
  | .lc2 _ _ _ it c _ it1 c1 e => bcI C it && bcO C c && bcI C it1 && bcO C c1 && bcE C e
  | .var _ => true
  | .bor _ => true
  | .gint _ _ => true
  | .cst _ => true
  | .sid _ _ => true
  | .dct => true
def bcEs (C : Nat → Bool) : Es → Bool
  | .nil => true
  | .cons e es => bcE C e && bcEs C es
def bcO (C : Nat → Bool) : O → Bool
  | .none => true
  | .some e => bcE C e
def bcI (C : Nat → Bool) : It → Bool
  | .seq a => bcE C a
  | .rng1 a => bcE C a
  | .rng2 a b => bcE C a && bcE C b
  | .rng3 a b c => bcE C a && bcE C b && bcE C c
  | .enum a => bcE C a
  | .zip a b => bcE C a && bcE C b
  | .zip3 a b c => bcE C a && bcE C b && bcE C c
end
section
variable {Φ : Nat → List PyData → M PyData} {C : Nat → Bool}
theorem bl_kV {e : Pv.E} {m : M PyData} (h : Bl m) : Bl (kV e m) := by unfold kV; exact .ite .stuck h
theorem bl_andor {w : Bool} {a b : M PyData} (h : Bl a) (k : Bl b) : Bl (andor w a b) := by
  unfold andor
  exact Bl.b h fun x => Bl.b Bl.o fun t => .ite k Bl.p
theorem bl_loopC {f : PyData → M (Option PyData)} (h : ∀ x, Bl (f x)) : ∀ xs acc, Bl (loopC f xs acc)
  | [], acc => Bl.p
  | x :: xs, acc => by
    rcases h x with ⟨a, _, e⟩ | ⟨y, e⟩ | e
    · cases a with
      | some d =>
        rcases bl_loopC h xs (acc ++ [d]) with ⟨r, _, e2⟩ | ⟨y, e2⟩ | e2
        · exact .inl ⟨r, trivial, fun ls => by unfold loopC; rw [e]; exact e2 ls⟩
        · exact .inr (.inl ⟨y, fun ls => by unfold loopC; rw [e]; exact e2 ls⟩)
        · exact .inr (.inr fun ls => by unfold loopC; rw [e]; exact e2 ls)
      | none =>
        rcases bl_loopC h xs acc with ⟨r, _, e2⟩ | ⟨y, e2⟩ | e2
        · exact .inl ⟨r, trivial, fun ls => by unfold loopC; rw [e]; exact e2 ls⟩
        · exact .inr (.inl ⟨y, fun ls => by unfold loopC; rw [e]; exact e2 ls⟩)
        · exact .inr (.inr fun ls => by unfold loopC; rw [e]; exact e2 ls)
    · exact .inr (.inr fun ls => by unfold loopC; rw [e])
    · exact .inr (.inr fun ls => by unfold loopC; rw [e])
theorem bl_loopC2 {f : List PyData → PyData → M (List PyData)} (h : ∀ a x, Bl (f a x)) : ∀ xs acc, Bl (loopC2 f xs acc)
  | [], acc => Bl.p
  | x :: xs, acc => by
    rcases h acc x with ⟨a, _, e⟩ | ⟨y, e⟩ | e
    · rcases bl_loopC2 h xs a with ⟨r, _, e2⟩ | ⟨y, e2⟩ | e2
      · exact .inl ⟨r, trivial, fun ls => by unfold loopC2; rw [e]; exact e2 ls⟩
      · exact .inr (.inl ⟨y, fun ls => by unfold loopC2; rw [e]; exact e2 ls⟩)
      · exact .inr (.inr fun ls => by unfold loopC2; rw [e]; exact e2 ls)
    · exact .inr (.inr fun ls => by unfold loopC2; rw [e])
    · exact .inr (.inr fun ls => by unfold loopC2; rw [e])
mutual
theorem blE (H : ∀ f, C f = true → ∀ xs, Bl (Φ f xs)) : ∀ (e : Pv.E) (ρ : Env), NoSt ρ → bcE C e = true → Bl (evX Φ e ρ)
  | .var i, ρ, h, k => by
    unfold evX
    split
    · exact Bl.p
    · exact .stuck
  | .bor i, ρ, h, k => by
    unfold evX
    split
    · exact Bl.p
    · exact Bl.p
    · exact .stuck
  | .gint _ c, ρ, h, k => Bl.p
  | .cst d, ρ, h, k => Bl.p
  | .dct, ρ, h, k => Bl.p
  | .sid i x, ρ, h, k => by
    unfold evX
    split
    · exact absurd (by assumption) (h i)
    · exact .stuck
  | .bin op a b, ρ, h, k => by
    simp only [bcE, Bool.and_eq_true] at k
    exact Bl.b (bl_kV (blE H a ρ h k.1)) fun x => Bl.b (bl_kV (blE H b ρ h k.2)) fun y => Bl.o
  | .neg a, ρ, h, k => by
    simp only [bcE] at k
    exact Bl.b (bl_kV (blE H a ρ h k)) fun x => Bl.o
  | .not a, ρ, h, k => by
    simp only [bcE] at k
    exact Bl.b (blE H a ρ h k) fun x => Bl.o
  | .and a b, ρ, h, k => by
    simp only [bcE, Bool.and_eq_true] at k
    exact bl_andor (bl_kV (blE H a ρ h k.1)) (bl_kV (blE H b ρ h k.2))
  | .or a b, ρ, h, k => by
    simp only [bcE, Bool.and_eq_true] at k
    exact bl_andor (bl_kV (blE H a ρ h k.1)) (bl_kV (blE H b ρ h k.2))
  | .cmp op a b, ρ, h, k => by
    simp only [bcE, Bool.and_eq_true] at k
    exact Bl.b (blE H a ρ h k.1) fun x => Bl.b (blE H b ρ h k.2) fun y => Bl.o
  | .chn op op' a b c, ρ, h, k => by
    simp only [bcE, Bool.and_eq_true] at k
    exact Bl.b (blE H a ρ h k.1.1) fun x => Bl.b (blE H b ρ h k.1.2) fun y => Bl.b Bl.o fun t => .ite (Bl.b (blE H c ρ h k.2) fun z => Bl.o) Bl.p
  | .ite c a b, ρ, h, k => by
    simp only [bcE, Bool.and_eq_true] at k
    exact Bl.b (blE H c ρ h k.1.1) fun x => Bl.b Bl.o fun t => .ite (bl_kV (blE H a ρ h k.1.2)) (bl_kV (blE H b ρ h k.2))
  | .isi a t, ρ, h, k => by
    simp only [bcE] at k
    exact Bl.b (blE H a ρ h k) fun x => Bl.p
  | .isi2 a t u, ρ, h, k => by
    simp only [bcE] at k
    exact Bl.b (blE H a ρ h k) fun x => Bl.p
  | .fn1 f a, ρ, h, k => by
    simp only [bcE] at k
    exact Bl.b (blE H a ρ h k) fun x => Bl.o
  | .fn2 f a b, ρ, h, k => by
    simp only [bcE, Bool.and_eq_true] at k
    exact Bl.b (bl_kV (blE H a ρ h k.1)) fun x => Bl.b (bl_kV (blE H b ρ h k.2)) fun y => Bl.o
  | .cnt a b, ρ, h, k => by
    simp only [bcE, Bool.and_eq_true] at k
    exact Bl.b (blE H a ρ h k.1) fun x => Bl.b .guard fun _ => Bl.b (bl_kV (blE H b ρ h k.2)) fun y => Bl.o
  | .own f st es, ρ, h, k => by
    simp only [bcE, Bool.and_eq_true] at k
    unfold evX
    cases st with
    | none => exact Bl.b Bl.p fun _ => Bl.b (blEs H es ρ h k.2) fun xs => H f k.1 xs
    | some i =>
      have e : stOk ρ (some i) = M.stuck := by
        show (match ρ[i]? with | some .st => M.pure () | _ => M.stuck) = _
        cases q : ρ[i]? with
        | none => rfl
        | some z => cases z <;> first | rfl | exact absurd q (h i)
      rw [e]
      exact .inr (.inr fun ls => rfl)
  | .idx a i, ρ, h, k => by
    simp only [bcE, Bool.and_eq_true] at k
    exact Bl.b (blE H a ρ h k.1) fun x => Bl.b (bl_kV (blE H i ρ h k.2)) fun y => Bl.o
  | .slc a lo hi, ρ, h, k => by
    simp only [bcE, Bool.and_eq_true] at k
    exact Bl.b (blE H a ρ h k.1.1) fun x => Bl.b (blO H lo ρ h k.1.2) fun l => Bl.b (blO H hi ρ h k.2) fun u => Bl.o
  | .rev a, ρ, h, k => by
    simp only [bcE] at k
    exact Bl.b (blE H a ρ h k) fun x => Bl.o
  | .tup es, ρ, h, k => by
    simp only [bcE] at k
    exact Bl.b (blEs H es ρ h k) fun x => Bl.p
  | .lst es, ρ, h, k => by
    simp only [bcE] at k
    exact Bl.b (blEs H es ρ h k) fun x => Bl.p
  | .lof it, ρ, h, k => by
    simp only [bcE] at k
    exact Bl.b (blI H it ρ h k) fun x => Bl.p
  | .tof it, ρ, h, k => by
    simp only [bcE] at k
    exact Bl.b (blI H it ρ h k) fun x => Bl.p
  | .lc vs t it c e, ρ, h, k => by
    simp only [bcE, Bool.and_eq_true] at k
    exact Bl.b (blI H it ρ h k.1.1) fun xs => Bl.b (bl_loopC (fun x => BlP.bind (P := NoSt) (.opt fun ρ' e' => NoSt.bindT t x _ ρ' (h.wipe vs) e') fun ρ' h' => Bl.b (blT H c ρ' h' k.1.2) fun q => .ite (Bl.b (bl_kV (blE H e ρ' h' k.2)) fun d => Bl.p) Bl.p) xs []) fun ds => Bl.p
  | .lc2 vs vs1 t it c t1 it1 c1 e, ρ, h, k => by
    simp only [bcE, Bool.and_eq_true] at k
    exact Bl.b (blI H it ρ h k.1.1.1.1) fun xs => Bl.b (bl_loopC2 (fun acc x => BlP.bind (P := NoSt) (.opt fun ρ' e' => NoSt.bindT t x _ ρ' (h.wipe vs) e') fun ρ' h' => Bl.b (blT H c ρ' h' k.1.1.1.2) fun q => .ite
      (Bl.b (blI H it1 ρ' h' k.1.1.2) fun ys => Bl.b .guard fun _ => bl_loopC (fun y => BlP.bind (P := NoSt) (.opt fun ρ2 e' => NoSt.bindT t1 y _ ρ2 (h'.wipe vs1) e') fun ρ2 h2 => Bl.b (blT H c1 ρ2 h2 k.1.2) fun q => .ite (Bl.b (bl_kV (blE H e ρ2 h2 k.2)) fun d => Bl.p) Bl.p) ys acc) Bl.p) xs []) fun ds => Bl.p
theorem blEs (H : ∀ f, C f = true → ∀ xs, Bl (Φ f xs)) : ∀ (es : Es) (ρ : Env), NoSt ρ → bcEs C es = true → Bl (evsX Φ es ρ)
  | .nil, ρ, h, k => Bl.p
  | .cons e es, ρ, h, k => by
    simp only [bcEs, Bool.and_eq_true] at k
    exact Bl.b (bl_kV (blE H e ρ h k.1)) fun x => Bl.b (blEs H es ρ h k.2) fun y => Bl.p
theorem blO (H : ∀ f, C f = true → ∀ xs, Bl (Φ f xs)) : ∀ (o : O) (ρ : Env), NoSt ρ → bcO C o = true → Bl (evOX Φ o ρ)
  | .none, ρ, h, k => Bl.p
  | .some e, ρ, h, k => by
    simp only [bcO] at k
    exact Bl.b (bl_kV (blE H e ρ h k)) fun x => Bl.o
theorem blT (H : ∀ f, C f = true → ∀ xs, Bl (Φ f xs)) : ∀ (o : O) (ρ : Env), NoSt ρ → bcO C o = true → Bl (evTX Φ o ρ)
  | .none, ρ, h, k => Bl.p
  | .some e, ρ, h, k => by
    simp only [bcO] at k
    exact Bl.b (blE H e ρ h k) fun x => Bl.o
theorem blI (H : ∀ f, C f = true → ∀ xs, Bl (Φ f xs)) : ∀ (it : It) (ρ : Env), NoSt ρ → bcI C it = true → Bl (evIX Φ it ρ)
  | .seq a, ρ, h, k => by
    simp only [bcI] at k
    exact Bl.b (blE H a ρ h k) fun x => Bl.o
  | .rng1 a, ρ, h, k => by
    simp only [bcI] at k
    exact Bl.b (bl_kV (blE H a ρ h k)) fun x => Bl.o
  | .rng2 a b, ρ, h, k => by
    simp only [bcI, Bool.and_eq_true] at k
    exact Bl.b (bl_kV (blE H a ρ h k.1)) fun x => Bl.b (bl_kV (blE H b ρ h k.2)) fun y => Bl.o
  | .rng3 a b c, ρ, h, k => by
    simp only [bcI, Bool.and_eq_true] at k
    exact Bl.b (bl_kV (blE H a ρ h k.1.1)) fun x => Bl.b (bl_kV (blE H b ρ h k.1.2)) fun y => Bl.b (bl_kV (blE H c ρ h k.2)) fun z => Bl.o
  | .enum a, ρ, h, k => by
    simp only [bcI] at k
    exact Bl.b (blE H a ρ h k) fun x => Bl.o
  | .zip a b, ρ, h, k => by
    simp only [bcI, Bool.and_eq_true] at k
    exact Bl.b (blE H a ρ h k.1) fun x => Bl.b (blE H b ρ h k.2) fun y => Bl.o
  | .zip3 a b c, ρ, h, k => by
    simp only [bcI, Bool.and_eq_true] at k
    exact Bl.b (blE H a ρ h k.1.1) fun x => Bl.b (blE H b ρ h k.1.2) fun y => Bl.b (blE H c ρ h k.2) fun z => Bl.o
end

def FlOk : Fl → Prop
  | .nx ρ => NoSt ρ
  | .brk ρ => NoSt ρ
  | .cnt ρ => NoSt ρ
  | .ret _ => True
theorem bl_cells {ρ : Env} (h : NoSt ρ) (i : Nat) : Bl (cells i ρ) := by
  unfold cells
  split
  · exact Bl.p
  · exact absurd (by assumption) (h i)
  · exact .stuck
theorem bl_keep {ρ : Env} (h : NoSt ρ) (i : Nat) (xs : List PyData) : BlP NoSt (keep i ρ xs) := by
  unfold keep
  split
  · exact .pure (h.set (by simp))
  · exact absurd (by assumption) (h i)
  · exact .stuck
theorem bl_mine {ρ : Env} (i : Nat) : Bl (mine i ρ) := by
  unfold mine
  split
  · exact Bl.p
  · exact .stuck
theorem bl_hasC {ρ : Env} (i : Nat) : Bl (hasC i ρ) := by
  unfold hasC
  split <;> first | exact Bl.p | exact .stuck
theorem bl_isNo {ρ : Env} (i : Nat) : Bl (isNo i ρ) := by
  unfold isNo
  split <;> first | exact Bl.p | exact .stuck
theorem bl_notSt {ρ : Env} (i : Nat) : Bl (notSt i ρ) := by
  unfold notSt
  split <;> first | exact Bl.p | exact .stuck
theorem bl_loopF {f : PyData → Env → M Fl} (h : ∀ x ρ, NoSt ρ → BlP FlOk (f x ρ)) : ∀ xs ρ, NoSt ρ → BlP FlOk (loopF f xs ρ)
  | [], ρ, hρ => .pure hρ
  | x :: xs, ρ, hρ => BlP.bind (h x ρ hρ) fun r hr => by
    cases r with
    | nx ρ' => exact bl_loopF h xs ρ' hr
    | cnt ρ' => exact bl_loopF h xs ρ' hr
    | brk ρ' => exact .pure hr
    | ret d => exact .pure trivial
theorem bl_loopW {c : Env → M Bool} {f : Env → M Fl} (hc : ∀ ρ, NoSt ρ → Bl (c ρ)) (h : ∀ ρ, NoSt ρ → BlP FlOk (f ρ)) : ∀ n ρ, NoSt ρ → BlP FlOk (loopW c f n ρ)
  | 0, ρ, hρ => .stuck
  | n + 1, ρ, hρ => Bl.b (hc ρ hρ) fun k => .ite (BlP.bind (h ρ hρ) fun r hr => by
    cases r with
    | nx ρ' => exact bl_loopW hc h n ρ' hr
    | cnt ρ' => exact bl_loopW hc h n ρ' hr
    | brk ρ' => exact .pure hr
    | ret d => exact .pure trivial) (.pure hρ)
mutual
def bcS (C : Nat → Bool) : S → Bool
  | .asg _ e => bcE C e
  | .asgF _ e => bcE C e
  | .mv _ _ => true
  | .setX _ x e => bcE C x && bcE C e
  | .augX _ _ x e => bcE C x && bcE C e
  | .aug _ _ e => bcE C e
  | .app _ e => bcE C e
  | .popX _ _ x => bcO C x
  | .appPop _ _ x => bcO C x
  | .remI _ e => bcE C e
  | .exp e => bcE C e
  | .ite c a b => bcE C c && bcSs C a && bcSs C b
  | .whl c b => bcE C c && bcSs C b
  | .for _ it b => bcI C it && bcSs C b
  | .ret e => bcE C e
  | .brk => true
  | .cnt => true
  | .rais _ => true
  | .pass => true
  | .fr _ s => bcS C s
  | .tryR _ e => bcE C e
  | .tryC _ c a b => bcE C c && bcE C a && bcE C b
def bcSs (C : Nat → Bool) : Ss → Bool
  | .nil => true
  | .cons s ss => bcS C s && bcSs C ss
end
mutual
theorem blS {fuel : Nat} (H : ∀ f, C f = true → ∀ xs, Bl (Φ f xs)) : ∀ (s : S) (ρ : Env), NoSt ρ → bcS C s = true → BlP FlOk (ex Φ fuel s ρ)
  | .asg t e, ρ, h, k => by
    simp only [bcS] at k
    exact Bl.b (bl_kV (blE H e ρ h k)) fun d => BlP.bind (P := NoSt) (.opt fun ρ' e' => NoSt.bindT t d _ ρ' h e') fun ρ' h' => .pure h'
  | .asgF i e, ρ, h, k => by
    simp only [bcS] at k
    exact Bl.b (bl_kV (blE H e ρ h k)) fun d => Bl.b (bl_notSt i) fun _ => .pure (h.set (by simp))
  | .mv i j, ρ, h, k => by
    unfold ex
    split
    · exact Bl.b (bl_notSt i) fun _ => .ite .stuck (.pure ((h.set (by simp)).set (by simp)))
    · exact .stuck
  | .setX i x e, ρ, h, k => by
    simp only [bcS, Bool.and_eq_true] at k
    exact Bl.b (bl_kV (blE H e ρ h k.2)) fun d => Bl.b (bl_hasC i) fun _ => Bl.b (bl_kV (blE H x ρ h k.1)) fun q => Bl.b (bl_cells h i) fun xs => Bl.b Bl.o fun ys => BlP.bind (bl_keep h i ys) fun ρ' h' => .pure h'
  | .augX i op x e, ρ, h, k => by
    simp only [bcS, Bool.and_eq_true] at k
    exact Bl.b (bl_hasC i) fun _ => Bl.b (bl_kV (blE H x ρ h k.1)) fun q => Bl.b (bl_cells h i) fun xs => Bl.b Bl.o fun o => Bl.b (bl_kV (blE H e ρ h k.2)) fun d => Bl.b Bl.o fun v => Bl.b (bl_cells h i) fun xs' => Bl.b Bl.o fun ys => BlP.bind (bl_keep h i ys) fun ρ' h' => .pure h'
  | .aug i op e, ρ, h, k => by
    simp only [bcS] at k
    exact Bl.b (blE (C := C) H (.var i) ρ h rfl) fun o => Bl.b (bl_kV (blE H e ρ h k)) fun d => Bl.b Bl.o fun v => .pure (h.set (by simp))
  | .app i e, ρ, h, k => by
    simp only [bcS] at k
    exact Bl.b (bl_hasC i) fun _ => Bl.b (bl_kV (blE H e ρ h k)) fun d => Bl.b (bl_mine i) fun xs => Bl.b .guard fun _ => .pure (h.set (by simp))
  | .popX t j x, ρ, h, k => by
    simp only [bcS] at k
    exact Bl.b (bl_hasC j) fun _ => Bl.b (blO H x ρ h k) fun q => Bl.b (bl_mine j) fun xs => Bl.b Bl.o fun p => BlP.bind (P := NoSt) (.opt fun ρ' e' => NoSt.bindT t p.1 _ ρ' (h.set (by simp)) e') fun ρ' h' => .pure h'
  | .appPop i j x, ρ, h, k => by
    simp only [bcS] at k
    exact Bl.b (bl_hasC i) fun _ => Bl.b (bl_hasC j) fun _ => Bl.b (blO H x ρ h k) fun q => Bl.b (bl_mine j) fun xs => Bl.b Bl.o fun p => Bl.b (bl_mine i) fun ys => Bl.b .guard fun _ => .ite .stuck (.pure ((h.set (by simp)).set (by simp)))
  | .remI i e, ρ, h, k => by
    simp only [bcS] at k
    exact Bl.b (bl_hasC i) fun _ => Bl.b (bl_kV (blE H e ρ h k)) fun d => Bl.b (bl_mine i) fun xs => Bl.b Bl.o fun ys => .pure (h.set (by simp))
  | .exp e, ρ, h, k => by
    simp only [bcS] at k
    exact Bl.b (blE H e ρ h k) fun d => .pure h
  | .ite c a b, ρ, h, k => by
    simp only [bcS, Bool.and_eq_true] at k
    exact Bl.b (blT H (.some c) ρ h k.1.1) fun q => .ite (blSs H a ρ h k.1.2) (blSs H b ρ h k.2)
  | .whl c b, ρ, h, k => by
    simp only [bcS, Bool.and_eq_true] at k
    exact bl_loopW (fun ρ h => blT H (.some c) ρ h k.1) (fun ρ h => blSs H b ρ h k.2) fuel ρ h
  | .for t it b, ρ, h, k => by
    simp only [bcS, Bool.and_eq_true] at k
    exact Bl.b (blI H it ρ h k.1) fun xs => bl_loopF (fun x ρ h => BlP.bind (P := NoSt) (.opt fun ρ' e' => NoSt.bindT t x _ ρ' h e') fun ρ' h' => blSs H b ρ' h' k.2) xs ρ h
  | .ret e, ρ, h, k => by
    simp only [bcS] at k
    exact Bl.b (bl_kV (blE H e ρ h k)) fun d => .pure trivial
  | .brk, ρ, h, k => .pure h
  | .cnt, ρ, h, k => .pure h
  | .rais x, ρ, h, k => .raise
  | .pass, ρ, h, k => .pure h
  | .fr is s, ρ, h, k => by
    simp only [bcS] at k
    exact blS H s _ (h.frz is) k
  | .tryR i e, ρ, h, k => by
    simp only [bcS] at k
    exact Bl.b (bl_isNo i) fun _ => .caught (Bl.b (bl_kV (blE H e ρ h k)) fun d => .pure trivial) fun _ => .pure trivial
  | .tryC i c a b, ρ, h, k => by
    simp only [bcS, Bool.and_eq_true] at k
    exact Bl.b (bl_isNo i) fun _ => .caught (Bl.b (blT H (.some c) ρ h k.1.1) fun q => Bl.b (.ite (blE H a ρ h k.1.2) (blE H b ρ h k.2)) fun _ => .pure trivial) fun x => by
      cases x
      · exact .pure h
      · exact .raise
theorem blSs {fuel : Nat} (H : ∀ f, C f = true → ∀ xs, Bl (Φ f xs)) : ∀ (ss : Ss) (ρ : Env), NoSt ρ → bcSs C ss = true → BlP FlOk (exs Φ fuel ss ρ)
  | .nil, ρ, h, k => .pure h
  | .cons s ss, ρ, h, k => by
    simp only [bcSs, Bool.and_eq_true] at k
    exact BlP.bind (blS H s ρ h k.1) fun r hr => by
      cases r with
      | nx ρ' => exact blSs H ss ρ' hr k.2
      | cnt ρ' => exact .pure hr
      | brk ρ' => exact .pure hr
      | ret d => exact .pure trivial
end
end
/-- defs that do not look at the state -/
def bcD (C : Nat → Bool) (d : Df) : Bool := !d.st && bcSs C d.body
theorem bl_run {D : Nat → Option Df} {fuel : Nat} {C : Nat → Bool} (h : ∀ f d, C f = true → D f = some d → bcD C d = true) : ∀ (L f : Nat), C f = true → ∀ ds, Bl (run D fuel L f ds)
  | 0, f, hf, ds => .stuck
  | L + 1, f, hf, ds => by
    show Bl (match D f with | none => M.stuck | some d => if ds.length = d.ar then runB (run D fuel L) fuel d.n d.body d.st ds else M.stuck)
    cases q : D f with
    | none => exact .stuck
    | some d =>
      have hd := h f d hf q
      simp only [bcD, Bool.and_eq_true, Bool.not_eq_true'] at hd
      refine .ite ?_ .stuck
      unfold runB
      refine BlP.bind (blSs (bl_run h L) d.body _ (fun i e => ?_) hd.2) fun r hr => by
        cases r with
        | nx ρ => exact Bl.p
        | ret d => exact Bl.p
        | brk ρ => exact .stuck
        | cnt ρ => exact .stuck
      have hm := List.mem_of_getElem? e
      rw [hd.1] at hm
      simp only [Bool.false_eq_true, if_false, List.nil_append] at hm
      rcases List.mem_append.mp hm with hm | hm
      · obtain ⟨x, _, hx⟩ := List.mem_map.mp hm
        cases hx
      · have := List.eq_of_mem_replicate hm
        cases this
/-- what is seen at one state holds at all -/
theorem bl_ok {m : M PyData} (h : Bl m) {d : PyData} (e : m [] = .ok d []) (ls : List PyData) : m ls = .ok d ls := by
  rcases h with ⟨a, _, q⟩ | ⟨x, q⟩ | q
  · rw [q] at e; cases e; exact q ls
  · rw [q] at e; cases e
  · rw [q] at e; cases e
theorem bl_exn {m : M PyData} (h : Bl m) {x : Ex} (e : m [] = .exn x []) (ls : List PyData) : m ls = .exn x ls := by
  rcases h with ⟨a, _, q⟩ | ⟨x, q⟩ | q
  · rw [q] at e; cases e
  · rw [q] at e; cases e; exact q ls
  · rw [q] at e; cases e
end Pv

set_option maxRecDepth 100000
set_option maxHeartbeats 1000000
/-! The forms of what is told. -/
namespace Pv
open PySem PySem.W
variable {Φ : Nat → List PyData → M PyData} {D : Nat → Option Df} {fuel : Nat} {E : Ex → List PyData → Prop} {b s l n : Nat}
/-- a run that surely gives a value and leaves the state alone -/
abbrev Is (r : R PyData) (v : PyData) (ls : List PyData) : Prop := Wp r (fun d ls' => ls' = ls ∧ d = v) (fun _ _ => False)
theorem Is.eq {r : R PyData} {v : PyData} {ls : List PyData} (h : Is r v ls) : r = .ok v ls := by
  cases r with
  | ok a ls' => obtain ⟨rfl, rfl⟩ := h.okI; rfl
  | exn x ls' => exact h.exI.elim
  | stuck => exact h.stI.elim
theorem run_is {L f : Nat} {d : Df} {ds : List PyData} {v : PyData} {ls : List PyData} (h : D f = some d) (hl : ds.length = d.ar) (hL : 1 ≤ L)
    (k : ∀ L', L' + 1 = L → Is (runB (run D fuel L') fuel d.n d.body d.st ds ls) v ls) : run D fuel L f ds ls = .ok v ls := by
  obtain ⟨L, rfl⟩ := Nat.exists_eq_add_of_le' hL
  rw [run_def h hl]
  exact (k L rfl).eq
abbrev Ra (r : R PyData) (x : Ex) (ls : List PyData) : Prop := Wp r (fun _ _ => False) (fun y ls' => y = x ∧ ls' = ls)
theorem Ra.eq {r : R PyData} {x : Ex} {ls : List PyData} (h : Ra r x ls) : r = .exn x ls := by
  cases r with
  | ok a ls' => exact h.okI.elim
  | exn y ls' => obtain ⟨rfl, rfl⟩ := h.exI; rfl
  | stuck => exact h.stI.elim
theorem run_ra {L f : Nat} {d : Df} {ds : List PyData} {x : Ex} {ls : List PyData} (h : D f = some d) (hl : ds.length = d.ar) (hL : 1 ≤ L)
    (k : ∀ L', L' + 1 = L → Ra (runB (run D fuel L') fuel d.n d.body d.st ds ls) x ls) : run D fuel L f ds ls = .exn x ls := by
  obtain ⟨L, rfl⟩ := Nat.exists_eq_add_of_le' hL
  rw [run_def h hl]
  exact (k L rfl).eq
theorem wp_ex {α : Type} {r : R α} {x : Ex} {ls : List PyData} {Q : α → List PyData → Prop} (e : r = .exn x ls) (h : E x ls) : Wp r Q E := by subst e; exact wp_exn h
/-- a caught run -/
theorem wp_caught {α : Type} {m : M α} {f : Ex → M α} {ls : List PyData} {Q : α → List PyData → Prop} (h : Wp (m ls) Q (fun x ls' => Wp (f x ls') Q E)) : Wp (M.caught m f ls) Q E := by
  unfold M.caught
  cases e : m ls with
  | ok a ls' => rw [e] at h; exact wp_ok h.okI
  | exn x ls' => rw [e] at h; exact h.exI
  | stuck => rw [e] at h; exact h.stI.elim
theorem wp_cmp {op : CmpOp} {x y : PyData} {c : Bool} {ls : List PyData} {Q : PyData → List PyData → Prop} (h : cmpop op x y = some c) (q : Q (.bool c) ls) : Wp (M.opt ((cmpop op x y).map .bool) ls) Q E := wp_opt ⟨_, by rw [h]; rfl, q⟩
theorem eqv_int {i j : Int} : PyData.eqv (.int i) (.int j) = decide (i = j) := by
  cases q : PyData.eqv (.int i) (.int j) with
  | true => rw [decide_eq_true (eqv_t q)]
  | false => rw [decide_eq_false (eqv_f q)]
theorem eqv_nat {i j : Nat} : PyData.eqv (.int (i : Int)) (.int (j : Int)) = decide (i = j) := by
  rw [eqv_int]
  by_cases h : i = j
  · subst h; simp
  · rw [decide_eq_false h, decide_eq_false (show ¬((i : Int) = (j : Int)) from fun e => h (Int.ofNat.inj e))]
theorem bool_shaped (bs : List Bool) : SeqAt.shaped (.list (bs.map .bool)) = true := by
  have h1 : ∀ bs : List Bool, PyData.canLayAll0 (bs.map PyData.bool) = true := fun bs => by
    induction bs with
    | nil => rfl
    | cons i bs ih => show (true && PyData.canLayAll0 (bs.map PyData.bool)) = true; rw [ih]; rfl
  have h2 : ∀ bs : List Bool, PyData.depthAll (bs.map PyData.bool) = 0 := fun bs => by
    induction bs with
    | nil => rfl
    | cons i bs ih => show max 0 (PyData.depthAll (bs.map PyData.bool)) = 0; rw [ih]; rfl
  unfold SeqAt.shaped
  rw [show (PyData.list (bs.map PyData.bool)).canLay0 = PyData.canLayAll0 (bs.map PyData.bool) from rfl, h1, show (PyData.list (bs.map PyData.bool)).depth = PyData.depthAll (bs.map PyData.bool) + 1 from rfl, h2]
  rfl
theorem any_bool (c : Bool) (bs : List Bool) : (bs.map PyData.bool).any (fun z => PyData.eqv z (.bool c)) = bs.any (· == c) := by
  rw [List.any_map]
  have : ((fun z => PyData.eqv z (.bool c)) ∘ PyData.bool) = (· == c) := by
    funext b
    cases b <;> cases c <;> rfl
  rw [this]
theorem in_bool (c : Bool) (bs : List Bool) : cmpop .In (.bool c) (.list (bs.map .bool)) = some (bs.any (· == c)) := by
  show (if (SeqAt.shaped (.bool c) && SeqAt.shaped (.list (bs.map PyData.bool))) = true then some ((bs.map PyData.bool).any fun z => PyData.eqv z (.bool c)) else none) = _
  rw [bool_shaped, any_bool]
  cases c <;> rfl
theorem notin_bool (c : Bool) (bs : List Bool) : cmpop .NotIn (.bool c) (.list (bs.map .bool)) = some (!bs.any (· == c)) := by
  show (if (SeqAt.shaped (.bool c) && SeqAt.shaped (.list (bs.map PyData.bool))) = true then some (!(bs.map PyData.bool).any fun z => PyData.eqv z (.bool c)) else none) = _
  rw [bool_shaped, any_bool]
  cases c <;> rfl
/-! ### comprehensions whose items are plain -/
/-- a comprehension without a test -/
theorem wp_map {α : Type} {f : PyData → M (Option PyData)} {P : List PyData → List PyData → Prop} {E : Ex → List PyData → Prop} {enc : α → PyData} (h : α → PyData) {xs : List α} {ls : List PyData}
    (turn : ∀ x ∈ xs, Wp (f (enc x) ls) (fun o ls' => ls' = ls ∧ o = some (h x)) (fun _ _ => False)) (fin : P (xs.map h) ls) : Wp (loopC f (xs.map enc) [] ls) P E := by
  refine wp_lc (fun i acc ls' => ls' = ls ∧ acc = (xs.take i).map h) ?_ ?_ ⟨rfl, by simp⟩
  · rintro i x acc ls' hx ⟨rfl, rfl⟩
    rw [List.getElem?_map] at hx
    obtain ⟨y, hy, rfl⟩ := Option.map_eq_some_iff.mp hx
    refine wp_imp (turn y (List.mem_of_getElem? hy)) ?_
    rintro o ls2 ⟨rfl, rfl⟩
    refine ⟨rfl, ?_⟩
    rw [List.take_add_one, hy, List.map_append]
    rfl
  · rintro acc ls' ⟨rfl, rfl⟩
    rw [List.length_map, List.take_length]
    exact fin
/-- .. with a test -/
theorem wp_filt {α : Type} {f : PyData → M (Option PyData)} {P : List PyData → List PyData → Prop} {E : Ex → List PyData → Prop} {enc : α → PyData} (p : α → Bool) (h : α → PyData) {xs : List α} {ls : List PyData}
    (turn : ∀ x ∈ xs, Wp (f (enc x) ls) (fun o ls' => ls' = ls ∧ o = if p x = true then some (h x) else none) (fun _ _ => False)) (fin : P ((xs.filter p).map h) ls) : Wp (loopC f (xs.map enc) [] ls) P E := by
  refine wp_lc (fun i acc ls' => ls' = ls ∧ acc = ((xs.take i).filter p).map h) ?_ ?_ ⟨rfl, by simp⟩
  · rintro i x acc ls' hx ⟨rfl, rfl⟩
    rw [List.getElem?_map] at hx
    obtain ⟨y, hy, rfl⟩ := Option.map_eq_some_iff.mp hx
    refine wp_imp (turn y (List.mem_of_getElem? hy)) ?_
    rintro o ls2 ⟨rfl, rfl⟩
    refine ⟨rfl, ?_⟩
    rw [List.take_add_one, hy, List.filter_append, List.map_append]
    cases q : p y <;> simp [q]
  · rintro acc ls' ⟨rfl, rfl⟩
    rw [List.length_map, List.take_length]
    exact fin
theorem map_id_data (xs : List PyData) : xs = xs.map (fun x => x) := (List.map_id' xs).symm
theorem wp_mapD {f : PyData → M (Option PyData)} {P : List PyData → List PyData → Prop} {E : Ex → List PyData → Prop} (h : PyData → PyData) {xs : List PyData} {ls : List PyData}
    (turn : ∀ x ∈ xs, Wp (f x ls) (fun o ls' => ls' = ls ∧ o = some (h x)) (fun _ _ => False)) (fin : P (xs.map h) ls) : Wp (loopC f xs [] ls) P E := by
  have := wp_map (f := f) (P := P) (E := E) (enc := fun x => x) h turn fin
  rwa [List.map_id'] at this
theorem wp_filtD {f : PyData → M (Option PyData)} {P : List PyData → List PyData → Prop} {E : Ex → List PyData → Prop} (p : PyData → Bool) {xs : List PyData} {ls : List PyData}
    (turn : ∀ x ∈ xs, Wp (f x ls) (fun o ls' => ls' = ls ∧ o = if p x = true then some x else none) (fun _ _ => False)) (fin : P (xs.filter p) ls) : Wp (loopC f xs [] ls) P E := by
  have := wp_filt (f := f) (P := P) (E := E) (enc := fun x => x) p (fun x => x) turn (by rwa [List.map_id'])
  rwa [List.map_id'] at this
/-! ### the forms -/
def isTold (d : PyData) (w : Str) (m : Nat) : Bool :=
  match d with
  | .tuple xs => decide (xs.length = m) && (match xs with | .str z :: _ => z == w | _ => false)
  | _ => false
def isPlace (m : Int) : PyData → Bool
  | .int i => decide (0 ≤ i) && decide (i < m)
  | _ => false
def areWholes (d : PyData) (m : Nat) : Bool :=
  match d with
  | .tuple xs => decide (xs.length = m) && xs.all isInt
  | _ => false
def arePlaces (d : PyData) (m : Int) : Bool :=
  match d with
  | .tuple xs => xs.all (isPlace m)
  | _ => false
theorem told_run (h : D 10 = some Hn.D_b_is_told) {L : Nat} (hL : 1 ≤ L) {d : PyData} {w : Str} {m : Nat} (hw : PyData.strOk w = true) (hm : 1 ≤ m) (g : GdA b s l n d) (ls : List PyData) :
    run D fuel L 10 [d, .str w, .int m] ls = .ok (.bool (isTold d w m)) ls := by
  refine run_is h rfl hL fun L' _ => ?_
  unfold runB
  cases d with
  | tuple xs =>
    have g : Gd b s l n (.tuple xs) := by rcases g with g | g; exact g; cases g
    obtain ⟨k, rfl, t⟩ := g.of_tup
    walk_at "wq"
    by_cases hl : xs.length = m
    · refine wp_false (by rw [eqv_nat, decide_eq_true hl]; rfl) ?_
      cases xs with
      | nil => exact absurd hl (by simp; omega)
      | cons x xs =>
        walk_at "wq"
        refine wp_atT 0 rfl ?_
        cases x with
        | str z =>
          walk_at "wq"
          refine wp_atT 0 rfl ?_
          walk_at "wq"
          refine wp_cmp (eqStr (t.2 _ List.mem_cons_self).of_str.2 hw) ?_
          walk_at "wq"
          refine ⟨rfl, ?_⟩
          show PyData.bool (z == w) = .bool (decide _ && _)
          rw [decide_eq_true hl, Bool.true_and]
        | _ => walk_at "wq"; exact ⟨rfl, by show PyData.bool false = .bool (_ && false); rw [Bool.and_false]⟩
    · refine wp_true (by rw [eqv_nat, decide_eq_false hl]; rfl) ?_
      walk_at "wq"
      refine ⟨rfl, ?_⟩
      show PyData.bool false = .bool (decide _ && _)
      rw [decide_eq_false hl, Bool.false_and]
  | _ => walk_at "wq"; exact ⟨rfl, rfl⟩
theorem whole_run (h : D 9 = some Hn.D_b_is_whole) {L : Nat} (hL : 1 ≤ L) (d : PyData) (ls : List PyData) : run D fuel L 9 [d] ls = .ok (.bool (isInt d)) ls := by
  refine run_is h rfl hL fun L' _ => ?_
  unfold runB
  cases d <;> (walk_at "wq"; exact ⟨rfl, rfl⟩)
theorem any_false (bs : List Bool) : (!bs.any (· == false)) = bs.all (fun x => x) := by
  induction bs with
  | nil => rfl
  | cons b bs ih => cases b <;> simp_all
theorem wholes_run (h : D 11 = some Hn.D_b_are_wholes) (h9 : D 9 = some Hn.D_b_is_whole) {L : Nat} (hL : 2 ≤ L) {d : PyData} {m : Nat} (ls : List PyData) :
    run D fuel L 11 [d, .int m] ls = .ok (.bool (areWholes d m)) ls := by
  refine run_is h rfl (by omega) fun L' e => ?_
  unfold runB
  cases d with
  | tuple xs =>
    walk_at "wq"
    refine ⟨_, rfl, fun c => ?_, fun c => ?_⟩
    all_goals rw [eqv_nat] at c
    · walk_at "wq"
      refine wp_mapD (fun x => .bool (isInt x)) (fun x hx => ?_) ?_
      · walk_at "wq"
        refine wp_of (whole_run h9 (by omega) x _) ?_
        walk_at "wq"
        exact ⟨rfl, rfl⟩
      · walk_at "wq"
        refine wp_cmp (c := xs.all isInt) (by rw [show xs.map (fun x => PyData.bool (isInt x)) = (xs.map isInt).map PyData.bool from by rw [List.map_map]; rfl, notin_bool, any_false, List.all_map]; rfl) ?_
        walk_at "wq"
        refine ⟨rfl, ?_⟩
        show PyData.bool (xs.all isInt) = .bool (decide _ && _)
        rw [c, Bool.true_and]
    · walk_at "wq"
      refine ⟨rfl, ?_⟩
      show PyData.bool (PyData.eqv _ _) = .bool (decide _ && _)
      rw [eqv_nat, c, Bool.false_and]
  | _ => walk_at "wq"; exact ⟨rfl, rfl⟩
theorem places_run (h : D 12 = some Hn.D_b_are_places) (h9 : D 9 = some Hn.D_b_is_whole) {L : Nat} (hL : 2 ≤ L) {d : PyData} {m : Int} (ls : List PyData) :
    run D fuel L 12 [d, .int m] ls = .ok (.bool (arePlaces d m)) ls := by
  refine run_is h rfl (by omega) fun L' e => ?_
  unfold runB
  cases d with
  | tuple xs =>
    walk_at "wq"
    refine wp_mapD (fun x => .bool (isPlace m x)) (fun x hx => ?_) ?_
    · walk_at "wq"
      refine wp_of (whole_run h9 (by omega) x _) ?_
      walk_at "wq"
      cases x with
      | int i =>
        walk_at "wq"
        refine wp_if (fun c => ?_) (fun c => ?_)
        · walk_at "wq"
          exact ⟨rfl, by show some (PyData.bool _) = some (PyData.bool (_ && _)); rw [c, Bool.true_and]⟩
        · walk_at "wq"
          exact ⟨rfl, by show some (PyData.bool _) = some (PyData.bool (_ && _)); rw [c, Bool.false_and]⟩
      | _ => walk_at "wq"; exact ⟨rfl, rfl⟩
    · walk_at "wq"
      refine wp_cmp (c := xs.all (isPlace m)) (by rw [show xs.map (fun x => PyData.bool (isPlace m x)) = (xs.map (isPlace m)).map PyData.bool from by rw [List.map_map]; rfl, notin_bool, any_false, List.all_map]; rfl) ?_
      walk_at "wq"
      exact ⟨rfl, rfl⟩
  | _ => walk_at "wq"; exact ⟨rfl, rfl⟩
section
variable {E : Ex → List PyData → Prop}
theorem wp_nm {i : Nat} {x : PyData} {ρ : Env} {w : Slot} {ls : List PyData} {Q : Env → List PyData → Prop} (h : ρ[i]? = some w) (hw : w ≠ .st) (q : Q (ρ.set i (.fz x)) ls) : Wp (M.opt (bindT (.nm i) x ρ) ls) Q E := by
  refine wp_opt ⟨_, ?_, q⟩
  unfold bindT
  rw [h]
  cases w <;> first | rfl | exact absurd rfl hw
theorem wp_tps {t : Tg} {ts : Tgs} {d : PyData} {ds : List PyData} {ρ : Env} {ls : List PyData} {Q : Env → List PyData → Prop} (h : Wp (M.bind (M.opt (bindT t d ρ)) (fun ρ' => M.opt (bindTs ts ds ρ')) ls) Q E) : Wp (M.opt (bindTs (.cons t ts) (d :: ds) ρ) ls) Q E := by
  unfold bindTs
  cases o : bindT t d ρ with
  | none => rw [o] at h; exact h
  | some a => rw [o] at h; exact h
theorem wp_tp {t : Tg} {ts : Tgs} {d : PyData} {ds : List PyData} {ρ : Env} {ls : List PyData} {Q : Env → List PyData → Prop} (h : Wp (M.bind (M.opt (bindT t d ρ)) (fun ρ' => M.opt (bindTs ts ds ρ')) ls) Q E) : Wp (M.opt (bindT (.tp (.cons t ts)) (.tuple (d :: ds)) ρ) ls) Q E := wp_tps h
theorem wp_ob {α β : Type} {o : Option α} {f : α → Option β} {ls : List PyData} {Q : β → List PyData → Prop} (h : Wp (M.bind (M.opt o) (fun a => M.opt (f a)) ls) Q E) : Wp (M.opt (o.bind f) ls) Q E := by
  cases o with
  | none => exact h
  | some a => exact h
theorem wp_rng2 {i j : Int} (hi : i.natAbs ≤ 1000000) (hj : j.natAbs ≤ 1000000) (hn : (j - i).toNat ≤ 1000000) {ls : List PyData} {Q : List PyData → List PyData → Prop} (q : Q (rng i (j - i).toNat) ls) :
    Wp (M.opt ((intOf (.int i)).bind fun i => (intOf (.int j)).bind fun j => if chop i && chop j && few (j - i).toNat then some (rng i (j - i).toNat) else none) ls) Q E := by
  refine wp_opt ⟨_, ?_, q⟩
  have e : (chop i && chop j && few (j - i).toNat) = true := by
    simp only [chop, few, Bool.and_eq_true, decide_eq_true_eq]
    omega
  simp only [intOf, Option.bind_some, e, if_true]
theorem wp_rng1 {i : Int} (hi : i.natAbs ≤ 1000000) {ls : List PyData} {Q : List PyData → List PyData → Prop} (q : Q (rng 0 i.toNat) ls) :
    Wp (M.opt ((intOf (.int i)).bind fun n => if chop n && few n.toNat then some (rng 0 n.toNat) else none) ls) Q E := by
  refine wp_opt ⟨_, ?_, q⟩
  have e : (chop i && few i.toNat) = true := by
    simp only [chop, few, Bool.and_eq_true, decide_eq_true_eq]
    omega
  simp only [intOf, Option.bind_some, e, if_true]
end
theorem is_loop {f : PyData → Env → M Fl} {xs : List PyData} {ρ : Env} {ls : List PyData} {P : Fl → List PyData → Prop} (h : Wp (loopF f xs ρ ls) P E) : Wp (loopF f xs ρ ls) P E := h
theorem head_get {α β : Type} {xs : List α} {x : α} (f : α → β) (h : xs.head? = some x) : (xs.map f)[0]? = some (f x) := by
  cases xs with
  | nil => cases h
  | cons y ys => cases h; rfl
theorem DT_of {dfs : List (Option Df)} {recs : List (Option Rec)} (h : dfs = recs.map fun o => o.map (·.df)) : DT recs = fun i => dfs.getD i none := by
  funext i
  subst h
  unfold DT atR
  rw [List.getD_eq_getElem?_getD, List.getD_eq_getElem?_getD, List.getElem?_map]
  cases recs[i]? <;> rfl
end Pv

set_option maxRecDepth 100000
set_option maxHeartbeats 1000000
/-! Values that the kernel sees. -/
namespace Pv
open PySem PySem.W
mutual
def deq : PyData → PyData → Bool
  | .none, .none => true
  | .bool a, .bool b => a == b
  | .int i, .int j => decide (i = j)
  | .str x, .str y => x == y
  | .list xs, .list ys => deqs xs ys
  | .tuple xs, .tuple ys => deqs xs ys
  | _, _ => false
def deqs : List PyData → List PyData → Bool
  | [], [] => true
  | x :: xs, y :: ys => deq x y && deqs xs ys
  | _, _ => false
end
mutual
theorem deq_of : ∀ {a b : PyData}, deq a b = true → a = b
  | .none, b, h => by cases b <;> first | rfl | cases h
  | .bool x, b, h => by cases b <;> first | (simp only [deq, beq_iff_eq] at h; rw [h]) | cases h
  | .int i, b, h => by cases b <;> first | (simp only [deq, decide_eq_true_eq] at h; rw [h]) | cases h
  | .str x, b, h => by cases b <;> first | (simp only [deq, beq_iff_eq] at h; rw [h]) | cases h
  | .list xs, b, h => by cases b <;> first | (simp only [deq] at h; rw [deqs_of h]) | cases h
  | .tuple xs, b, h => by cases b <;> first | (simp only [deq] at h; rw [deqs_of h]) | cases h
  | .dict _, b, h => by cases b <;> cases h
theorem deqs_of : ∀ {a b : List PyData}, deqs a b = true → a = b
  | [], b, h => by cases b <;> first | rfl | cases h
  | x :: xs, b, h => by
    cases b with
    | nil => cases h
    | cons y ys =>
      simp only [deqs, Bool.and_eq_true] at h
      rw [deq_of h.1, deqs_of h.2]
end
def sees (r : R PyData) (d : PyData) : Bool := match r with | .ok a [] => deq a d | _ => false
def raises (r : R PyData) (x : Ex) : Bool := match r with | .exn y [] => decide (y = x) | _ => false
theorem sees_of {m : M PyData} (h : Bl m) {d : PyData} (e : sees (m []) d = true) (ls : List PyData) : m ls = .ok d ls := by
  refine bl_ok h ?_ ls
  unfold sees at e
  split at e
  · rename_i a q; rw [q, deq_of e]
  · cases e
theorem raises_of {m : M PyData} (h : Bl m) {x : Ex} (e : raises (m []) x = true) (ls : List PyData) : m ls = .exn x ls := by
  refine bl_exn h ?_ ls
  unfold raises at e
  split at e
  · rename_i a q; rw [q, of_decide_eq_true e]
  · cases e
/-- a check of the small range of two numbers -/
theorem all_range {p : Nat → Bool} {n i : Nat} (h : (List.range n).all p = true) (hi : i < n) : p i = true := List.all_eq_true.mp h i (List.mem_range.mpr hi)
theorem isTold_of {d : PyData} {w : Str} {m : Nat} (h : isTold d w m = true) : ∃ xs, d = .tuple (.str w :: xs) ∧ xs.length + 1 = m := by
  cases d with
  | tuple xs =>
    simp only [isTold, Bool.and_eq_true, decide_eq_true_eq] at h
    cases xs with
    | nil => exact absurd h.2 (by simp)
    | cons x xs =>
      cases x with
      | str z =>
        have e : z = w := by simpa using h.2
        subst e
        exact ⟨xs, rfl, by simpa using h.1⟩
      | _ => exact absurd h.2 (by simp)
  | _ => cases h
theorem isTold2 {d : PyData} {w : Str} (h : isTold d w 2 = true) : ∃ a, d = .tuple [.str w, a] := by
  obtain ⟨xs, rfl, hl⟩ := isTold_of h
  match xs, hl with
  | [a], _ => exact ⟨a, rfl⟩
theorem isTold3 {d : PyData} {w : Str} (h : isTold d w 3 = true) : ∃ a b, d = .tuple [.str w, a, b] := by
  obtain ⟨xs, rfl, hl⟩ := isTold_of h
  match xs, hl with
  | [a, b], _ => exact ⟨a, b, rfl⟩
theorem isTold4 {d : PyData} {w : Str} (h : isTold d w 4 = true) : ∃ a b c, d = .tuple [.str w, a, b, c] := by
  obtain ⟨xs, rfl, hl⟩ := isTold_of h
  match xs, hl with
  | [a, b, c], _ => exact ⟨a, b, c, rfl⟩
theorem isTold1 {d : PyData} {w : Str} (h : isTold d w 1 = true) : d = .tuple [.str w] := by
  obtain ⟨xs, rfl, hl⟩ := isTold_of h
  match xs, hl with
  | [], _ => rfl
theorem ints_of : ∀ {xs : List PyData}, xs.all isInt = true → ∃ ns : List Int, xs = ns.map .int
  | [], _ => ⟨[], rfl⟩
  | x :: xs, h => by
    simp only [List.all_cons, Bool.and_eq_true] at h
    obtain ⟨ns, rfl⟩ := ints_of h.2
    cases x with
    | int i => exact ⟨i :: ns, rfl⟩
    | _ => exact absurd h.1 (by simp [isInt])
theorem areWholes_of {d : PyData} {m : Nat} (h : areWholes d m = true) : ∃ ns : List Int, d = .tuple (ns.map .int) ∧ ns.length = m := by
  cases d with
  | tuple xs =>
    simp only [areWholes, Bool.and_eq_true, decide_eq_true_eq] at h
    obtain ⟨ns, rfl⟩ := ints_of h.2
    exact ⟨ns, rfl, by simpa using h.1⟩
  | _ => cases h
theorem arePlaces_of {d : PyData} {m : Int} (h : arePlaces d m = true) : ∃ ns : List Int, d = .tuple (ns.map .int) ∧ ∀ i ∈ ns, 0 ≤ i ∧ i < m := by
  cases d with
  | tuple xs =>
    have h : xs.all (isPlace m) = true := h
    have hi : xs.all isInt = true := List.all_eq_true.mpr fun x hx => by
      have := List.all_eq_true.mp h x hx
      cases x <;> first | rfl | cases this
    obtain ⟨ns, rfl⟩ := ints_of hi
    refine ⟨ns, rfl, fun i hi => ?_⟩
    have := List.all_eq_true.mp h (.int i) (List.mem_map_of_mem hi)
    simpa [isPlace] using this
  | _ => cases h
theorem isInt_of {d : PyData} (h : isInt d = true) : ∃ i, d = .int i := by
  cases d <;> first | exact ⟨_, rfl⟩ | cases h
theorem map_int_inj {ns ms : List Int} : ns.map PyData.int = ms.map PyData.int ↔ ns = ms := List.map_inj_right fun x y h => PyData.int.inj h
mutual
theorem eqv_typed : ∀ {xs ys : List Int}, PyData.eqvAll (xs.map .int) (ys.map .int) = decide (xs = ys)
  | [], [] => rfl
  | [], _ :: _ => rfl
  | _ :: _, [] => rfl
  | x :: xs, y :: ys => by
    show (PyData.eqv (.int x) (.int y) && PyData.eqvAll (xs.map .int) (ys.map .int)) = _
    rw [eqv_typed, eqv_int]
    by_cases h : x = y <;> by_cases h2 : xs = ys <;> simp [h, h2]
end
end Pv

set_option maxRecDepth 100000
set_option maxHeartbeats 1000000
/-! A greater depth of calls changes nothing. -/
namespace Pv
open PySem PySem.W
def Le {α : Type} (m m' : M α) : Prop := ∀ ls, m ls = .stuck ∨ m' ls = m ls
section
variable {α β : Type}
theorem Le.r {m : M α} : Le m m := fun _ => .inr rfl
theorem Le.b {m m' : M α} {f f' : α → M β} (h : Le m m') (k : ∀ a, Le (f a) (f' a)) : Le (M.bind m f) (M.bind m' f') := fun ls => by
  unfold M.bind
  rcases h ls with e | e
  · left; rw [e]
  · rw [e]
    cases m ls with
    | ok a ls' => exact k a ls'
    | exn x ls' => exact .inr rfl
    | stuck => exact .inr rfl
theorem Le.ite {c : Prop} [Decidable c] {m m' n n' : M α} (h : Le m m') (k : Le n n') : Le (if c then m else n) (if c then m' else n') := by
  split <;> assumption
theorem Le.caught {m m' : M α} {f f' : Ex → M α} (h : Le m m') (k : ∀ x, Le (f x) (f' x)) : Le (M.caught m f) (M.caught m' f') := fun ls => by
  unfold M.caught
  rcases h ls with e | e
  · left; rw [e]
  · rw [e]
    cases m ls with
    | ok a ls' => exact .inr rfl
    | exn x ls' => exact k x ls'
    | stuck => exact .inr rfl
theorem le_kV {e : Pv.E} {m m' : M PyData} (h : Le m m') : Le (kV e m) (kV e m') := by unfold kV; exact Le.ite Le.r h
theorem le_andor {w : Bool} {a b a' b' : M PyData} (h : Le a a') (k : Le b b') : Le (andor w a b) (andor w a' b') := by
  unfold andor
  exact Le.b h fun x => Le.b Le.r fun t => Le.ite k Le.r
theorem le_loopC {f f' : PyData → M (Option PyData)} (h : ∀ x, Le (f x) (f' x)) : ∀ xs acc, Le (loopC f xs acc) (loopC f' xs acc)
  | [], acc => Le.r
  | x :: xs, acc => fun ls => by
    unfold loopC
    rcases h x ls with e | e
    · left; rw [e]
    · rw [e]
      cases f x ls with
      | ok o ls' =>
        cases o with
        | some d => exact le_loopC h xs _ ls'
        | none => exact le_loopC h xs _ ls'
      | exn x ls' => exact .inl rfl
      | stuck => exact .inl rfl
theorem le_loopC2 {f f' : List PyData → PyData → M (List PyData)} (h : ∀ a x, Le (f a x) (f' a x)) : ∀ xs acc, Le (loopC2 f xs acc) (loopC2 f' xs acc)
  | [], acc => Le.r
  | x :: xs, acc => fun ls => by
    unfold loopC2
    rcases h acc x ls with e | e
    · left; rw [e]
    · rw [e]
      cases f acc x ls with
      | ok o ls' => exact le_loopC2 h xs _ ls'
      | exn x ls' => exact .inl rfl
      | stuck => exact .inl rfl
theorem le_loopF {f f' : PyData → Env → M Fl} (h : ∀ x ρ, Le (f x ρ) (f' x ρ)) : ∀ xs ρ, Le (loopF f xs ρ) (loopF f' xs ρ)
  | [], ρ => Le.r
  | x :: xs, ρ => Le.b (h x ρ) fun r => by
    cases r with
    | nx ρ' => exact le_loopF h xs ρ'
    | cnt ρ' => exact le_loopF h xs ρ'
    | brk ρ' => exact Le.r
    | ret d => exact Le.r
theorem le_loopW {c c' : Env → M Bool} {f f' : Env → M Fl} (hc : ∀ ρ, Le (c ρ) (c' ρ)) (h : ∀ ρ, Le (f ρ) (f' ρ)) : ∀ n ρ, Le (loopW c f n ρ) (loopW c' f' n ρ)
  | 0, ρ => Le.r
  | n + 1, ρ => Le.b (hc ρ) fun k => Le.ite (Le.b (h ρ) fun r => by
    cases r with
    | nx ρ' => exact le_loopW hc h n ρ'
    | cnt ρ' => exact le_loopW hc h n ρ'
    | brk ρ' => exact Le.r
    | ret d => exact Le.r) Le.r
variable {Φ Φ' : Nat → List PyData → M PyData}
mutual
theorem leE (H : ∀ f xs, Le (Φ f xs) (Φ' f xs)) : ∀ (e : Pv.E) (ρ : Env), Le (evX Φ e ρ) (evX Φ' e ρ)
  | .var i, ρ => by
    unfold evX
    split
    · exact Le.r
    · exact Le.r
  | .bor i, ρ => by
    unfold evX
    split
    · exact Le.r
    · exact Le.r
    · exact Le.r
  | .gint _ c, ρ => Le.r
  | .cst d, ρ => Le.r
  | .dct, ρ => Le.r
  | .sid i x, ρ => by
    unfold evX
    split
    · exact Le.b (le_kV (leE H x ρ)) fun y => Le.r
    · exact Le.r
  | .bin op a b, ρ => by
    exact Le.b (le_kV (leE H a ρ)) fun x => Le.b (le_kV (leE H b ρ)) fun y => Le.r
  | .neg a, ρ => by
    exact Le.b (le_kV (leE H a ρ)) fun x => Le.r
  | .not a, ρ => by
    exact Le.b (leE H a ρ) fun x => Le.r
  | .and a b, ρ => by
    exact le_andor (le_kV (leE H a ρ)) (le_kV (leE H b ρ))
  | .or a b, ρ => by
    exact le_andor (le_kV (leE H a ρ)) (le_kV (leE H b ρ))
  | .cmp op a b, ρ => by
    exact Le.b (leE H a ρ) fun x => Le.b (leE H b ρ) fun y => Le.r
  | .chn op op' a b c, ρ => by
    exact Le.b (leE H a ρ) fun x => Le.b (leE H b ρ) fun y => Le.b Le.r fun t => Le.ite (Le.b (leE H c ρ) fun z => Le.r) Le.r
  | .ite c a b, ρ => by
    exact Le.b (leE H c ρ) fun x => Le.b Le.r fun t => Le.ite (le_kV (leE H a ρ)) (le_kV (leE H b ρ))
  | .isi a t, ρ => by
    exact Le.b (leE H a ρ) fun x => Le.r
  | .isi2 a t u, ρ => by
    exact Le.b (leE H a ρ) fun x => Le.r
  | .fn1 f a, ρ => by
    exact Le.b (leE H a ρ) fun x => Le.r
  | .fn2 f a b, ρ => by
    exact Le.b (le_kV (leE H a ρ)) fun x => Le.b (le_kV (leE H b ρ)) fun y => Le.r
  | .cnt a b, ρ => by
    exact Le.b (leE H a ρ) fun x => Le.b Le.r fun _ => Le.b (le_kV (leE H b ρ)) fun y => Le.r
  | .own f st es, ρ => Le.b Le.r fun _ => Le.b (leEs H es ρ) fun xs => H f xs
  | .idx a i, ρ => by
    exact Le.b (leE H a ρ) fun x => Le.b (le_kV (leE H i ρ)) fun y => Le.r
  | .slc a lo hi, ρ => by
    exact Le.b (leE H a ρ) fun x => Le.b (leO H lo ρ) fun l => Le.b (leO H hi ρ) fun u => Le.r
  | .rev a, ρ => by
    exact Le.b (leE H a ρ) fun x => Le.r
  | .tup es, ρ => by
    exact Le.b (leEs H es ρ) fun x => Le.r
  | .lst es, ρ => by
    exact Le.b (leEs H es ρ) fun x => Le.r
  | .lof it, ρ => by
    exact Le.b (leI H it ρ) fun x => Le.r
  | .tof it, ρ => by
    exact Le.b (leI H it ρ) fun x => Le.r
  | .lc vs t it c e, ρ => by
    exact Le.b (leI H it ρ) fun xs => Le.b (le_loopC (fun x => Le.b Le.r fun ρ' => Le.b (leT H c ρ') fun q => Le.ite (Le.b (le_kV (leE H e ρ')) fun d => Le.r) Le.r) xs []) fun ds => Le.r
  | .lc2 vs vs1 t it c t1 it1 c1 e, ρ => by
    exact Le.b (leI H it ρ) fun xs => Le.b (le_loopC2 (fun acc x => Le.b Le.r fun ρ' => Le.b (leT H c ρ') fun q => Le.ite
      (Le.b (leI H it1 ρ') fun ys => Le.b Le.r fun _ => le_loopC (fun y => Le.b Le.r fun ρ2 => Le.b (leT H c1 ρ2) fun q => Le.ite (Le.b (le_kV (leE H e ρ2)) fun d => Le.r) Le.r) ys acc) Le.r) xs []) fun ds => Le.r
theorem leEs (H : ∀ f xs, Le (Φ f xs) (Φ' f xs)) : ∀ (es : Es) (ρ : Env), Le (evsX Φ es ρ) (evsX Φ' es ρ)
  | .nil, ρ => Le.r
  | .cons e es, ρ => by
    exact Le.b (le_kV (leE H e ρ)) fun x => Le.b (leEs H es ρ) fun y => Le.r
theorem leO (H : ∀ f xs, Le (Φ f xs) (Φ' f xs)) : ∀ (o : O) (ρ : Env), Le (evOX Φ o ρ) (evOX Φ' o ρ)
  | .none, ρ => Le.r
  | .some e, ρ => by
    exact Le.b (le_kV (leE H e ρ)) fun x => Le.r
theorem leT (H : ∀ f xs, Le (Φ f xs) (Φ' f xs)) : ∀ (o : O) (ρ : Env), Le (evTX Φ o ρ) (evTX Φ' o ρ)
  | .none, ρ => Le.r
  | .some e, ρ => by
    exact Le.b (leE H e ρ) fun x => Le.r
theorem leI (H : ∀ f xs, Le (Φ f xs) (Φ' f xs)) : ∀ (it : It) (ρ : Env), Le (evIX Φ it ρ) (evIX Φ' it ρ)
  | .seq a, ρ => by
    exact Le.b (leE H a ρ) fun x => Le.r
  | .rng1 a, ρ => by
    exact Le.b (le_kV (leE H a ρ)) fun x => Le.r
  | .rng2 a b, ρ => by
    exact Le.b (le_kV (leE H a ρ)) fun x => Le.b (le_kV (leE H b ρ)) fun y => Le.r
  | .rng3 a b c, ρ => by
    exact Le.b (le_kV (leE H a ρ)) fun x => Le.b (le_kV (leE H b ρ)) fun y => Le.b (le_kV (leE H c ρ)) fun z => Le.r
  | .enum a, ρ => by
    exact Le.b (leE H a ρ) fun x => Le.r
  | .zip a b, ρ => by
    exact Le.b (leE H a ρ) fun x => Le.b (leE H b ρ) fun y => Le.r
  | .zip3 a b c, ρ => by
    exact Le.b (leE H a ρ) fun x => Le.b (leE H b ρ) fun y => Le.b (leE H c ρ) fun z => Le.r
end
mutual
theorem leS {fuel : Nat} (H : ∀ f xs, Le (Φ f xs) (Φ' f xs)) : ∀ (s : S) (ρ : Env), Le (ex Φ fuel s ρ) (ex Φ' fuel s ρ)
  | .asg t e, ρ => by
    exact Le.b (le_kV (leE H e ρ)) fun d => Le.b Le.r fun ρ' => Le.r
  | .asgF i e, ρ => by
    exact Le.b (le_kV (leE H e ρ)) fun d => Le.b Le.r fun _ => Le.r
  | .mv i j, ρ => by
    unfold ex
    split
    · exact Le.b Le.r fun _ => Le.r
    · exact Le.r
  | .setX i x e, ρ => by
    exact Le.b (le_kV (leE H e ρ)) fun d => Le.b Le.r fun _ => Le.b (le_kV (leE H x ρ)) fun q => Le.b Le.r fun xs => Le.b Le.r fun ys => Le.r
  | .augX i op x e, ρ => by
    exact Le.b Le.r fun _ => Le.b (le_kV (leE H x ρ)) fun q => Le.b Le.r fun xs => Le.b Le.r fun o => Le.b (le_kV (leE H e ρ)) fun d => Le.b Le.r fun v => Le.b Le.r fun xs' => Le.b Le.r fun ys => Le.r
  | .aug i op e, ρ => by
    exact Le.b (leE H (.var i) ρ) fun o => Le.b (le_kV (leE H e ρ)) fun d => Le.b Le.r fun v => Le.r
  | .app i e, ρ => by
    exact Le.b Le.r fun _ => Le.b (le_kV (leE H e ρ)) fun d => Le.b Le.r fun xs => Le.b Le.r fun _ => Le.r
  | .popX t j x, ρ => by
    exact Le.b Le.r fun _ => Le.b (leO H x ρ) fun q => Le.b Le.r fun xs => Le.b Le.r fun p => Le.b Le.r fun ρ' => Le.r
  | .appPop i j x, ρ => by
    exact Le.b Le.r fun _ => Le.b Le.r fun _ => Le.b (leO H x ρ) fun q => Le.b Le.r fun xs => Le.b Le.r fun p => Le.b Le.r fun ys => Le.b Le.r fun _ => Le.r
  | .remI i e, ρ => by
    exact Le.b Le.r fun _ => Le.b (le_kV (leE H e ρ)) fun d => Le.b Le.r fun xs => Le.b Le.r fun ys => Le.r
  | .exp e, ρ => by
    exact Le.b (leE H e ρ) fun d => Le.r
  | .ite c a b, ρ => by
    exact Le.b (leT H (.some c) ρ) fun q => Le.ite (leSs H a ρ) (leSs H b ρ)
  | .whl c b, ρ => by
    exact le_loopW (fun ρ => leT H (.some c) ρ) (fun ρ => leSs H b ρ) fuel ρ
  | .for t it b, ρ => by
    exact Le.b (leI H it ρ) fun xs => le_loopF (fun x ρ => Le.b Le.r fun ρ' => leSs H b ρ') xs ρ
  | .ret e, ρ => by
    exact Le.b (le_kV (leE H e ρ)) fun d => Le.r
  | .brk, ρ => Le.r
  | .cnt, ρ => Le.r
  | .rais x, ρ => Le.r
  | .pass, ρ => Le.r
  | .fr is s, ρ => by
    exact leS H s _
  | .tryR i e, ρ => by
    exact Le.b Le.r fun _ => Le.caught (Le.b (le_kV (leE H e ρ)) fun d => Le.r) fun _ => Le.r
  | .tryC i c a b, ρ => by
    exact Le.b Le.r fun _ => Le.caught (Le.b (leT H (.some c) ρ) fun q => Le.b (Le.ite (leE H a ρ) (leE H b ρ)) fun _ => Le.r) fun x => Le.r
theorem leSs {fuel : Nat} (H : ∀ f xs, Le (Φ f xs) (Φ' f xs)) : ∀ (ss : Ss) (ρ : Env), Le (exs Φ fuel ss ρ) (exs Φ' fuel ss ρ)
  | .nil, ρ => Le.r
  | .cons s ss, ρ => by
    exact Le.b (leS H s ρ) fun r => by
      cases r with
      | nx ρ' => exact leSs H ss ρ'
      | cnt ρ' => exact Le.r
      | brk ρ' => exact Le.r
      | ret d => exact Le.r
end
end
theorem le_run {D : Nat → Option Df} {fuel : Nat} : ∀ (L L' : Nat), L ≤ L' → ∀ f ds, Le (run D fuel L f ds) (run D fuel L' f ds)
  | 0, L', h, f, ds => fun ls => .inl rfl
  | L + 1, 0, h, f, ds => absurd h (by omega)
  | L + 1, L' + 1, h, f, ds => by
    show Le (match D f with | none => M.stuck | some d => if ds.length = d.ar then runB (run D fuel L) fuel d.n d.body d.st ds else M.stuck) (match D f with | none => M.stuck | some d => if ds.length = d.ar then runB (run D fuel L') fuel d.n d.body d.st ds else M.stuck)
    cases D f with
    | none => exact Le.r
    | some d => exact Le.ite (Le.b (leSs (le_run L L' (by omega)) d.body _) fun r => Le.r) Le.r
/-- what is seen at one depth and one state holds at all -/
theorem sees_run {D : Nat → Option Df} {fuel : Nat} {C : Nat → Bool} (h : ∀ f d, C f = true → D f = some d → bcD C d = true) {f L L' : Nat} (hf : C f = true) (hL : L ≤ L') {ds : List PyData} {d : PyData} (e : sees (run D fuel L f ds []) d = true) (ls : List PyData) : run D fuel L' f ds ls = .ok d ls := by
  have e1 := sees_of (bl_run h L f hf ds) e ls
  rcases le_run (D := D) (fuel := fuel) L L' hL f ds ls with q | q
  · rw [q] at e1; cases e1
  · rw [q, e1]
theorem raises_run {D : Nat → Option Df} {fuel : Nat} {C : Nat → Bool} (h : ∀ f d, C f = true → D f = some d → bcD C d = true) {f L L' : Nat} (hf : C f = true) (hL : L ≤ L') {ds : List PyData} {x : Ex} (e : raises (run D fuel L f ds []) x = true) (ls : List PyData) : run D fuel L' f ds ls = .exn x ls := by
  have e1 := raises_of (bl_run h L f hf ds) e ls
  rcases le_run (D := D) (fuel := fuel) L L' hL f ds ls with q | q
  · rw [q] at e1; cases e1
  · rw [q, e1]
end Pv

set_option maxRecDepth 100000
set_option maxHeartbeats 1000000
/-! The order of data: least, greatest, sorted. -/
namespace Pv
open PySem PySem.W
theorem dlt_irr (x : PyData) : dataLt x x = false := (PyProof.Rows.listOrd PyProof.Rows.itemOrd).irrefl _
theorem dlt_trans {x y z : PyData} (h : dataLt x y = true) (k : dataLt y z = true) : dataLt x z = true := (PyProof.Rows.listOrd PyProof.Rows.itemOrd).trans _ _ _ h k
theorem dlt_neg {x z : PyData} (y : PyData) (h : dataLt x z = true) : dataLt x y = true ∨ dataLt y z = true := (PyProof.Rows.listOrd PyProof.Rows.itemOrd).negTrans _ _ _ h
/-- x ≤ y -/
abbrev dle (x y : PyData) : Prop := dataLt y x = false
theorem dle_trans {x y z : PyData} (h : dle x y) (k : dle y z) : dle x z := by
  cases q : dataLt z x with
  | false => exact q
  | true =>
    rcases dlt_neg y q with h2 | h2
    · exact absurd (h2.symm.trans k) (by simp)
    · exact absurd (h2.symm.trans h) (by simp)
theorem dle_total (x y : PyData) : dle x y ∨ dle y x := by
  cases q : dataLt y x with
  | false => exact .inl q
  | true =>
    right
    cases q2 : dataLt x y with
    | false => exact q2
    | true => exact absurd (dlt_trans q q2) (by rw [dlt_irr]; simp)
theorem lex_inl {a b : Int} {l m : List (Int ⊕ List Nat)} : PyProof.Rows.lexLt PyProof.Rows.itemOrd (.inl a :: l) (.inl b :: m) = (decide (a < b) || (!decide (b < a) && PyProof.Rows.lexLt PyProof.Rows.itemOrd l m)) := rfl
theorem dlt_int {a b : Int} : dataLt (.int a) (.int b) = decide (a < b) := by
  show PyProof.Rows.lexLt PyProof.Rows.itemOrd [.inl a] [.inl b] = _
  rw [lex_inl]
  show (decide (a < b) || (!decide (b < a) && false)) = _
  rw [Bool.and_false, Bool.or_false]
/-- rows that begin with whole numbers -/
theorem dlt_cons {a b : Int} {xs ys : List PyData} : dataLt (.tuple (.int a :: xs)) (.tuple (.int b :: ys)) = (decide (a < b) || (!decide (b < a) && dataLt (.tuple xs) (.tuple ys))) := by
  show PyProof.Rows.lexLt PyProof.Rows.itemOrd (.inl 1 :: .inl a :: keyToksAll xs) (.inl 1 :: .inl b :: keyToksAll ys) = _
  rw [lex_inl, lex_inl]
  have h : decide ((1 : Int) < 1) = false := by decide
  rw [h]
  rfl
theorem dle_cons {a b : Int} {xs ys : List PyData} (h : dle (.tuple (.int a :: xs)) (.tuple (.int b :: ys))) : a ≤ b := by
  have h := (dlt_cons (a := b) (b := a) (xs := ys) (ys := xs)).symm.trans h
  rw [Bool.or_eq_false_iff] at h
  have := of_decide_eq_false h.1
  omega
theorem dle_int {a b : Int} (h : dle (.int a) (.int b)) : a ≤ b := by
  have h := (dlt_int (a := b) (b := a)).symm.trans h
  have := of_decide_eq_false h
  omega
theorem minD_spec : ∀ (xs : List PyData) (x : PyData), minD x xs ∈ x :: xs ∧ ∀ y ∈ x :: xs, dle (minD x xs) y
  | [], x => ⟨List.mem_cons_self, fun y hy => by
    rw [List.mem_singleton] at hy
    subst hy
    exact dlt_irr y⟩
  | z :: zs, x => by
    have e : minD x (z :: zs) = minD (if dataLt z x then z else x) zs := rfl
    rw [e]
    obtain ⟨h1, h2⟩ := minD_spec zs (if dataLt z x then z else x)
    have k := h2 _ List.mem_cons_self
    refine ⟨?_, fun y hy => ?_⟩
    · rcases List.mem_cons.mp h1 with h1 | h1
      · rw [h1]
        split
        · exact List.mem_cons_of_mem _ List.mem_cons_self
        · exact List.mem_cons_self
      · exact List.mem_cons_of_mem _ (List.mem_cons_of_mem _ h1)
    · rcases List.mem_cons.mp hy with rfl | hy
      · refine dle_trans k ?_
        split
        · rename_i c
          rcases dle_total z y with q | q
          · exact q
          · exact absurd (c.symm.trans q) (by simp)
        · exact dlt_irr _
      · rcases List.mem_cons.mp hy with rfl | hy
        · refine dle_trans k ?_
          split
          · exact dlt_irr _
          · rename_i c; simpa using c
        · exact h2 y (List.mem_cons_of_mem _ hy)
theorem maxD_spec : ∀ (xs : List PyData) (x : PyData), maxD x xs ∈ x :: xs ∧ ∀ y ∈ x :: xs, dle y (maxD x xs)
  | [], x => ⟨List.mem_cons_self, fun y hy => by
    rw [List.mem_singleton] at hy
    subst hy
    exact dlt_irr y⟩
  | z :: zs, x => by
    have e : maxD x (z :: zs) = maxD (if dataLt x z then z else x) zs := rfl
    rw [e]
    obtain ⟨h1, h2⟩ := maxD_spec zs (if dataLt x z then z else x)
    have k := h2 _ List.mem_cons_self
    refine ⟨?_, fun y hy => ?_⟩
    · rcases List.mem_cons.mp h1 with h1 | h1
      · rw [h1]
        split
        · exact List.mem_cons_of_mem _ List.mem_cons_self
        · exact List.mem_cons_self
      · exact List.mem_cons_of_mem _ (List.mem_cons_of_mem _ h1)
    · rcases List.mem_cons.mp hy with rfl | hy
      · refine dle_trans ?_ k
        split
        · rename_i c
          rcases dle_total y z with q | q
          · exact q
          · exact absurd (c.symm.trans q) (by simp)
        · exact dlt_irr _
      · rcases List.mem_cons.mp hy with rfl | hy
        · refine dle_trans ?_ k
          split
          · exact dlt_irr _
          · rename_i c; simpa using c
        · exact h2 y (List.mem_cons_of_mem _ hy)
theorem dataLe_eq (x y : PyData) : dataLe false (fun d => d) x y = !dataLt y x := rfl
/-- what sorted gives -/
theorem sorts_spec {ds es : List PyData} (h : sorts ds = some es) : es.Perm ds ∧ es.Pairwise dle := by
  unfold sorts at h
  split at h
  · simp only [Option.some.injEq] at h
    subst h
    refine ⟨List.mergeSort_perm _ _, (List.pairwise_mergeSort (le := dataLe false fun d => d) (fun a b c h1 h2 => ?_) (fun a b => ?_) ds).imp fun h => ?_⟩
    · rw [dataLe_eq, Bool.not_eq_true'] at *
      exact dle_trans h1 h2
    · rw [dataLe_eq, dataLe_eq, Bool.or_eq_true, Bool.not_eq_true', Bool.not_eq_true']
      exact dle_total a b
    · rw [dataLe_eq, Bool.not_eq_true'] at h
      exact h
  · cases h
/-! what is needed for it: pairs of a whole number and a row of whole numbers, or whole numbers -/
theorem alike_ints : ∀ (xs ys : List Int), alikeAll (xs.map .int) (ys.map .int) = true
  | [], _ => rfl
  | _ :: _, [] => rfl
  | x :: xs, y :: ys => by
    show (true && alikeAll (xs.map .int) (ys.map .int)) = true
    rw [alike_ints xs ys]; rfl
abbrev ir (i : Int) (r : List Int) : PyData := .tuple [.int i, .tuple (r.map .int)]
theorem alike_ir {i j : Int} {r q : List Int} : alike (ir i r) (ir j q) = true := by
  show (true && (alikeAll (r.map .int) (q.map .int) && true)) = true
  rw [alike_ints]; rfl
theorem allAlike_of {α : Type} (f : α → PyData) (h : ∀ a b, alike (f a) (f b) = true) (xs : List α) : allAlike (xs.map f) = true := by
  unfold allAlike
  refine List.all_eq_true.mpr fun d hd => List.all_eq_true.mpr fun e he => ?_
  obtain ⟨a, _, rfl⟩ := List.mem_map.mp hd
  obtain ⟨b, _, rfl⟩ := List.mem_map.mp he
  exact h a b
theorem all_of {α : Type} (f : α → PyData) {p : PyData → Bool} (h : ∀ a, p (f a) = true) (xs : List α) : (xs.map f).all p = true :=
  List.all_eq_true.mpr fun d hd => by
    obtain ⟨a, _, rfl⟩ := List.mem_map.mp hd
    exact h a
theorem depth_ints : ∀ xs : List Int, PyData.depthAll (xs.map .int) = 0
  | [] => rfl
  | x :: xs => by show max 0 (PyData.depthAll (xs.map .int)) = 0; rw [depth_ints xs]; rfl
theorem deep_of {α : Type} (f : α → PyData) (h : ∀ a, (f a).depth ≤ 64) (xs : List α) : deep (xs.map f) = true := by
  unfold deep
  refine decide_eq_true ?_
  induction xs with
  | nil => exact Nat.zero_le _
  | cons x xs ih => exact Nat.max_le.mpr ⟨h x, ih⟩
theorem depth_ir {i : Int} {r : List Int} : (ir i r).depth ≤ 64 := by
  show max 0 (max (PyData.depthAll (r.map .int) + 1) 0) + 1 ≤ 64
  rw [depth_ints]
  decide
/-- sorted, of rows that are alike -/
theorem sorts_of {α : Type} {f : α → PyData} {xs : List α} (h : ∀ a b, alike (f a) (f b) = true) (t : (∀ a, isTup1 (f a) = true) ∨ ∀ a, noTup (f a) = true) (d : ∀ a, (f a).depth ≤ 64) :
    ∃ ys : List α, sorts (xs.map f) = some (ys.map f) ∧ ys.Perm xs ∧ ys.Pairwise fun a b => dle (f a) (f b) := by
  have e : sorts (xs.map f) = some ((xs.map f).mergeSort (dataLe false fun d => d)) := by
    unfold sorts
    refine if_pos ?_
    rw [allAlike_of f h, deep_of f d]
    rcases t with t | t
    · rw [all_of f t]; rfl
    · rw [all_of f t, Bool.or_true]; rfl
  have e2 : (xs.map f).mergeSort (dataLe false fun d => d) = (xs.mergeSort fun a b => dataLe false (fun d => d) (f a) (f b)).map f := by
    rw [List.map_mergeSort]
    intro a _ b _
    rfl
  obtain ⟨p1, p2⟩ := sorts_spec e
  rw [e2] at e p2
  exact ⟨_, e, List.mergeSort_perm _ _, List.pairwise_map.mp p2⟩
theorem least_of {α : Type} {f : α → PyData} {xs : List α} (h : ∀ a b, alike (f a) (f b) = true) (t : ∀ a, notNone (f a) = true) (d : ∀ a, (f a).depth ≤ 64) (ne : xs ≠ []) :
    ∃ y ∈ xs, least (xs.map f) = some (f y) ∧ ∀ z ∈ xs, dle (f y) (f z) := by
  cases xs with
  | nil => exact absurd rfl ne
  | cons x xs =>
    have e : least ((x :: xs).map f) = some (minD (f x) (xs.map f)) := by
      show (if (allAlike ((x :: xs).map f) && ((x :: xs).map f).all notNone && deep ((x :: xs).map f)) = true then _ else _) = _
      rw [allAlike_of f h, all_of f t, deep_of f d]
      rfl
    obtain ⟨h1, h2⟩ := minD_spec (xs.map f) (f x)
    obtain ⟨y, hy, ey⟩ := List.mem_map.mp (show minD (f x) (xs.map f) ∈ (x :: xs).map f from h1)
    exact ⟨y, hy, by rw [e, ← ey], fun z hz => by rw [ey]; exact h2 _ (List.mem_map_of_mem (f := f) hz)⟩
theorem most_of {α : Type} {f : α → PyData} {xs : List α} (h : ∀ a b, alike (f a) (f b) = true) (t : ∀ a, notNone (f a) = true) (d : ∀ a, (f a).depth ≤ 64) (ne : xs ≠ []) :
    ∃ y ∈ xs, most (xs.map f) = some (f y) ∧ ∀ z ∈ xs, dle (f z) (f y) := by
  cases xs with
  | nil => exact absurd rfl ne
  | cons x xs =>
    have e : most ((x :: xs).map f) = some (maxD (f x) (xs.map f)) := by
      show (if (allAlike ((x :: xs).map f) && ((x :: xs).map f).all notNone && deep ((x :: xs).map f)) = true then _ else _) = _
      rw [allAlike_of f h, all_of f t, deep_of f d]
      rfl
    obtain ⟨h1, h2⟩ := maxD_spec (xs.map f) (f x)
    obtain ⟨y, hy, ey⟩ := List.mem_map.mp (show maxD (f x) (xs.map f) ∈ (x :: xs).map f from h1)
    exact ⟨y, hy, by rw [e, ← ey], fun z hz => by rw [ey]; exact h2 _ (List.mem_map_of_mem (f := f) hz)⟩
theorem map_int_inj' {α : Type} (g : α → Int) (xs : List α) : xs.map (fun a => PyData.int (g a)) = (xs.map g).map .int := by rw [List.map_map]; rfl
/-- the greatest of whole numbers -/
theorem most_ints {ns : List Int} (ne : ns ≠ []) : ∃ m ∈ ns, most (ns.map .int) = some (.int m) ∧ ∀ z ∈ ns, z ≤ m := by
  obtain ⟨y, hy, e, h⟩ := most_of (f := PyData.int) (xs := ns) (fun _ _ => rfl) (fun _ => rfl) (fun _ => Nat.zero_le _) ne
  exact ⟨y, hy, e, fun z hz => dle_int (h z hz)⟩
theorem least_ints {ns : List Int} (ne : ns ≠ []) : ∃ m ∈ ns, least (ns.map .int) = some (.int m) ∧ ∀ z ∈ ns, m ≤ z := by
  obtain ⟨y, hy, e, h⟩ := least_of (f := PyData.int) (xs := ns) (fun _ _ => rfl) (fun _ => rfl) (fun _ => Nat.zero_le _) ne
  exact ⟨y, hy, e, fun z hz => dle_int (h z hz)⟩
end Pv

set_option maxRecDepth 100000
set_option maxHeartbeats 1000000
/-! All sets. -/
namespace Pv.Hn
def b_sets_of : Ss :=
    (.cons (.asg (.nm 1) (.lst (.cons (.tup .nil) .nil)))
    (.cons (.for (.nm 2) (.rng1 (.var 0)) (.cons (.asg (.nm 1) (.bin .Add (.var 1) (.lc [4] (.nm 4) (.seq (.var 1)) .none (.bin .Add (.var 4) (.tup (.cons (.var 2) .nil))))))
    .nil))
    (.cons (.ret (.lc [3, 4] (.tp (.cons (.nm 3) (.cons (.nm 4) .nil))) (.seq (.fn1 .sorted (.lc [4] (.nm 4) (.seq (.var 1)) .none (.tup (.cons (.fn1 .len (.var 4)) (.cons (.var 4) .nil)))))) .none (.var 4)))
    .nil)))
abbrev D_sets_of : Df := ⟨5, false, 1, b_sets_of⟩
end Pv.Hn
namespace Pv
open PySem PySem.W
variable {D : Nat → Option Df} {fuel : Nat} {E : Ex → List PyData → Prop}
/-- a row of whole numbers -/
abbrev row (r : List Int) : PyData := .tuple (r.map .int)
def allSets (ns : List Int) : List (List Int) := ns.foldl (fun acc n => acc ++ acc.map (· ++ [n])) [[]]
theorem allSets_snoc (ns : List Int) (n : Int) : allSets (ns ++ [n]) = allSets ns ++ (allSets ns).map (· ++ [n]) := by
  unfold allSets
  rw [List.foldl_append]
  rfl
theorem foldS_mem : ∀ (ns : List Int) (acc : List (List Int)) (p : List Int), p ∈ ns.foldl (fun acc n => acc ++ acc.map (· ++ [n])) acc ↔ ∃ a ∈ acc, ∃ q, q.Sublist ns ∧ p = a ++ q
  | [], acc, p => by
    simp only [List.foldl_nil, List.sublist_nil]
    exact ⟨fun h => ⟨p, h, [], rfl, by simp⟩, fun ⟨a, ha, q, e, h⟩ => by subst e; rw [h, List.append_nil]; exact ha⟩
  | n :: ns, acc, p => by
    rw [List.foldl_cons, foldS_mem ns]
    constructor
    · rintro ⟨a, ha, q, hq, rfl⟩
      rcases List.mem_append.mp ha with ha | ha
      · exact ⟨a, ha, q, hq.cons _, rfl⟩
      · obtain ⟨a', ha', rfl⟩ := List.mem_map.mp ha
        exact ⟨a', ha', n :: q, hq.cons_cons _, by simp⟩
    · rintro ⟨a, ha, q, hq, rfl⟩
      cases hq with
      | cons _ hq => exact ⟨a, List.mem_append_left _ ha, q, hq, rfl⟩
      | cons_cons _ hq => exact ⟨a ++ [n], List.mem_append_right _ (List.mem_map_of_mem ha), _, hq, by simp⟩
theorem foldS_len : ∀ (ns : List Int) (acc : List (List Int)), (ns.foldl (fun acc n => acc ++ acc.map (· ++ [n])) acc).length = acc.length * 2 ^ ns.length
  | [], acc => by simp
  | n :: ns, acc => by
    rw [List.foldl_cons, foldS_len ns, List.length_append, List.length_map, List.length_cons, Nat.pow_succ, ← Nat.two_mul, Nat.mul_comm 2, Nat.mul_assoc, Nat.mul_comm 2]
theorem allSets_mem {ns p : List Int} : p ∈ allSets ns ↔ p.Sublist ns := by
  unfold allSets
  rw [foldS_mem]
  simp
theorem allSets_len (ns : List Int) : (allSets ns).length = 2 ^ ns.length := by
  unfold allSets
  rw [foldS_len]
  simp
theorem allSets_ne (ns : List Int) : allSets ns ≠ [] := fun h => by
  have := allSets_len ns
  rw [h] at this
  have h2 := Nat.two_pow_pos ns.length
  rw [List.length_nil] at this
  omega
theorem take_snoc {ns : List Int} {i : Nat} {n : Int} (h : ns[i]? = some n) : ns.take (i + 1) = ns.take i ++ [n] := by
  rw [List.take_add_one, h]; rfl
theorem pow_le12 {n : Nat} (h : n ≤ 12) : 2 ^ n ≤ 4096 := Nat.pow_le_pow_right (by decide) h
theorem seqOf_row {ns : List Int} : seqOf (row ns) = some (ns.map .int) := rfl
/-- the law's own sets -/
theorem allsets_run (h : D 19 = some Hn.D_b_w_all_sets) {L : Nat} (hL : 1 ≤ L) {ns : List Int} {d : PyData} (hd : seqOf d = some (ns.map .int)) (hn : ns.length ≤ 12) (ls : List PyData) :
    run D fuel L 19 [d] ls = .ok (.list ((allSets ns).map row)) ls := by
  refine run_is h rfl hL fun L' e => ?_
  unfold runB
  walk_at "wk"
  refine wp_opt ⟨_, hd, ?_⟩
  refine wp_for (fun i ρ ls' => ls' = ls ∧ ∃ w2 w3, ρ = [.fz d, .fz (.list ((allSets (ns.take i)).map row)), w2, w3] ∧ w2 ≠ .st ∧ w3 ≠ .st) ?_ ?_ (ρ := [.fz d, .fz (.list [.tuple []]), .no, .no]) ⟨rfl, _, _, rfl, by walk_at "nsT", by walk_at "nsT"⟩
  · rintro i x ρ ls' hx ⟨rfl, w2, w3, rfl, n2, n3⟩
    rw [List.getElem?_map] at hx
    obtain ⟨n, hn', rfl⟩ := Option.map_eq_some_iff.mp hx
    have hl : ((allSets (ns.take i)).map row).length ≤ 4096 := by
      rw [List.length_map, allSets_len]
      exact pow_le12 (by rw [List.length_take]; omega)
    walk_at "wk"
    refine wp_map (enc := row) (fun p => row (p ++ [n])) (fun p hp => ?_) ?_
    · have hp := (allSets_mem.mp hp).length_le
      have hp : (p.map PyData.int).length ≤ 12 := by rw [List.length_map]; rw [List.length_take] at hp; omega
      walk_at "wk"
      refine ⟨rfl, ?_⟩
      show some (PyData.tuple (p.map .int ++ [.int n])) = some (row (p ++ [n]))
      rw [row, List.map_append]
      rfl
    · have hl2 : ((allSets (ns.take i)).map fun p => row (p ++ [n])).length ≤ 4096 := by rw [List.length_map] at hl ⊢; exact hl
      walk_at "wk"
      refine ⟨rfl, .fz (.int n), w3, ?_, by walk_at "nsT", n3⟩
      rw [take_snoc hn', allSets_snoc, List.map_append, List.map_map]
      rfl
  · rintro ρ ls' ⟨rfl, w2, w3, rfl, n2, n3⟩
    walk_at "wk"
    refine ⟨rfl, ?_⟩
    rw [List.length_map, List.take_length]
/-- the places below a number -/
def upto (n : Nat) : List Int := (List.range n).map fun i : Nat => (i : Int)
theorem upto_len (n : Nat) : (upto n).length = n := by simp [upto]
theorem rng_upto (n : Nat) : rng 0 n = (upto n).map .int := by
  unfold rng upto
  rw [List.map_map]
  refine List.map_congr_left fun i _ => ?_
  show PyData.int (0 + (i : Int)) = PyData.int i
  rw [Int.zero_add]
/-- the program's sets: all of them, shorter ones first -/
theorem sets_run {f : Nat} (h : D f = some Hn.D_sets_of) {L : Nat} (hL : 1 ≤ L) {n : Nat} (hn : n ≤ 12) :
    ∃ S : List (List Int), S.Perm (allSets (upto n)) ∧ (S.Pairwise fun p q => p.length ≤ q.length) ∧ ∀ ls, run D fuel L f [.int n] ls = .ok (.list (S.map row)) ls := by
  obtain ⟨S, hS, hp, hs⟩ := sorts_of (f := fun p : List Int => ir p.length p) (xs := allSets (upto n)) (fun a b => alike_ir) (.inl fun _ => rfl) (fun _ => depth_ir)
  refine ⟨S, hp, hs.imp fun q => Int.ofNat_le.mp (dle_cons q), fun ls => run_is h rfl hL fun L' e => ?_⟩
  have h12 : ∀ p ∈ allSets (upto n), p.length ≤ 12 := fun p hp => by
    have := (allSets_mem.mp hp).length_le
    rw [upto_len] at this
    omega
  unfold runB
  walk_at "wk"
  rw [show ((n : Int)).toNat = n from by omega, rng_upto]
  refine wp_for (fun i ρ ls' => ls' = ls ∧ ∃ w2 w3 w4, ρ = [.fz (.int n), .fz (.list ((allSets ((upto n).take i)).map row)), w2, w3, w4] ∧ w2 ≠ .st ∧ w3 ≠ .st ∧ w4 ≠ .st) ?_ ?_ (ρ := [.fz (.int n), .fz (.list [.tuple []]), .no, .no, .no]) ⟨rfl, _, _, _, rfl, by walk_at "nsT", by walk_at "nsT", by walk_at "nsT"⟩
  · rintro i x ρ ls' hx ⟨rfl, w2, w3, w4, rfl, n2, n3, n4⟩
    rw [List.getElem?_map] at hx
    obtain ⟨m, hn', rfl⟩ := Option.map_eq_some_iff.mp hx
    have hl : ((allSets ((upto n).take i)).map row).length ≤ 4096 := by
      rw [List.length_map, allSets_len]
      exact pow_le12 (by rw [List.length_take, upto_len]; omega)
    walk_at "wk"
    refine wp_map (enc := row) (fun p => row (p ++ [m])) (fun p hp => ?_) ?_
    · have hp := (allSets_mem.mp hp).length_le
      have hp : (p.map PyData.int).length ≤ 12 := by rw [List.length_map]; rw [List.length_take, upto_len] at hp; omega
      walk_at "wk"
      refine ⟨rfl, ?_⟩
      show some (PyData.tuple (p.map .int ++ [.int m])) = some (row (p ++ [m]))
      rw [row, List.map_append]
      rfl
    · have hl2 : ((allSets ((upto n).take i)).map fun p => row (p ++ [m])).length ≤ 4096 := by rw [List.length_map] at hl ⊢; exact hl
      walk_at "wk"
      refine ⟨rfl, .fz (.int m), w3, w4, ?_, by walk_at "nsT", n3, n4⟩
      rw [take_snoc hn', allSets_snoc, List.map_append, List.map_map]
      rfl
  · rintro ρ ls' ⟨rfl, w2, w3, w4, rfl, n2, n3, n4⟩
    rw [List.length_map, List.take_length]
    walk_at "wk"
    refine wp_map (enc := row) (fun p : List Int => ir p.length p) (fun p hp => ?_) ?_
    · walk_at "wk"
      refine ⟨rfl, ?_⟩
      show some (PyData.tuple [.int ((p.map PyData.int).length : Nat), row p]) = some (ir p.length p)
      rw [List.length_map]
    · walk_at "wk"
      refine wp_opt ⟨.list (S.map fun p : List Int => ir p.length p), ?_, ?_⟩
      · show (sorts _).map PyData.list = _
        rw [hS]
        rfl
      · walk_at "wk"
        refine wp_map (enc := fun p : List Int => ir p.length p) row (fun p hp => ?_) ?_
        · walk_at "wk"
          exact ⟨rfl, rfl⟩
        · walk_at "wk"
          exact ⟨rfl, rfl⟩
end Pv

set_option maxRecDepth 100000
set_option maxHeartbeats 1000000
/-! The law's own forms. -/
namespace Pv
open PySem PySem.W
variable {D : Nat → Option Df} {fuel : Nat} {E : Ex → List PyData → Prop} {b s l n : Nat}
theorem lwhole_run (h : D 13 = some Hn.D_b_w_is_whole) {L : Nat} (hL : 1 ≤ L) (d : PyData) (ls : List PyData) : run D fuel L 13 [d] ls = .ok (.bool (isInt d)) ls := by
  refine run_is h rfl hL fun L' _ => ?_
  unfold runB
  cases d <;> (walk_at "wk"; exact ⟨rfl, rfl⟩)
theorem lplace_run (h : D 14 = some Hn.D_b_w_is_place) (h13 : D 13 = some Hn.D_b_w_is_whole) {L : Nat} (hL : 2 ≤ L) (d : PyData) (m : Int) (ls : List PyData) : run D fuel L 14 [d, .int m] ls = .ok (.bool (isPlace m d)) ls := by
  refine run_is h rfl (by omega) fun L' _ => ?_
  unfold runB
  walk_at "wk"
  refine wp_of (lwhole_run h13 (by omega) d _) ?_
  walk_at "wk"
  cases d with
  | int i =>
    walk_at "wk"
    refine wp_if (fun c => ?_) (fun c => ?_)
    · walk_at "wk"
      exact ⟨rfl, by show PyData.bool _ = PyData.bool (_ && _); rw [c, Bool.true_and]⟩
    · walk_at "wk"
      exact ⟨rfl, by show PyData.bool _ = PyData.bool (_ && _); rw [c, Bool.false_and]⟩
  | _ => walk_at "wk"; exact ⟨rfl, rfl⟩
theorem lis_run (h : D 17 = some Hn.D_b_w_is) {L : Nat} (hL : 1 ≤ L) {d : PyData} {w : Str} {m : Nat} (hw : PyData.strOk w = true) (hm : 1 ≤ m) (g : GdA b s l n d) (ls : List PyData) :
    run D fuel L 17 [d, .str w, .int m] ls = .ok (.bool (isTold d w m)) ls := by
  refine run_is h rfl hL fun L' _ => ?_
  unfold runB
  cases d with
  | tuple xs =>
    have g : Gd b s l n (.tuple xs) := by rcases g with g | g; exact g; cases g
    obtain ⟨k, rfl, t⟩ := g.of_tup
    walk_at "wk"
    refine ⟨_, rfl, fun c => ?_, fun c => ?_⟩
    all_goals rw [eqv_nat] at c
    · have hl : xs.length = m := of_decide_eq_true c
      cases xs with
      | nil => exact absurd hl (by simp; omega)
      | cons x xs =>
        walk_at "wk"
        refine wp_atT 0 rfl ?_
        cases x with
        | str z =>
          walk_at "wk"
          refine wp_atT 0 rfl ?_
          walk_at "wk"
          refine wp_cmp (eqStr (t.2 _ List.mem_cons_self).of_str.2 hw) ?_
          walk_at "wk"
          refine ⟨rfl, ?_⟩
          show PyData.bool (z == w) = .bool (decide _ && _)
          rw [decide_eq_true hl, Bool.true_and]
        | _ => walk_at "wk"; exact ⟨rfl, by show PyData.bool false = .bool (_ && false); rw [Bool.and_false]⟩
    · walk_at "wk"
      refine ⟨rfl, ?_⟩
      show PyData.bool (PyData.eqv _ _) = .bool (decide _ && _)
      rw [eqv_nat, c, Bool.false_and]
  | _ => walk_at "wk"; exact ⟨rfl, rfl⟩
/-- a list of parts is empty -/
theorem eq_nilL {xs : List PyData} (h : TG (Gd b s l n) l xs) (hn : n + 1 ≤ 64) : cmpop .Eq (.list xs) (.list []) = some xs.isEmpty := by
  rw [eqG (Gd.lst h) (Gd.lst (b := b) (s := s) (l := l) (n := n) ⟨Nat.zero_le _, fun x h => by cases h⟩) hn hn]
  cases xs <;> rfl
theorem filter_empty {α : Type} (p : α → Bool) (xs : List α) : (xs.filter fun x => !p x).isEmpty = xs.all p := by
  induction xs with
  | nil => rfl
  | cons x xs ih =>
    rw [List.filter_cons, List.all_cons]
    cases p x with
    | true => simpa using ih
    | false => rfl
theorem TG.filt {P : PyData → Prop} {k : Nat} {xs : List PyData} (t : TG P k xs) (p : PyData → Bool) : TG P k (xs.filter p) := ⟨Nat.le_trans (List.length_filter_le _ _) t.1, fun x hx => t.2 x (List.mem_filter.mp hx).1⟩
theorem lplaces_run (h : D 15 = some Hn.D_b_w_are_places) (h14 : D 14 = some Hn.D_b_w_is_place) (h13 : D 13 = some Hn.D_b_w_is_whole) {L : Nat} (hL : 3 ≤ L) {d : PyData} (g : Gd b s l n d) (hn : n ≤ 60) (m : Int) (ls : List PyData) :
    run D fuel L 15 [d, .int m] ls = .ok (.bool (arePlaces d m)) ls := by
  refine run_is h rfl (by omega) fun L' _ => ?_
  unfold runB
  cases d with
  | tuple xs =>
    obtain ⟨k, rfl, t⟩ := g.of_tup
    walk_at "wk"
    refine wp_filtD (fun x => !isPlace m x) (fun x hx => ?_) ?_
    · walk_at "wk"
      refine wp_of (lplace_run h14 h13 (by omega) x m _) ?_
      walk_at "wk"
      cases isPlace m x <;> (walk_at "wk"; exact ⟨rfl, rfl⟩)
    · walk_at "wk"
      refine wp_cmp (eq_nilL (t.filt _) (by omega)) ?_
      walk_at "wk"
      refine ⟨rfl, ?_⟩
      rw [filter_empty]
      rfl
  | _ => walk_at "wk"; exact ⟨rfl, rfl⟩
theorem lwholes_run (h : D 16 = some Hn.D_b_w_are_wholes) (h13 : D 13 = some Hn.D_b_w_is_whole) {L : Nat} (hL : 3 ≤ L) {d : PyData} (g : Gd b s l n d) (hn : n ≤ 60) (m : Nat) (ls : List PyData) :
    run D fuel L 16 [d, .int m] ls = .ok (.bool (areWholes d m)) ls := by
  refine run_is h rfl (by omega) fun L' _ => ?_
  unfold runB
  cases d with
  | tuple xs =>
    obtain ⟨k, rfl, t⟩ := g.of_tup
    walk_at "wk"
    refine ⟨_, rfl, fun c => ?_, fun c => ?_⟩
    all_goals rw [eqv_nat] at c
    · walk_at "wk"
      refine wp_filtD (fun x => !isInt x) (fun x hx => ?_) ?_
      · walk_at "wk"
        refine wp_of (lwhole_run h13 (by omega) x _) ?_
        walk_at "wk"
        cases isInt x <;> (walk_at "wk"; exact ⟨rfl, rfl⟩)
      · walk_at "wk"
        refine wp_cmp (eq_nilL (t.filt _) (by omega)) ?_
        walk_at "wk"
        refine ⟨rfl, ?_⟩
        rw [filter_empty]
        show PyData.bool _ = .bool (decide _ && _)
        rw [c, Bool.true_and]
    · walk_at "wk"
      refine ⟨rfl, ?_⟩
      show PyData.bool (PyData.eqv _ _) = .bool (decide _ && _)
      rw [eqv_nat, c, Bool.false_and]
  | _ => walk_at "wk"; exact ⟨rfl, rfl⟩
/-- rising, neighbour by neighbour -/
def rising : List Int → Bool
  | [] => true
  | [_] => true
  | x :: y :: r => decide (x < y) && rising (y :: r)
theorem rising_iff : ∀ {ns : List Int}, rising ns = true ↔ ns.Pairwise (· < ·)
  | [] => by simp [rising]
  | [x] => by simp [rising]
  | x :: y :: r => by
    rw [rising, Bool.and_eq_true, decide_eq_true_eq, rising_iff (ns := y :: r), List.pairwise_cons (a := x)]
    constructor
    · rintro ⟨h, p⟩
      refine ⟨fun z hz => ?_, p⟩
      rcases List.mem_cons.mp hz with rfl | hz
      · exact h
      · have := (List.pairwise_cons.mp p).1 z hz; omega
    · rintro ⟨h, p⟩
      exact ⟨h y List.mem_cons_self, p⟩
theorem rising_get : ∀ {ns : List Int}, rising ns = (List.range (ns.length - 1)).all fun k => decide (ns.getD k 0 < ns.getD (k + 1) 0)
  | [] => rfl
  | [x] => rfl
  | x :: y :: r => by
    have ih := rising_get (ns := y :: r)
    show (decide (x < y) && rising (y :: r)) = _
    rw [ih, show (x :: y :: r).length - 1 = ((y :: r).length - 1) + 1 from rfl, List.range_succ_eq_map, List.all_cons, List.all_map]
    rfl
theorem getD_at {ns : List Int} {k : Nat} (h : k < ns.length) : (ns.map PyData.int)[k]? = some (.int (ns.getD k 0)) := by
  rw [List.getElem?_map, List.getElem?_eq_getElem h, List.getD_eq_getElem?_getD, List.getElem?_eq_getElem h]
  rfl
theorem lrising_run (h : D 20 = some Hn.D_b_w_rising) {L : Nat} (hL : 1 ≤ L) {ns : List Int} (hl : ns.length ≤ 100000) (ls : List PyData) : run D fuel L 20 [row ns] ls = .ok (.bool (rising ns)) ls := by
  refine run_is h rfl hL fun L' _ => ?_
  have hl' : (ns.map PyData.int).length ≤ 100000 := by rw [List.length_map]; exact hl
  unfold runB
  walk_at "wk"
  rw [show (((ns.map PyData.int).length : Int) - 1).toNat = ns.length - 1 from by rw [List.length_map]; omega]
  refine wp_filt (enc := fun k : Nat => PyData.int (0 + (k : Int))) (fun k => !decide (ns.getD k 0 < ns.getD (k + 1) 0)) (fun k => .int (k : Int)) (fun k hk => ?_) ?_
  · have hk := List.mem_range.mp hk
    rw [show (0 + (k : Int)) = (k : Int) from by omega]
    walk_at "wk"
    refine wp_atT k (getD_at (by omega)) ?_
    walk_at "wk"
    refine wp_atT (k + 1) (getD_at (by omega)) ?_
    walk_at "wk"
    refine wp_if (fun c => ?_) (fun c => ?_)
    · have c : decide (ns.getD (k + 1) 0 ≤ ns.getD k 0) = true := c
      walk_at "wk"
      refine ⟨rfl, ?_⟩
      rw [show decide (ns.getD k 0 < ns.getD (k + 1) 0) = false from by simp only [decide_eq_true_eq, decide_eq_false_iff_not] at c ⊢; omega]
      rfl
    · have c : decide (ns.getD (k + 1) 0 ≤ ns.getD k 0) = false := c
      walk_at "wk"
      refine ⟨rfl, ?_⟩
      rw [show decide (ns.getD k 0 < ns.getD (k + 1) 0) = true from by simp only [decide_eq_true_eq, decide_eq_false_iff_not] at c ⊢; omega]
      rfl
  · walk_at "wk"
    have e : cmpop .Eq (.list (((List.range (ns.length - 1)).filter fun k => !decide (ns.getD k 0 < ns.getD (k + 1) 0)).map fun k : Nat => PyData.int (k : Int))) (.list []) = some (rising ns) := by
      rw [map_int_inj']
      show (if (SeqAt.shaped (.list (_ : List PyData)) && SeqAt.shaped (.list [])) = true then some (PyData.eqv (.list _) (.list [])) else none) = _
      rw [ints_shaped, rising_get, ← filter_empty]
      generalize List.filter _ _ = zs
      cases zs <;> rfl
    refine wp_cmp e ?_
    walk_at "wk"
    exact ⟨rfl, rfl⟩
def isRising : PyData → Bool
  | .tuple xs => (match intsOf xs with | some ns => rising ns | none => false)
  | _ => false
theorem isRising_row {ns : List Int} : isRising (row ns) = rising ns := by
  show (match intsOf (ns.map .int) with | some ns => rising ns | none => false) = _
  rw [intsOf_map]
theorem lrplaces_run (h : D 21 = some Hn.D_b_w_are_rising_places) (h20 : D 20 = some Hn.D_b_w_rising) (h15 : D 15 = some Hn.D_b_w_are_places) (h14 : D 14 = some Hn.D_b_w_is_place) (h13 : D 13 = some Hn.D_b_w_is_whole) {L : Nat} (hL : 4 ≤ L) {d : PyData} (g : Gd b s l n d) (hn : n ≤ 60) (hl : l ≤ 100000) (m : Int) (ls : List PyData) :
    run D fuel L 21 [d, .int m] ls = .ok (.bool (arePlaces d m && isRising d)) ls := by
  refine run_is h rfl (by omega) fun L' _ => ?_
  unfold runB
  walk_at "wk"
  refine wp_of (lplaces_run h15 h14 h13 (by omega) g hn m _) ?_
  cases c : arePlaces d m with
  | false => walk_at "wk"; exact ⟨rfl, rfl⟩
  | true =>
    obtain ⟨ns, rfl, hp⟩ := arePlaces_of c
    have hl2 : ns.length ≤ 100000 := by
      obtain ⟨k, rfl, t⟩ := g.of_tup
      have := t.1
      rw [List.length_map] at this
      omega
    walk_at "wk"
    refine wp_of (lrising_run h20 (by omega) hl2 _) ?_
    walk_at "wk"
    refine ⟨rfl, ?_⟩
    rw [Bool.true_and, isRising_row]
/-- rising rows are those that are their own numbers, once each, rising -/
theorem rise_self {ns : List Int} : rise ns = ns ↔ rising ns = true := by
  rw [rising_iff]
  exact ⟨fun h => by rw [← h]; exact rise_sorted ns, fun h => rising_eq (rise_sorted ns) h (rise_mem ns)⟩
theorem rise_ne (ns : List Int) : cmpop .NotEq (.list (ns.map .int)) (.list ((rise ns).map .int)) = some (!rising ns) := by
  show (if (SeqAt.shaped (.list (ns.map PyData.int)) && SeqAt.shaped (.list ((rise ns).map PyData.int))) = true then some (!PyData.eqv (.list (ns.map .int)) (.list ((rise ns).map .int))) else none) = _
  rw [ints_shaped, ints_shaped]
  show some (!PyData.eqvAll _ _) = _
  rw [eqv_typed]
  congr 2
  rw [Bool.eq_iff_iff, decide_eq_true_iff, ← rise_self]
  exact eq_comm
/-- numbers below m, once each: at most m -/
theorem ded_few {ns : List Int} {m : Nat} (h : ∀ i ∈ ns, 0 ≤ i ∧ i < m) : (ded [] ns).length ≤ m := by
  have hs : (ded [] ns).Perm (rise ns) := (List.mergeSort_perm _ _).symm
  rw [hs.length_eq]
  have hb : ∀ i ∈ rise ns, 0 ≤ i ∧ i < m := fun i hi => h i ((rise_mem ns i).mp hi)
  have hp := rise_sorted ns
  revert hp hb
  generalize rise ns = rs
  intro hb hp
  suffices go : ∀ (rs : List Int) (lo : Int), rs.Pairwise (· < ·) → (∀ i ∈ rs, lo ≤ i ∧ i < m) → (rs.length : Int) ≤ max 0 (m - lo) by
    have := go rs 0 hp hb
    omega
  intro rs
  induction rs with
  | nil => intro lo _ _; simp; omega
  | cons r rs ih =>
    intro lo hp hb
    obtain ⟨h1, h2⟩ := List.pairwise_cons.mp hp
    have hr := hb r List.mem_cons_self
    have := ih (r + 1) h2 fun i hi => ⟨by have := h1 i hi; omega, (hb i (List.mem_cons_of_mem _ hi)).2⟩
    rw [List.length_cons]
    omega
theorem sortset_row {ns : List Int} (h : ns.length ≤ 4000) (h2 : (ded [] ns).length < 64) : f1 .sortedset (row ns) = some (.list ((rise ns).map .int)) := by
  simp only [f1, seqOf, Option.bind_some, intsOf_map]
  exact if_pos ⟨h, h2⟩
theorem lenset_of {d : PyData} {ns : List Int} (hd : seqOf d = some (ns.map .int)) (h : ns.length ≤ 4000) : f1 .lenset d = some (.int ((ded [] ns).length : Nat)) := by
  show (seqOf d).bind _ = _
  rw [hd, Option.bind_some, intsOf_map, Option.bind_some]
  exact if_pos h
theorem ded_full : ∀ {ns acc : List Int}, (ded acc ns).length = acc.length + ns.length → ns.Nodup ∧ ∀ x ∈ ns, x ∉ acc
  | [], acc, _ => ⟨List.nodup_nil, fun x h => by cases h⟩
  | n :: ns, acc, h => by
    unfold ded at h
    split at h
    · have := ded_le ns acc
      rw [List.length_cons] at h
      omega
    · rename_i c
      obtain ⟨h1, h2⟩ := ded_full (ns := ns) (acc := acc ++ [n]) (by rw [h]; simp; omega)
      have hn : n ∉ acc := fun hm => c (List.any_eq_true.mpr ⟨n, hm, beq_self_eq_true n⟩)
      refine ⟨List.nodup_cons.mpr ⟨fun hm => h2 n hm (by simp), h1⟩, fun x hx => ?_⟩
      rcases List.mem_cons.mp hx with rfl | hx
      · exact hn
      · exact fun hm => h2 x hx (List.mem_append_left _ hm)
theorem ded_len_eq {ns : List Int} : (ded [] ns).length = ns.length ↔ ns.Nodup := by
  constructor
  · intro h
    exact (ded_full (acc := []) (by rw [h]; simp)).1
  · intro h
    exact (ded_len h fun k => Iff.rfl).symm
theorem sumI {d : PyData} {ns : List Int} (hd : seqOf d = some (ns.map .int)) : f1 .sum d = some (.int ns.sum) := by
  show (seqOf d).bind _ = _
  rw [hd, Option.bind_some, intsOf_map]
  rfl
/-- the law's comparison with a whole number, with a truth value -/
def isI (m : Int) : PyData → Bool
  | .int i => decide (i = m)
  | _ => false
theorem isI_iff {m : Int} {d : PyData} : isI m d = true ↔ d = .int m := by
  cases d <;> simp [isI]
theorem lsame_int (h : D 1 = some Hn.D_b_w_same) {L : Nat} (hL : 1 ≤ L) (d : PyData) (m : Int) (ls : List PyData) : run D fuel L 1 [d, .int m] ls = .ok (.bool (isI m d)) ls := by
  refine run_is h rfl hL fun L' _ => ?_
  unfold runB
  cases d with
  | int i =>
    walk_at "wk"
    refine ⟨rfl, ?_⟩
    rw [eqv_int]
    rfl
  | _ => walk_at "wk"; exact ⟨rfl, rfl⟩
theorem lsame_bool (h : D 1 = some Hn.D_b_w_same) {L : Nat} (hL : 1 ≤ L) (a b : Bool) (ls : List PyData) : run D fuel L 1 [.bool a, .bool b] ls = .ok (.bool (a == b)) ls := by
  refine run_is h rfl hL fun L' _ => ?_
  unfold runB
  walk_at "wk"
  refine ⟨rfl, ?_⟩
  cases a <;> cases b <;> rfl
end Pv

set_option maxRecDepth 100000
set_option maxHeartbeats 1000000
/-! Rows of rows, read at places. -/
namespace Pv
open PySem PySem.W
variable {E : Ex → List PyData → Prop}
/-- the number, the row at a place -/
def gt (ns : List Int) (k : Int) : Int := ns.getD k.toNat 0
def gr (rs : List (List Int)) (k : Int) : List Int := rs.getD k.toNat []
abbrev rows (rs : List (List Int)) : PyData := .tuple (rs.map row)
theorem atI_gt {ns : List Int} {k : Int} (h0 : 0 ≤ k) (h1 : k < ns.length) : L2.atI (ns.map PyData.int) k = some (.int (gt ns k)) := by
  obtain ⟨j, rfl⟩ := Int.eq_ofNat_of_zero_le h0
  exact L2.atI_nat (getD_at (by omega))
theorem atI_gr {rs : List (List Int)} {k : Int} (h0 : 0 ≤ k) (h1 : k < rs.length) : L2.atI (rs.map row) k = some (row (gr rs k)) := by
  obtain ⟨j, rfl⟩ := Int.eq_ofNat_of_zero_le h0
  have hj : j < rs.length := by omega
  refine L2.atI_nat (j := j) ?_
  rw [List.getElem?_map, List.getElem?_eq_getElem hj]
  show some (row rs[j]) = some (row (rs.getD j []))
  rw [List.getD_eq_getElem?_getD, List.getElem?_eq_getElem hj]
  rfl
section
variable {ls : List PyData} {Q : PyData → List PyData → Prop}
theorem wp_gt {ns : List Int} {k : Int} (h0 : 0 ≤ k) (h1 : k < ns.length) (q : Q (.int (gt ns k)) ls) : Wp (M.opt ((intOf (.int k)).bind fun k => index (row ns) k) ls) Q E := wp_opt ⟨_, atI_gt h0 h1, q⟩
theorem wp_gtL {ns : List Int} {k : Int} (h0 : 0 ≤ k) (h1 : k < ns.length) (q : Q (.int (gt ns k)) ls) : Wp (M.opt ((intOf (.int k)).bind fun k => index (.list (ns.map .int)) k) ls) Q E := wp_opt ⟨_, atI_gt h0 h1, q⟩
theorem wp_gr {rs : List (List Int)} {k : Int} (h0 : 0 ≤ k) (h1 : k < rs.length) (q : Q (row (gr rs k)) ls) : Wp (M.opt ((intOf (.int k)).bind fun k => index (rows rs) k) ls) Q E := wp_opt ⟨_, atI_gr h0 h1, q⟩
theorem wp_e {α : Type} {o : Option α} {v : α} {ls : List PyData} {Q : α → List PyData → Prop} (h : o = some v) (q : Q v ls) : Wp (M.opt o ls) Q E := wp_opt ⟨v, h, q⟩
end
theorem gt_mem {ns : List Int} {k : Int} (h0 : 0 ≤ k) (h1 : k < ns.length) : gt ns k ∈ ns := by
  unfold gt
  have hj : k.toNat < ns.length := by omega
  rw [List.getD_eq_getElem?_getD, List.getElem?_eq_getElem hj]
  exact List.getElem_mem hj
theorem gr_mem {rs : List (List Int)} {k : Int} (h0 : 0 ≤ k) (h1 : k < rs.length) : gr rs k ∈ rs := by
  unfold gr
  have hj : k.toNat < rs.length := by omega
  rw [List.getD_eq_getElem?_getD, List.getElem?_eq_getElem hj]
  exact List.getElem_mem hj
theorem upto_mem {n : Nat} {i : Int} : i ∈ upto n ↔ 0 ≤ i ∧ i < n := by
  unfold upto
  rw [List.mem_map]
  constructor
  · rintro ⟨j, hj, rfl⟩
    have := List.mem_range.mp hj
    omega
  · rintro ⟨h0, h1⟩
    exact ⟨i.toNat, List.mem_range.mpr (by omega), by omega⟩
theorem upto_gt (ns : List Int) : (upto ns.length).map (gt ns) = ns := by
  unfold upto
  rw [List.map_map]
  refine List.ext_getElem (by simp) fun i h1 h2 => ?_
  simp only [List.getElem_map, List.getElem_range, Function.comp]
  unfold gt
  rw [Int.toNat_natCast, List.getD_eq_getElem?_getD, List.getElem?_eq_getElem h2]
  rfl
theorem upto_rise (n : Nat) : (upto n).Pairwise (· < ·) := by
  unfold upto
  exact List.pairwise_map.mpr (List.pairwise_lt_range.imp fun h => by omega)
/-- rising places below n are the sets of upto n -/
theorem sub_upto {n : Nat} {p : List Int} : p.Sublist (upto n) ↔ p.Pairwise (· < ·) ∧ ∀ i ∈ p, 0 ≤ i ∧ i < n := by
  constructor
  · exact fun h => ⟨(upto_rise n).sublist h, fun i hi => upto_mem.mp (h.subset hi)⟩
  · rintro ⟨h1, h2⟩
    suffices go : ∀ (q : List Int), q.Pairwise (· < ·) → ∀ p : List Int, p.Pairwise (· < ·) → (∀ i ∈ p, i ∈ q) → p.Sublist q from go _ (upto_rise n) p h1 fun i hi => upto_mem.mpr (h2 i hi)
    intro q
    induction q with
    | nil => intro _ p _ h; cases p with | nil => exact List.Sublist.slnil | cons x xs => exact absurd (h x List.mem_cons_self) List.not_mem_nil
    | cons y ys ih =>
      intro hq p hp h
      obtain ⟨y1, y2⟩ := List.pairwise_cons.mp hq
      cases p with
      | nil => exact List.nil_sublist _
      | cons x xs =>
        obtain ⟨x1, x2⟩ := List.pairwise_cons.mp hp
        rcases List.mem_cons.mp (h x List.mem_cons_self) with e | e
        · subst e
          exact (ih y2 xs x2 fun i hi => by
            rcases List.mem_cons.mp (h i (List.mem_cons_of_mem _ hi)) with e | e
            · subst e; exact absurd (x1 i hi) (by omega)
            · exact e).cons_cons _
        · refine (ih y2 (x :: xs) hp fun i hi => ?_).cons _
          rcases List.mem_cons.mp (h i hi) with e2 | e2
          · subst e2
            have := y1 x e
            rcases List.mem_cons.mp hi with e3 | e3
            · omega
            · have := x1 i e3; omega
          · exact e2
end Pv
namespace Pv
open PySem PySem.W
theorem all_places {p : List Int} {m : Int} (h : ∀ i ∈ p, 0 ≤ i ∧ i < m) : (p.map PyData.int).all (isPlace m) = true := List.all_eq_true.mpr fun d hd => by
  obtain ⟨i, hi, rfl⟩ := List.mem_map.mp hd
  simpa [isPlace] using h i hi
theorem is_eq {α : Type} {r : R α} {v : α} {ls : List PyData} (h : Wp r (fun a ls' => ls' = ls ∧ a = v) (fun _ _ => False)) : r = .ok v ls := by
  cases r with
  | ok a ls' => obtain ⟨rfl, rfl⟩ := h.okI; rfl
  | exn x ls' => exact h.exI.elim
  | stuck => exact h.stI.elim
theorem wp_lc2 {f : List PyData → PyData → M (List PyData)} {P : List PyData → List PyData → Prop} {E : Ex → List PyData → Prop} (I : Nat → List PyData → List PyData → Prop) {xs : List PyData}
    (turn : ∀ (i : Nat) (x : PyData) (acc ls : List PyData), xs[i]? = some x → I i acc ls → Wp (f acc x ls) (fun acc' ls' => I (i + 1) acc' ls') (fun _ _ => False))
    (fin : ∀ (acc ls : List PyData), I xs.length acc ls → P acc ls) {ls : List PyData} (h0 : I 0 [] ls) : Wp (loopC2 f xs [] ls) P E := by
  suffices go : ∀ (n : Nat) (acc ls : List PyData), n ≤ xs.length → I (xs.length - n) acc ls → Wp (loopC2 f (xs.drop (xs.length - n)) acc ls) P E by
    have := go xs.length [] ls (Nat.le_refl _) (by rw [Nat.sub_self]; exact h0)
    rw [Nat.sub_self, List.drop_zero] at this
    exact this
  intro n
  induction n with
  | zero =>
    intro acc ls _ h
    rw [Nat.sub_zero, List.drop_length]
    exact wp_ok (fin acc ls h)
  | succ n ih =>
    intro acc ls hn h
    have hlt : xs.length - (n + 1) < xs.length := by omega
    rw [List.drop_eq_getElem_cons hlt]
    have q := turn _ _ acc ls (List.getElem?_eq_getElem hlt) h
    have e : xs.length - (n + 1) + 1 = xs.length - n := by omega
    rw [e] at q ⊢
    unfold loopC2
    cases e1 : f acc xs[xs.length - (n + 1)] ls with
    | ok o ls' => rw [e1] at q; exact ih _ _ (by omega) q.okI
    | exn x ls' => rw [e1] at q; exact q.exI.elim
    | stuck => rw [e1] at q; exact q.stI.elim
/-- an inner for: what it adds -/
theorem wp_mapA {α : Type} {f : PyData → M (Option PyData)} {P : List PyData → List PyData → Prop} {E : Ex → List PyData → Prop} {enc : α → PyData} (h : α → PyData) {xs : List α} {acc ls : List PyData}
    (turn : ∀ x ∈ xs, Wp (f (enc x) ls) (fun o ls' => ls' = ls ∧ o = some (h x)) (fun _ _ => False)) (fin : P (acc ++ xs.map h) ls) : Wp (loopC f (xs.map enc) acc ls) P E := by
  have go : ∀ (xs : List α) (acc : List PyData), (∀ x ∈ xs, f (enc x) ls = .ok (some (h x)) ls) → loopC f (xs.map enc) acc ls = .ok (acc ++ xs.map h) ls := fun xs => by
    induction xs with
    | nil => intro acc _; rw [List.map_nil, List.map_nil, List.append_nil]; rfl
    | cons x xs ih =>
      intro acc hx
      rw [List.map_cons]
      unfold loopC
      rw [hx x List.mem_cons_self]
      show loopC f (xs.map enc) (acc ++ [h x]) ls = _
      rw [ih _ fun y hy => hx y (List.mem_cons_of_mem _ hy), List.append_assoc]
      rfl
  exact wp_of (go xs acc fun x hx => is_eq (turn x hx)) fin
end Pv

set_option maxRecDepth 100000
set_option maxHeartbeats 1000000
/-! More of what laws share. -/
namespace Pv
open PySem PySem.W
variable {D : Nat → Option Df} {fuel : Nat} {E : Ex → List PyData → Prop}
/-- what is asked of a judge, or was told -/
abbrev Sm (d : PyData) : Prop := GdA 101 2100 2500 12 d
/-- a bound for any row -/
theorem row_gd (ns : List Int) (hl : ns.length ≤ 2500) : ∃ b, 101 ≤ b ∧ Gd b 2100 2500 12 (row ns) := by
  suffices h : ∃ b, 101 ≤ b ∧ ∀ i ∈ ns, i.natAbs < 2 ^ b by
    obtain ⟨b, hb, h⟩ := h
    exact ⟨b, hb, .tup (.map hl fun i hi => .int (h i hi))⟩
  clear hl
  induction ns with
  | nil => exact ⟨101, Nat.le_refl _, fun i h => by cases h⟩
  | cons n ns ih =>
    obtain ⟨b, hb, h⟩ := ih
    refine ⟨b + n.natAbs, by omega, fun i hi => ?_⟩
    rcases List.mem_cons.mp hi with rfl | hi
    · exact Nat.lt_of_lt_of_le Nat.lt_two_pow_self (Nat.pow_le_pow_right (by decide) (by omega))
    · exact Nat.lt_of_lt_of_le (h i hi) (Nat.pow_le_pow_right (by decide) (by omega))
theorem lsame_row (S : Sh D) {L : Nat} (hL : 14 ≤ L) {d : PyData} (g : Sm d) {ns : List Int} (hl : ns.length ≤ 2500) : ∃ b : Bool, (b = true ↔ d = row ns) ∧ ∀ ls, run D fuel L 1 [d, row ns] ls = .ok (.bool b) ls := by
  classical
  obtain ⟨bb, hb, ge⟩ := row_gd ns hl
  have ga : GdA bb 2100 2500 12 d := g.imp (Gd.mono hb (Nat.le_refl _) (Nat.le_refl _) (Nat.le_refl _)) id
  refine ⟨decide (d = row ns), by simp, fun ls => is_eq (wp_imp (same_run S (by decide) (by omega) d (row ns) ls _ ga ge) ?_)⟩
  rintro r ls' ⟨rfl, b, rfl, h⟩
  refine ⟨rfl, ?_⟩
  congr 1
  rw [Bool.eq_iff_iff, h, decide_eq_true_iff]
/-- .. with any small thing -/
theorem lsame_any (S : Sh D) {L : Nat} (hL : 14 ≤ L) {d e : PyData} (g : Sm d) {b : Nat} (hb : 101 ≤ b) (ge : Gd b 2100 2500 12 e) : ∃ c : Bool, (c = true ↔ d = e) ∧ ∀ ls, run D fuel L 1 [d, e] ls = .ok (.bool c) ls := by
  classical
  have ga : GdA b 2100 2500 12 d := g.imp (Gd.mono hb (Nat.le_refl _) (Nat.le_refl _) (Nat.le_refl _)) id
  refine ⟨decide (d = e), by simp, fun ls => is_eq (wp_imp (same_run S (by decide) (by omega) d e ls _ ga ge) ?_)⟩
  rintro r ls' ⟨rfl, c, rfl, h⟩
  refine ⟨rfl, ?_⟩
  congr 1
  rw [Bool.eq_iff_iff, h, decide_eq_true_iff]
theorem zips_ints : ∀ (q ps : List Int), zips (q.map .int) (ps.map .int) = (q.zip ps).map fun kp => .tuple [.int kp.1, .int kp.2]
  | [], _ => by simp [zips]
  | _ :: _, [] => by simp [zips]
  | k :: q, p :: ps => by
    rw [List.map_cons, List.map_cons, zips, zips_ints q ps, List.zip_cons_cons, List.map_cons]
theorem zip_row {q ps : List Int} (h : q.length ≤ 1000000) : zipOf (row q) (row ps) = some ((q.zip ps).map fun kp => .tuple [.int kp.1, .int kp.2]) := by
  show (if decide ((q.map PyData.int).length ≤ 1000000) = true then some (zips (q.map .int) (ps.map .int)) else none) = _
  rw [if_pos (decide_eq_true (by rw [List.length_map]; exact h)), zips_ints]
theorem zip_get {q ps : List Int} {i : Nat} {kp : Int × Int} (h : (q.zip ps)[i]? = some kp) : q[i]? = some kp.1 ∧ ps[i]? = some kp.2 := by
  rw [List.getElem?_zip_eq_some] at h
  exact h
end Pv

set_option maxRecDepth 100000
set_option maxHeartbeats 1000000
/-! Numbers drawn; near things told; what is refused. -/
namespace Pv.Hn
def b_w_as_many : Ss :=
    (.cons (.ret (.fn1 .tuple (.lc [4] (.nm 4) (.seq (.var 1)) .none (.bin .Add (.var 2) (.own 0 (some 0) (.cons (.bin .Add (.bin .Sub (.var 3) (.var 2)) (.cst (.int 1))) .nil))))))
    .nil)
abbrev D_w_as_many : Df := ⟨5, true, 3, b_w_as_many⟩
def near1 (f : Nat) : Ss :=
    (.cons (.asgF 2 (.lst (.cons (.var 1) .nil)))
    (.cons (.asg (.nm 3) (.own 0 (some 0) (.cons (.cst (.int 1)) .nil)))
    (.cons (.setX 2 (.var 3) (.own 8 (some 0) (.cons (.idx (.bor 2) (.var 3)) .nil)))
    (.cons (.tryR 4 (.own f none (.cons (.idx (.bor 2) (.cst (.int 0))) .nil)))
    .nil))))
abbrev D_near1 (f : Nat) : Df := ⟨5, true, 1, near1 f⟩
def near2 (f : Nat) : Ss :=
    (.cons (.asgF 3 (.lst (.cons (.var 1) (.cons (.var 2) .nil))))
    (.cons (.asg (.nm 4) (.own 0 (some 0) (.cons (.cst (.int 2)) .nil)))
    (.cons (.setX 3 (.var 4) (.own 8 (some 0) (.cons (.idx (.bor 3) (.var 4)) .nil)))
    (.cons (.tryR 5 (.own f none (.cons (.idx (.bor 3) (.cst (.int 0))) (.cons (.idx (.bor 3) (.cst (.int 1))) .nil))))
    .nil))))
abbrev D_near2 (f : Nat) : Df := ⟨6, true, 2, near2 f⟩
def near3 (f : Nat) : Ss :=
    (.cons (.asgF 4 (.lst (.cons (.var 1) (.cons (.var 2) (.cons (.var 3) .nil)))))
    (.cons (.asg (.nm 5) (.own 0 (some 0) (.cons (.cst (.int 3)) .nil)))
    (.cons (.setX 4 (.var 5) (.own 8 (some 0) (.cons (.idx (.bor 4) (.var 5)) .nil)))
    (.cons (.tryR 6 (.own f none (.cons (.idx (.bor 4) (.cst (.int 0))) (.cons (.idx (.bor 4) (.cst (.int 1))) (.cons (.idx (.bor 4) (.cst (.int 2))) .nil)))))
    .nil))))
abbrev D_near3 (f : Nat) : Df := ⟨7, true, 3, near3 f⟩
def unfit1 (f j : Nat) : Ss :=
    (.cons (.for (.nm 1) (.seq (.lst (.cons (.cst (.bool false)) (.cons (.cst (.bool true)) .nil)))) (.cons (.tryC 2 (.var 1) (.own j none (.cons (.var 0) (.cons (.cst .none) .nil))) (.own f none (.cons (.var 0) .nil)))
    .nil))
    (.cons (.ret (.cst (.bool true)))
    .nil))
abbrev D_unfit1 (f j : Nat) : Df := ⟨3, false, 1, unfit1 f j⟩
def unfit2 (f j : Nat) : Ss :=
    (.cons (.for (.nm 2) (.seq (.lst (.cons (.cst (.bool false)) (.cons (.cst (.bool true)) .nil)))) (.cons (.tryC 3 (.var 2) (.own j none (.cons (.var 0) (.cons (.var 1) (.cons (.cst .none) .nil)))) (.own f none (.cons (.var 0) (.cons (.var 1) .nil))))
    .nil))
    (.cons (.ret (.cst (.bool true)))
    .nil))
abbrev D_unfit2 (f j : Nat) : Df := ⟨4, false, 2, unfit2 f j⟩
def unfit3 (f j : Nat) : Ss :=
    (.cons (.for (.nm 3) (.seq (.lst (.cons (.cst (.bool false)) (.cons (.cst (.bool true)) .nil)))) (.cons (.tryC 4 (.var 3) (.own j none (.cons (.var 0) (.cons (.var 1) (.cons (.var 2) (.cons (.cst .none) .nil))))) (.own f none (.cons (.var 0) (.cons (.var 1) (.cons (.var 2) .nil)))))
    .nil))
    (.cons (.ret (.cst (.bool true)))
    .nil))
abbrev D_unfit3 (f j : Nat) : Df := ⟨5, false, 3, unfit3 f j⟩
end Pv.Hn
namespace Pv
open PySem PySem.W
variable {D : Nat → Option Df} {fuel : Nat} {E : Ex → List PyData → Prop}
theorem ints_acc {acc : List Int} {i : Int} : acc.map PyData.int ++ [.int i] = (acc ++ [i]).map .int := by rw [List.map_append]; rfl
theorem numbers_run (S : Sh D) (h : D 18 = some Hn.D_b_w_numbers) {L : Nat} (hL : 2 ≤ L) {low high least most : Int} (h0 : 0 ≤ low) (h1 : low ≤ high) (h2 : high ≤ 100000) (h3 : least ≤ most) (h4 : most - least ≤ 100000) {ls : List PyData} (hs : StG ls) :
    Wp (run D fuel L 18 [.int low, .int high, .int least, .int most] ls) (fun d ls' => (∃ ns : List Int, d = row ns ∧ low ≤ ns.length ∧ (ns.length : Int) ≤ high ∧ ∀ i ∈ ns, least ≤ i ∧ i ≤ most) ∧ StG ls') E := by
  obtain ⟨L, rfl⟩ := Nat.exists_eq_add_of_le' (show 1 ≤ L by omega)
  rw [run_def h rfl]
  unfold runB
  walk_at "wk"
  refine wp_imp (next_run S (by omega) (high - low + 1) _ _ (by omega) (by omega) hs) ?_
  rintro d ls1 ⟨k, rfl, k0, k1, hs1⟩
  walk_at "wk"
  refine wp_lc (fun i acc ls' => StG ls' ∧ ∃ ns : List Int, acc = ns.map .int ∧ ns.length = i ∧ ∀ i ∈ ns, least ≤ i ∧ i ≤ most) ?_ ?_ ⟨hs1, [], rfl, rfl, fun i h => by cases h⟩
  · rintro i x acc ls2 hx ⟨hs2, ns, rfl, hl, hb⟩
    walk_at "wk"
    refine wp_imp (next_run S (by omega) (most - least + 1) _ _ (by omega) (by omega) hs2) ?_
    rintro d ls3 ⟨j, rfl, j0, j1, hs3⟩
    walk_at "wk"
    refine ⟨hs3, ns ++ [least + j], ints_acc, by rw [List.length_append, hl]; rfl, fun q hq => ?_⟩
    rcases List.mem_append.mp hq with hq | hq
    · exact hb q hq
    · rw [List.mem_singleton] at hq
      omega
  · rintro acc ls2 ⟨hs2, ns, rfl, hl, hb⟩
    rw [rng_len] at hl
    walk_at "wk"
    exact ⟨⟨ns, rfl, by omega, by omega, hb⟩, hs2⟩
theorem asmany_run (S : Sh D) {f : Nat} (h : D f = some Hn.D_w_as_many) {L : Nat} (hL : 2 ≤ L) {d : PyData} {xs : List PyData} (hd : seqOf d = some xs) {least most : Int} (h3 : least ≤ most) (h4 : most - least ≤ 100000) {ls : List PyData} (hs : StG ls) :
    Wp (run D fuel L f [d, .int least, .int most] ls) (fun d ls' => (∃ ns : List Int, d = row ns ∧ ns.length = xs.length ∧ ∀ i ∈ ns, least ≤ i ∧ i ≤ most) ∧ StG ls') E := by
  obtain ⟨L, rfl⟩ := Nat.exists_eq_add_of_le' (show 1 ≤ L by omega)
  rw [run_def h rfl]
  unfold runB
  walk_at "wk"
  refine wp_opt ⟨_, hd, ?_⟩
  refine wp_bind (wp_lc (fun i acc ls' => StG ls' ∧ ∃ ns : List Int, acc = ns.map .int ∧ ns.length = i ∧ ∀ i ∈ ns, least ≤ i ∧ i ≤ most) ?_ ?_ ⟨hs, [], rfl, rfl, fun i h => by cases h⟩)
  · rintro i x acc ls2 hx ⟨hs2, ns, rfl, hl, hb⟩
    walk_at "wk"
    refine wp_imp (next_run S (by omega) (most - least + 1) _ _ (by omega) (by omega) hs2) ?_
    rintro d ls3 ⟨j, rfl, j0, j1, hs3⟩
    walk_at "wk"
    refine ⟨hs3, ns ++ [least + j], ints_acc, by rw [List.length_append, hl]; rfl, fun q hq => ?_⟩
    rcases List.mem_append.mp hq with hq | hq
    · exact hb q hq
    · rw [List.mem_singleton] at hq
      omega
  · rintro acc ls2 ⟨hs2, ns, rfl, hl, hb⟩
    walk_at "wk"
    exact ⟨⟨ns, rfl, hl, hb⟩, hs2⟩
/-- a def that gives something small, or refuses, whatever is near -/
abbrev Tot (D : Nat → Option Df) (fuel L f : Nat) (ds : List PyData) : Prop := ∀ ls, Wp (run D fuel L f ds ls) (fun d ls' => Sm d ∧ ls' = ls) (fun _ ls' => ls' = ls)
theorem unit_sm : Sm (.tuple []) := .inl ⟨Nat.zero_le _, fun x h => by cases h⟩
abbrev NearQ (d : PyData) (ls' : List PyData) : Prop := Sm d ∧ StG ls'
theorem near1_run (S : Sh D) {f g : Nat} (h : D g = some (Hn.D_near1 f)) {P P' : PyData → Prop} {L0 L : Nat} (n : NearOk D fuel P P' L0) (hL : L0 + 1 ≤ L) (hL2 : 2 ≤ L) {a : PyData} (ha : P a)
    (t : ∀ L', L ≤ L' + 1 → ∀ a', P' a' → Tot D fuel L' f [a']) {ls : List PyData} (hs : StG ls) : Wp (run D fuel L g [a] ls) NearQ E := by
  obtain ⟨L, rfl⟩ := Nat.exists_eq_add_of_le' (show 1 ≤ L by omega)
  rw [run_def h rfl]
  unfold runB
  walk_at "wk"
  refine wp_imp (next_run S (by omega) 1 _ _ (by decide) (by decide) hs) ?_
  rintro d ls1 ⟨k, rfl, k0, k1, hs1⟩
  cases (show k = 0 by omega)
  walk_at "wk"
  refine wp_imp (n.2 L (by omega) _ _ _ ha hs1) ?_
  rintro a' ls2 ⟨ha', hs2⟩
  walk_at "wk"
  refine Wp.imp (t L (Nat.le_refl _) a' ha' ls2) ?_ ?_
  · rintro d ls3 ⟨gd, rfl⟩; walk_at "wk"; exact ⟨gd, hs2⟩
  · rintro x ls3 rfl; walk_at "wk"; exact ⟨unit_sm, hs2⟩
theorem near2_run (S : Sh D) {f g : Nat} (h : D g = some (Hn.D_near2 f)) {P P' Q Q' : PyData → Prop} {L0 L : Nat} (n : NearOk D fuel P P' L0) (n2 : NearOk D fuel Q Q' L0) (hL : L0 + 1 ≤ L) (hL2 : 2 ≤ L) {a b : PyData} (ha : P a) (hb : Q b)
    (t : ∀ L', L ≤ L' + 1 → ∀ a' b', (P' a' ∧ Q b') ∨ (P a' ∧ Q' b') → Tot D fuel L' f [a', b']) {ls : List PyData} (hs : StG ls) : Wp (run D fuel L g [a, b] ls) NearQ E := by
  obtain ⟨L, rfl⟩ := Nat.exists_eq_add_of_le' (show 1 ≤ L by omega)
  rw [run_def h rfl]
  unfold runB
  walk_at "wk"
  refine wp_imp (next_run S (by omega) 2 _ _ (by decide) (by decide) hs) ?_
  rintro d ls1 ⟨k, rfl, k0, k1, hs1⟩
  rcases (show k = 0 ∨ k = 1 by omega) with rfl | rfl
  · walk_at "wk"
    refine wp_imp (n.2 L (by omega) _ _ _ ha hs1) ?_
    rintro a' ls2 ⟨ha', hs2⟩
    walk_at "wk"
    refine Wp.imp (t L (Nat.le_refl _) a' b (.inl ⟨ha', hb⟩) ls2) ?_ ?_
    · rintro d ls3 ⟨gd, rfl⟩; walk_at "wk"; exact ⟨gd, hs2⟩
    · rintro x ls3 rfl; walk_at "wk"; exact ⟨unit_sm, hs2⟩
  · walk_at "wk"
    refine wp_imp (n2.2 L (by omega) _ _ _ hb hs1) ?_
    rintro b' ls2 ⟨hb', hs2⟩
    walk_at "wk"
    refine Wp.imp (t L (Nat.le_refl _) a b' (.inr ⟨ha, hb'⟩) ls2) ?_ ?_
    · rintro d ls3 ⟨gd, rfl⟩; walk_at "wk"; exact ⟨gd, hs2⟩
    · rintro x ls3 rfl; walk_at "wk"; exact ⟨unit_sm, hs2⟩
theorem near3_run (S : Sh D) {f g : Nat} (h : D g = some (Hn.D_near3 f)) {P P' Q Q' R R' : PyData → Prop} {L0 L : Nat} (n : NearOk D fuel P P' L0) (n2 : NearOk D fuel Q Q' L0) (n3 : NearOk D fuel R R' L0) (hL : L0 + 1 ≤ L) (hL2 : 2 ≤ L) {a b c : PyData} (ha : P a) (hb : Q b) (hc : R c)
    (t : ∀ L', L ≤ L' + 1 → ∀ a' b' c', (P' a' ∧ Q b' ∧ R c') ∨ (P a' ∧ Q' b' ∧ R c') ∨ (P a' ∧ Q b' ∧ R' c') → Tot D fuel L' f [a', b', c']) {ls : List PyData} (hs : StG ls) : Wp (run D fuel L g [a, b, c] ls) NearQ E := by
  obtain ⟨L, rfl⟩ := Nat.exists_eq_add_of_le' (show 1 ≤ L by omega)
  rw [run_def h rfl]
  unfold runB
  walk_at "wk"
  refine wp_imp (next_run S (by omega) 3 _ _ (by decide) (by decide) hs) ?_
  rintro d ls1 ⟨k, rfl, k0, k1, hs1⟩
  rcases (show k = 0 ∨ k = 1 ∨ k = 2 by omega) with rfl | rfl | rfl
  · walk_at "wk"
    refine wp_imp (n.2 L (by omega) _ _ _ ha hs1) ?_
    rintro a' ls2 ⟨ha', hs2⟩
    walk_at "wk"
    refine Wp.imp (t L (Nat.le_refl _) a' b c (.inl ⟨ha', hb, hc⟩) ls2) ?_ ?_
    · rintro d ls3 ⟨gd, rfl⟩; walk_at "wk"; exact ⟨gd, hs2⟩
    · rintro x ls3 rfl; walk_at "wk"; exact ⟨unit_sm, hs2⟩
  · walk_at "wk"
    refine wp_imp (n2.2 L (by omega) _ _ _ hb hs1) ?_
    rintro b' ls2 ⟨hb', hs2⟩
    walk_at "wk"
    refine Wp.imp (t L (Nat.le_refl _) a b' c (.inr (.inl ⟨ha, hb', hc⟩)) ls2) ?_ ?_
    · rintro d ls3 ⟨gd, rfl⟩; walk_at "wk"; exact ⟨gd, hs2⟩
    · rintro x ls3 rfl; walk_at "wk"; exact ⟨unit_sm, hs2⟩
  · walk_at "wk"
    refine wp_imp (n3.2 L (by omega) _ _ _ hc hs1) ?_
    rintro c' ls2 ⟨hc', hs2⟩
    walk_at "wk"
    refine Wp.imp (t L (Nat.le_refl _) a b c' (.inr (.inr ⟨ha, hb, hc'⟩)) ls2) ?_ ?_
    · rintro d ls3 ⟨gd, rfl⟩; walk_at "wk"; exact ⟨gd, hs2⟩
    · rintro x ls3 rfl; walk_at "wk"; exact ⟨unit_sm, hs2⟩
theorem unfit1_run {f j g : Nat} (h : D g = some (Hn.D_unfit1 f j)) {L : Nat} {a : PyData} (h1 : ∀ ls, run D fuel L f [a] ls = .exn .unfit ls) (h2 : ∀ ls, run D fuel L j [a, .none] ls = .exn .unfit ls) (ls : List PyData) : run D fuel (L + 1) g [a] ls = .ok (.bool true) ls := by
  refine run_is h rfl (by omega) fun L' e => ?_
  cases (show L' = L by omega)
  unfold runB
  walk_at "wk"; walk_at "wp1"; walk_at "wk"
  refine wp_ex (h1 ls) ?_
  walk_at "wk"; walk_at "wp1"; walk_at "wk"
  refine wp_ex (h2 ls) ?_
  walk_at "wk"; walk_at "wp1"; walk_at "wk"
  exact ⟨rfl, rfl⟩
theorem unfit2_run {f j g : Nat} (h : D g = some (Hn.D_unfit2 f j)) {L : Nat} {a b : PyData} (h1 : ∀ ls, run D fuel L f [a, b] ls = .exn .unfit ls) (h2 : ∀ ls, run D fuel L j [a, b, .none] ls = .exn .unfit ls) (ls : List PyData) : run D fuel (L + 1) g [a, b] ls = .ok (.bool true) ls := by
  refine run_is h rfl (by omega) fun L' e => ?_
  cases (show L' = L by omega)
  unfold runB
  walk_at "wk"; walk_at "wp1"; walk_at "wk"
  refine wp_ex (h1 ls) ?_
  walk_at "wk"; walk_at "wp1"; walk_at "wk"
  refine wp_ex (h2 ls) ?_
  walk_at "wk"; walk_at "wp1"; walk_at "wk"
  exact ⟨rfl, rfl⟩
theorem unfit3_run {f j g : Nat} (h : D g = some (Hn.D_unfit3 f j)) {L : Nat} {a b c : PyData} (h1 : ∀ ls, run D fuel L f [a, b, c] ls = .exn .unfit ls) (h2 : ∀ ls, run D fuel L j [a, b, c, .none] ls = .exn .unfit ls) (ls : List PyData) : run D fuel (L + 1) g [a, b, c] ls = .ok (.bool true) ls := by
  refine run_is h rfl (by omega) fun L' e => ?_
  cases (show L' = L by omega)
  unfold runB
  walk_at "wk"; walk_at "wp1"; walk_at "wk"
  refine wp_ex (h1 ls) ?_
  walk_at "wk"; walk_at "wp1"; walk_at "wk"
  refine wp_ex (h2 ls) ?_
  walk_at "wk"; walk_at "wp1"; walk_at "wk"
  exact ⟨rfl, rfl⟩
end Pv

set_option maxRecDepth 100000
set_option maxHeartbeats 1000000
/-! What is asked of a judge, one thing after another; what laws' own defs have in common. -/
namespace Pv
open PySem PySem.W
def vars : List Nat → Es
  | [] => .nil
  | i :: is => .cons (.var i) (vars is)
/-- one asked thing -/
def askB (N : Int) (a k told seen j ac : Nat) (args : List Nat) : Ss :=
  .cons (.asg (.nm a) (.ite (.cmp .Lt (.var k) (.cst (.int N))) (.own 7 (some 1) (.cons (.var told) .nil)) (.idx (.var seen) (.bin .Sub (.var k) (.cst (.int N))))))
    (.cons (.ite (.not (.own 1 none (.cons (.own j none (vars (args ++ [a]))) (.cons (.own ac none (vars (args ++ [a]))) .nil)))) (.cons (.ret (.cst (.bool false))) .nil) .nil) .nil)
/-- what was told before -/
def Seen (d : PyData) : Prop := ∃ ss : List PyData, d = .list ss ∧ ss.length ≤ 5 ∧ ∀ x ∈ ss, Sm x
theorem Seen.nil : Seen (.list []) := ⟨[], rfl, Nat.zero_le _, fun x h => by cases h⟩
theorem ToldG.sm {xs : List PyData} (t : ToldG xs) : Sm (.tuple xs) := .inl (Gd.mono (by decide) (by decide) (by decide) (by decide) (.tup t.1))
theorem cut3_len {ss : List PyData} (h : ss.length ≤ 5) : (cut ss (some (-3)) none).length ≤ 3 := by
  unfold cut
  rw [List.length_take, List.length_drop]
  have e : HT.sIx ss.length 0 (some (-3)) = (-3 + (ss.length : Int)).toNat := by unfold HT.sIx; exact if_pos (by decide)
  have e2 : HT.sIx ss.length ss.length none = ss.length := rfl
  rw [e, e2]
  omega
theorem seen_next {ss : List PyData} (h : ss.length ≤ 5) (g : ∀ x ∈ ss, Sm x) {a b : PyData} (ha : Sm a) (hb : Sm b) : (cut ss (some (-3)) none ++ [a, b]).length ≤ 5 ∧ ∀ x ∈ cut ss (some (-3)) none ++ [a, b], Sm x := by
  refine ⟨by rw [List.length_append]; exact Nat.add_le_add (cut3_len h) (Nat.le_refl 2), fun y hy => ?_⟩
  rcases List.mem_append.mp hy with hy | hy
  · exact g y (cut_mem hy)
  · simp only [List.mem_cons, List.not_mem_nil, or_false] at hy
    rcases hy with rfl | rfl
    · exact ha
    · exact hb
theorem law_of {Φ : Nat → List PyData → M PyData} {fuel : Nat} {b : Ss} {ρ : Env} {ls : List PyData} (h : Wp (exs Φ fuel b ρ ls) (fun f _ => f = .ret (.bool true)) (fun _ _ => False)) : ∃ ls', exs Φ fuel b ρ ls = .ok (.ret (.bool true)) ls' := by
  cases e : exs Φ fuel b ρ ls with
  | ok a ls' => rw [e] at h; have h := h.okI; cases h; exact ⟨ls', rfl⟩
  | exn x ls' => rw [e] at h; exact h.exI.elim
  | stuck => rw [e] at h; exact h.stI.elim
section
variable {Φ : Nat → List PyData → M PyData} {ρ : Env} {ls : List PyData}
theorem var_at {i : Nat} {d : PyData} (h : ρ[i]? = some (.fz d)) : evX Φ (.var i) ρ = M.pure d := by
  unfold evX
  rw [h]
theorem vars_at : ∀ {is : List Nat} {ds : List PyData}, is.map (fun i => ρ[i]?) = ds.map (fun d => some (Slot.fz d)) → evsX Φ (vars is) ρ = M.pure ds
  | [], [], _ => rfl
  | [], _ :: _, h => by cases h
  | _ :: _, [], h => by cases h
  | i :: is, d :: ds, h => by
    rw [List.map_cons, List.map_cons] at h
    injection h with h1 h2
    show M.bind (kV (.var i) (evX Φ (.var i) ρ)) (fun x => M.bind (evsX Φ (vars is) ρ) fun xs => M.pure (x :: xs)) = _
    rw [var_at h1, vars_at h2]
    rfl
end
variable {D : Nat → Option Df} {fuel : Nat} {E : Ex → List PyData → Prop}
theorem ask_loop (S : Sh D) {L : Nat} (hL : 20 ≤ L) {N : Int} {a k told seen j ac : Nat} {args : List Nat} {A xs ss : List PyData} (tg : ToldG xs) (gs : ∀ y ∈ ss, Sm y)
    (R : ∀ d, Sm d → ∃ b, (∀ ls, run D fuel L j (A ++ [d]) ls = .ok (.bool b) ls) ∧ ∀ ls, run D fuel L ac (A ++ [d]) ls = .ok (.bool b) ls)
    {ρ : Env} (h1 : ρ[1]? = some .st) (ht : ρ[told]? = some (.fz (.tuple xs))) (hse : ρ[seen]? = some (.fz (.list ss))) {w0 v0 : Slot} (hk : ρ[k]? = some w0) (hw0 : w0 ≠ .st) (ha : ρ[a]? = some v0) (hv0 : v0 ≠ .st)
    (hA : args.map (fun i => ρ[i]?) = A.map (fun d => some (Slot.fz d))) (dis : a ≠ k ∧ a ≠ 1 ∧ k ≠ 1 ∧ a ≠ told ∧ k ≠ told ∧ a ≠ seen ∧ k ≠ seen ∧ a ∉ args ∧ k ∉ args)
    {n : Nat} (hn : (n : Int) ≤ N + ss.length) {ls : List PyData} (hs : StG ls) {P : Fl → List PyData → Prop} (fin : ∀ w v ls', w ≠ Slot.st → v ≠ Slot.st → StG ls' → P (.nx ((ρ.set k w).set a v)) ls') :
    Wp (loopF (fun x ρ => M.bind (M.opt (bindT (.nm k) x ρ)) fun ρ' => exs (run D fuel L) fuel (askB N a k told seen j ac args) ρ') (rng 0 n) ρ ls) P E := by
  obtain ⟨d1, d2, d3, d4, d5, d6, d7, d8, d9⟩ := dis
  have gk : k < ρ.length := (List.getElem?_eq_some_iff.mp hk).1
  have ga : a < ρ.length := (List.getElem?_eq_some_iff.mp ha).1
  have oth : ∀ (w v : Slot) (i : Nat), i ≠ k → i ≠ a → ((ρ.set k w).set a v)[i]? = ρ[i]? := fun w v i h1 h2 => by
    rw [List.getElem?_set_ne (Ne.symm h2), List.getElem?_set_ne (Ne.symm h1)]
  have self : ρ = (ρ.set k w0).set a v0 := List.ext_getElem? fun i => by
    by_cases e2 : i = a
    · subst e2; rw [List.getElem?_set_self (by rw [List.length_set]; exact ga), ha]
    · by_cases e1 : i = k
      · subst e1; rw [List.getElem?_set_ne (Ne.symm e2), List.getElem?_set_self gk, hk]
      · exact (oth w0 v0 i e1 e2).symm
  refine wp_for (fun i ρ' ls' => StG ls' ∧ ∃ w v, ρ' = (ρ.set k w).set a v ∧ w ≠ .st ∧ v ≠ .st) ?_ ?_ ⟨hs, w0, v0, self, hw0, hv0⟩
  · rintro i x ρ1 ls1 hx ⟨hs1, w, v, rfl, nw, nv⟩
    obtain ⟨hi, rfl⟩ := rng_get hx
    refine wp_bind (wp_nm (w := w) (by rw [List.getElem?_set_ne d1, List.getElem?_set_self gk]) nw ?_)
    have er : ((ρ.set k w).set a v).set k (.fz (.int (0 + (i : Int)))) = (ρ.set k (.fz (.int (0 + (i : Int))))).set a v := by
      rw [List.set_comm _ _ d1, List.set_set]
    rw [er]
    have ek : ((ρ.set k (.fz (.int (0 + (i : Int))))).set a v)[k]? = some (.fz (.int (0 + (i : Int)))) := by rw [List.getElem?_set_ne d1, List.getElem?_set_self gk]
    have tail : ∀ {asked : PyData} {ls2 : List PyData}, Sm asked → StG ls2 → Wp (exs (run D fuel L) fuel (tailS (askB N a k told seen j ac args)) ((ρ.set k (.fz (.int (0 + (i : Int))))).set a (.fz asked)) ls2) (fun r ls' => r = .nx ((ρ.set k (.fz (.int (0 + (i : Int))))).set a (.fz asked)) ∧ StG ls') E := by
      intro asked ls2 gd hs2
      obtain ⟨b, e1, e2⟩ := R asked gd
      have ev : ∀ Φ, evsX Φ (vars (args ++ [a])) ((ρ.set k (.fz (.int (0 + (i : Int))))).set a (.fz asked)) = M.pure (A ++ [asked]) := fun Φ => by
        refine vars_at ?_
        rw [List.map_append, List.map_append, ← hA]
        congr 1
        · refine List.map_congr_left fun q hq => oth _ _ q (fun z => d9 (z ▸ hq)) fun z => d8 (z ▸ hq)
        · exact congrArg (fun z => [z]) (List.getElem?_set_self (by rw [List.length_set]; exact ga))
      unfold askB
      walk_at "wk"
      rw [ev]
      walk_at "wk"
      refine wp_of (e1 _) ?_
      walk_at "wk"
      rw [ev]
      walk_at "wk"
      refine wp_of (e2 _) ?_
      walk_at "wk"
      refine wp_of (lsame_bool S.d1 (by omega) b b _) ?_
      rw [show (b == b) = true from by cases b <;> rfl]
      walk_at "wk"
      exact ⟨rfl, hs2⟩
    have et : ((ρ.set k (.fz (.int (0 + (i : Int))))).set a v)[told]? = some (.fz (.tuple xs)) := by rw [oth _ _ _ (Ne.symm d5) (Ne.symm d4)]; exact ht
    have es : ((ρ.set k (.fz (.int (0 + (i : Int))))).set a v)[seen]? = some (.fz (.list ss)) := by rw [oth _ _ _ (Ne.symm d7) (Ne.symm d6)]; exact hse
    have e1 : ((ρ.set k (.fz (.int (0 + (i : Int))))).set a v)[1]? = some .st := by rw [oth _ _ _ (Ne.symm d3) (Ne.symm d2)]; exact h1
    unfold askB
    walk_at "wk"
    rw [var_at ek]
    walk_at "wk"
    refine wp_if (fun c => ?_) (fun c => ?_)
    · have est : stOk ((ρ.set k (.fz (.int (0 + (i : Int))))).set a v) (some 1) = M.pure () := by
        unfold stOk
        dsimp only
        rw [e1]
      walk_at "wk"
      rw [est]
      walk_at "wk"
      rw [var_at et]
      walk_at "wk"
      refine wp_imp (odd_run S (by omega) _ _ _ tg hs1) ?_
      rintro asked ls2 ⟨gd, hs2⟩
      walk_at "wk"
      refine wp_nm (w := v) (by rw [List.getElem?_set_self (by rw [List.length_set]; exact ga)]) nv ?_
      rw [List.set_set]
      repeat (first | refine wp_imp (tail gd hs2) ?_ | walk_at "wp1")
      rintro r ls3 ⟨rfl, hs3⟩
      exact ⟨hs3, _, _, rfl, by walk_at "nsT", by walk_at "nsT"⟩
    · have c : decide (0 + (i : Int) < N) = false := c
      have c := of_decide_eq_false c
      walk_at "wk"
      rw [var_at es]
      walk_at "wk"
      rw [var_at ek]
      walk_at "wk"
      refine wp_pick (by omega) (by omega) fun asked hm => ?_
      walk_at "wk"
      refine wp_nm (w := v) (by rw [List.getElem?_set_self (by rw [List.length_set]; exact ga)]) nv ?_
      rw [List.set_set]
      repeat (first | refine wp_imp (tail (gs _ hm) hs1) ?_ | walk_at "wp1")
      rintro r ls3 ⟨rfl, hs3⟩
      exact ⟨hs3, _, _, rfl, by walk_at "nsT", by walk_at "nsT"⟩
  · rintro ρ1 ls1 ⟨hs1, w, v, rfl, nw, nv⟩
    exact fin w v ls1 nw nv hs1
end Pv

set_option maxRecDepth 100000
/-! Walks that find what a run gives: comprehensions, sums, tests of lists of truth values. -/
namespace Pv
open PySem PySem.W
section
variable {E : Ex → List PyData → Prop} {α β : Type}
theorem wp_lcM {enc : α → PyData} {xs : List α} {items : List PyData} {B : PyData → Option Env} {T : Env → M Bool} {Ee : Env → M PyData} {h : α → PyData} {ls : List PyData} {P : List PyData → List PyData → Prop}
    (hi : items = xs.map enc) (ht : ∀ ρ, T ρ = M.pure true) (e : ∀ x ∈ xs, Wp (M.bind (M.opt (B (enc x))) Ee ls) (fun d ls' => ls' = ls ∧ d = h x) (fun _ _ => False)) (fin : P (xs.map h) ls) :
    Wp (loopC (fun x => M.bind (M.opt (B x)) fun ρ' => M.bind (T ρ') fun k => if k = true then M.bind (Ee ρ') fun d => M.pure (some d) else M.pure none) items [] ls) P E := by
  subst hi
  refine wp_map h (fun x hx => ?_) fin
  have h1 := e x hx
  cases q : B (enc x) with
  | some ρ =>
    rw [q] at h1
    refine wp_bind (wp_ok ?_)
    rw [ht]
    refine wp_bind (wp_ok (wp_true rfl (wp_bind (wp_imp (show Wp (Ee ρ ls) _ _ from h1) ?_))))
    rintro d ls2 ⟨rfl, rfl⟩
    exact wp_ok ⟨rfl, rfl⟩
  | none => rw [q] at h1; exact (show Wp R.stuck _ _ from h1).stI.elim
theorem wp_lcF {enc : α → PyData} {xs : List α} {items : List PyData} {B : PyData → Option Env} {T : Env → M Bool} {Ee : Env → M PyData} {p : α → Bool} {h : α → PyData} {ls : List PyData} {P : List PyData → List PyData → Prop}
    (hi : items = xs.map enc) (t : ∀ x ∈ xs, Wp (M.bind (M.opt (B (enc x))) T ls) (fun b ls' => ls' = ls ∧ b = p x) (fun _ _ => False))
    (e : ∀ x ∈ xs, p x = true → Wp (M.bind (M.opt (B (enc x))) Ee ls) (fun d ls' => ls' = ls ∧ d = h x) (fun _ _ => False)) (fin : P ((xs.filter p).map h) ls) :
    Wp (loopC (fun x => M.bind (M.opt (B x)) fun ρ' => M.bind (T ρ') fun k => if k = true then M.bind (Ee ρ') fun d => M.pure (some d) else M.pure none) items [] ls) P E := by
  subst hi
  refine wp_filt p h (fun x hx => ?_) fin
  have h1 := t x hx
  have h2 := e x hx
  cases q : B (enc x) with
  | some ρ =>
    rw [q] at h1 h2
    refine wp_bind (wp_ok (wp_bind (wp_imp (show Wp (T ρ ls) _ _ from h1) ?_)))
    rintro b ls2 ⟨rfl, rfl⟩
    refine wp_if (fun c => ?_) fun c => ?_
    · refine wp_bind (wp_imp (show Wp (Ee ρ _) _ _ from h2 c) ?_)
      rintro d ls4 ⟨rfl, rfl⟩
      exact wp_ok ⟨rfl, by rw [c]; rfl⟩
    · exact wp_ok ⟨rfl, by rw [c]; rfl⟩
  | none => rw [q] at h1; exact (show Wp R.stuck _ _ from h1).stI.elim
theorem enums_map {enc : α → PyData} : ∀ (k : Nat) (xs : List α), enums k (xs.map enc) = (xs.zipIdx k).map fun p => .tuple [.int (p.2 : Nat), enc p.1]
  | k, [] => rfl
  | k, x :: xs => by rw [List.map_cons, enums, enums_map (k + 1) xs]; rfl
theorem zips_map {enc : α → PyData} {enc' : β → PyData} : ∀ (xs : List α) (ys : List β), zips (xs.map enc) (ys.map enc') = (xs.zip ys).map fun p => .tuple [enc p.1, enc' p.2]
  | [], ys => by cases ys <;> rfl
  | x :: xs, [] => rfl
  | x :: xs, y :: ys => by rw [List.map_cons, List.map_cons, zips, zips_map xs ys]; rfl
theorem rng_int (lo : Int) (n : Nat) : rng lo n = ((List.range n).map fun k : Nat => lo + (k : Int)).map .int := by unfold rng; rw [List.map_map]; rfl
variable {ls : List PyData} {Q : PyData → List PyData → Prop}
theorem wp_sumL {g : α → Int} {xs : List α} (q : Q (.int (xs.map g).sum) ls) : Wp (M.opt (f1 .sum (.list (xs.map fun x => PyData.int (g x)))) ls) Q E := by
  refine wp_opt ⟨_, ?_, q⟩
  rw [map_int_inj']
  exact sumI rfl
theorem in_bools (c : Bool) (g : α → Bool) (xs : List α) : cmpop .In (.bool c) (.list (xs.map fun x => PyData.bool (g x))) = some (xs.any fun x => g x == c) := by
  have : (xs.map fun x => PyData.bool (g x)) = (xs.map g).map .bool := by rw [List.map_map]; rfl
  rw [this, in_bool, List.any_map]
  rfl
theorem notin_bools (c : Bool) (g : α → Bool) (xs : List α) : cmpop .NotIn (.bool c) (.list (xs.map fun x => PyData.bool (g x))) = some (!xs.any fun x => g x == c) := by
  have : (xs.map fun x => PyData.bool (g x)) = (xs.map g).map .bool := by rw [List.map_map]; rfl
  rw [this, notin_bool, List.any_map]
  rfl
theorem any_tr (g : α → Bool) (xs : List α) : (xs.any fun x => g x == true) = xs.any g := by
  congr 1
  funext x
  cases g x <;> rfl
theorem nany_fa (g : α → Bool) (xs : List α) : (!xs.any fun x => g x == false) = xs.all g := by
  induction xs with
  | nil => rfl
  | cons x xs ih => rw [List.any_cons, List.all_cons, Bool.not_or, ih]; cases g x <;> rfl
theorem any_fa (g : α → Bool) (xs : List α) : (xs.any fun x => g x == false) = !xs.all g := by rw [← nany_fa, Bool.not_not]
theorem wp_inT {g : α → Bool} {xs : List α} (q : Q (.bool (xs.any g)) ls) : Wp (M.opt ((cmpop .In (.bool true) (.list (xs.map fun x => PyData.bool (g x)))).map .bool) ls) Q E := wp_cmp (in_bools true g xs) (by rw [any_tr]; exact q)
theorem wp_inF {g : α → Bool} {xs : List α} (q : Q (.bool !xs.all g) ls) : Wp (M.opt ((cmpop .In (.bool false) (.list (xs.map fun x => PyData.bool (g x)))).map .bool) ls) Q E := wp_cmp (in_bools false g xs) (by rw [any_fa]; exact q)
theorem wp_ninT {g : α → Bool} {xs : List α} (q : Q (.bool !xs.any g) ls) : Wp (M.opt ((cmpop .NotIn (.bool true) (.list (xs.map fun x => PyData.bool (g x)))).map .bool) ls) Q E := wp_cmp (notin_bools true g xs) (by rw [any_tr]; exact q)
theorem wp_ninF {g : α → Bool} {xs : List α} (q : Q (.bool (xs.all g)) ls) : Wp (M.opt ((cmpop .NotIn (.bool false) (.list (xs.map fun x => PyData.bool (g x)))).map .bool) ls) Q E := wp_cmp (notin_bools false g xs) (by rw [nany_fa]; exact q)
/-- truth values and whole numbers in a value -/
theorem eqv_ints (xs ys : List Int) : PyData.eqvAll (xs.map .int) (ys.map .int) = decide (xs = ys) := eqv_typed
theorem eqL_ints (ns ms : List Int) : cmpop .Eq (.list (ns.map .int)) (.list (ms.map .int)) = some (decide (ns = ms)) := by
  show (if (SeqAt.shaped (.list (ns.map PyData.int)) && SeqAt.shaped (.list (ms.map PyData.int))) = true then some (PyData.eqv (.list (ns.map .int)) (.list (ms.map .int))) else none) = _
  rw [ints_shaped, ints_shaped]
  show some (PyData.eqvAll _ _) = _
  rw [eqv_typed]
theorem neL_ints (ns ms : List Int) : cmpop .NotEq (.list (ns.map .int)) (.list (ms.map .int)) = some (!decide (ns = ms)) := by
  show (if (SeqAt.shaped (.list (ns.map PyData.int)) && SeqAt.shaped (.list (ms.map PyData.int))) = true then some (!PyData.eqv (.list (ns.map .int)) (.list (ms.map .int))) else none) = _
  rw [ints_shaped, ints_shaped]
  show some (!PyData.eqvAll _ _) = _
  rw [eqv_typed]
theorem eqL_nil (f : α → Int) (xs : List α) : cmpop .Eq (.list (xs.map fun x => PyData.int (f x))) (.list []) = some xs.isEmpty := by
  rw [map_int_inj', show (PyData.list []) = .list (([] : List Int).map .int) from rfl, eqL_ints]
  cases xs <;> rfl
theorem neL_nil (f : α → Int) (xs : List α) : cmpop .NotEq (.list (xs.map fun x => PyData.int (f x))) (.list []) = some (!xs.isEmpty) := by
  rw [map_int_inj', show (PyData.list []) = .list (([] : List Int).map .int) from rfl, neL_ints]
  cases xs <;> rfl
theorem any_int (j : Int) (g : List Int) : (g.map PyData.int).any (fun z => PyData.eqv z (.int j)) = decide (j ∈ g) := by
  rw [List.any_map]
  induction g with
  | nil => rfl
  | cons x g ih =>
    rw [List.any_cons, ih]
    show (PyData.eqv (.int x) (.int j) || _) = _
    rw [eqv_int]
    by_cases h : x = j
    · subst h; simp
    · rw [decide_eq_false h, Bool.false_or]
      refine decide_eq_decide.mpr ⟨fun k => List.mem_cons_of_mem _ k, fun k => ?_⟩
      rcases List.mem_cons.mp k with k | k
      · exact absurd k.symm h
      · exact k
theorem in_intT (j : Int) (g : List Int) : cmpop .In (.int j) (row g) = some (decide (j ∈ g)) := by
  show (if (SeqAt.shaped (.int j) && SeqAt.shaped (.list (g.map PyData.int))) = true then some ((g.map PyData.int).any fun z => PyData.eqv z (.int j)) else none) = _
  rw [ints_shaped, any_int]
  rfl
theorem in_intL (j : Int) (g : List Int) : cmpop .In (.int j) (.list (g.map .int)) = some (decide (j ∈ g)) := in_intT j g
theorem nin_intT (j : Int) (g : List Int) : cmpop .NotIn (.int j) (row g) = some (!decide (j ∈ g)) := by
  show (if (SeqAt.shaped (.int j) && SeqAt.shaped (.list (g.map PyData.int))) = true then some (!(g.map PyData.int).any fun z => PyData.eqv z (.int j)) else none) = _
  rw [ints_shaped, any_int]
  rfl
theorem nin_intL (j : Int) (g : List Int) : cmpop .NotIn (.int j) (.list (g.map .int)) = some (!decide (j ∈ g)) := nin_intT j g
theorem zip_mapL {enc : α → PyData} {enc' : β → PyData} {xs : List α} {ys : List β} (h : xs.length ≤ 1000000) : zipOf (.list (xs.map enc)) (.list (ys.map enc')) = some ((xs.zip ys).map fun p => .tuple [enc p.1, enc' p.2]) := by
  show (if decide ((xs.map enc).length ≤ 1000000) = true then _ else none) = _
  rw [if_pos (decide_eq_true (by rw [List.length_map]; exact h)), zips_map]
theorem zip_mapT {enc : α → PyData} {enc' : β → PyData} {xs : List α} {ys : List β} (h : xs.length ≤ 1000000) : zipOf (.tuple (xs.map enc)) (.tuple (ys.map enc')) = some ((xs.zip ys).map fun p => .tuple [enc p.1, enc' p.2]) := by
  show (if decide ((xs.map enc).length ≤ 1000000) = true then _ else none) = _
  rw [if_pos (decide_eq_true (by rw [List.length_map]; exact h)), zips_map]
end
/-! ### places with what stands there; orders -/
theorem enum_g {α : Type} (d : α) (enc : α → PyData) (xs : List α) : enums 0 (xs.map enc) = (upto xs.length).map fun i => .tuple [.int i, enc (xs.getD i.toNat d)] := by
  rw [enums_map]
  refine List.ext_getElem (by simp [upto]) fun i h1 h2 => ?_
  simp only [upto, List.getElem_map, List.getElem_range, List.getElem_zipIdx]
  have h : i < xs.length := by simpa using h1
  simp [List.getD_eq_getElem?_getD, List.getElem?_eq_getElem h]
theorem enum_gt (ns : List Int) : enums 0 (ns.map .int) = (upto ns.length).map fun i => .tuple [.int i, .int (gt ns i)] := enum_g 0 PyData.int ns
theorem enum_gr (rs : List (List Int)) : enums 0 (rs.map row) = (upto rs.length).map fun i => .tuple [.int i, row (gr rs i)] := enum_g [] row rs
abbrev ii (a b : Int) : PyData := .tuple [.int a, .int b]
theorem dle_ii {a b c d : Int} (h : dle (ii a b) (ii c d)) : a < c ∨ (a = c ∧ b ≤ d) := by
  unfold dle at h
  rw [dlt_cons, dlt_cons] at h
  simp only [Bool.or_eq_false_iff, Bool.and_eq_false_imp, Bool.not_eq_true', decide_eq_false_iff_not] at h
  omega
theorem sorts_key {α : Type} (k1 k2 : α → Int) (xs : List α) : ∃ ys : List α, sorts (xs.map fun i => ii (k1 i) (k2 i)) = some (ys.map fun i => ii (k1 i) (k2 i)) ∧ ys.Perm xs ∧ ys.Pairwise fun a b => k1 a < k1 b ∨ (k1 a = k1 b ∧ k2 a ≤ k2 b) := by
  obtain ⟨ys, h1, h2, h3⟩ := sorts_of (f := fun i => ii (k1 i) (k2 i)) (xs := xs) (fun _ _ => rfl) (.inl fun _ => rfl) (fun _ => (by decide : 1 ≤ 64))
  exact ⟨ys, h1, h2, h3.imp dle_ii⟩
theorem sortedL {xs ys : List PyData} (h : sorts xs = some ys) : f1 .sorted (.list xs) = some (.list ys) := by
  show (sorts xs).map PyData.list = _
  rw [h]
  rfl
theorem sortedT {xs ys : List PyData} (h : sorts xs = some ys) : f1 .sorted (.tuple xs) = some (.list ys) := by
  show (sorts xs).map PyData.list = _
  rw [h]
  rfl
def srt (ns : List Int) : List Int := ns.mergeSort fun a b => decide (a ≤ b)
theorem srt_perm (ns : List Int) : (srt ns).Perm ns := List.mergeSort_perm _ _
theorem srt_le (ns : List Int) : (srt ns).Pairwise (· ≤ ·) :=
  (List.pairwise_mergeSort (le := fun a b : Int => decide (a ≤ b)) (fun a b c h k => decide_eq_true (by have := of_decide_eq_true h; have := of_decide_eq_true k; omega)) (fun a b => by rcases Int.le_total a b with h | h <;> simp [h]) ns).imp fun h => of_decide_eq_true h
theorem le_perm_eq : ∀ {xs ys : List Int}, xs.Perm ys → xs.Pairwise (· ≤ ·) → ys.Pairwise (· ≤ ·) → xs = ys
  | [], ys, p, _, _ => (List.nil_perm.mp p).symm
  | x :: xs, [], p, _, _ => absurd p.length_eq (by simp)
  | x :: xs, y :: ys, p, hx, hy => by
    rw [List.pairwise_cons] at hx hy
    have e : x = y := by
      have h1 : x ≤ y := by
        rcases List.mem_cons.mp (p.mem_iff.mpr List.mem_cons_self : y ∈ x :: xs) with h | h
        · omega
        · exact hx.1 y h
      have h2 : y ≤ x := by
        rcases List.mem_cons.mp (p.mem_iff.mp List.mem_cons_self : x ∈ y :: ys) with h | h
        · omega
        · exact hy.1 x h
      omega
    subst e
    rw [le_perm_eq (List.perm_cons x |>.mp p) hx.2 hy.2]
theorem srt_of_le {ns : List Int} (h : ns.Pairwise (· ≤ ·)) : srt ns = ns := le_perm_eq (srt_perm ns) (srt_le ns) h
theorem sorts_int (ns : List Int) : sorts (ns.map .int) = some ((srt ns).map .int) := by
  obtain ⟨ys, h1, h2, h3⟩ := sorts_of (f := PyData.int) (xs := ns) (fun _ _ => rfl) (.inr fun _ => rfl) (fun _ => Nat.zero_le _)
  rw [h1, le_perm_eq (h2.trans (srt_perm ns).symm) (h3.imp dle_int) (srt_le ns)]
theorem sorts_intF {α : Type} (f : α → Int) (xs : List α) : sorts (xs.map fun x => PyData.int (f x)) = some ((srt (xs.map f)).map .int) := by rw [map_int_inj', sorts_int]
/-! ### neighbours in a row -/
def adj (r : Int → Int → Bool) : List Int → Bool
  | a :: b :: l => r a b && adj r (b :: l)
  | _ => true
theorem adj_zip (r : Int → Int → Bool) : ∀ l : List Int, (l.zip (l.drop 1)).all (fun p => r p.1 p.2) = adj r l
  | [] => rfl
  | [_] => rfl
  | a :: b :: l => by
    have := adj_zip r (b :: l)
    rw [adj, ← this]
    rfl
theorem adj_iff {r : Int → Int → Bool} : ∀ {l : List Int}, adj r l = true ↔ ∀ i : Nat, i + 1 < l.length → r (l.getD i 0) (l.getD (i + 1) 0) = true
  | [] => by simp [adj]
  | [_] => by simp [adj]
  | a :: b :: l => by
    rw [adj, Bool.and_eq_true, adj_iff (l := b :: l)]
    constructor
    · rintro ⟨h1, h2⟩ i hi
      cases i with
      | zero => simpa using h1
      | succ i => simpa using h2 i (by simpa using hi)
    · intro h
      exact ⟨by simpa using h 0 (by simp), fun i hi => by simpa using h (i + 1) (by simpa using hi)⟩
theorem adj_upto (r : Int → Int → Bool) (l : List Int) : (upto (l.length - 1)).all (fun k => r (gt l k) (gt l (k + 1))) = adj r l := by
  rw [Bool.eq_iff_iff, List.all_eq_true, adj_iff]
  constructor
  · intro h i hi
    have := h i (upto_mem.mpr ⟨by omega, by omega⟩)
    unfold gt at this
    rw [show ((i : Int) + 1).toNat = i + 1 from by omega, show (i : Int).toNat = i from by omega] at this
    exact this
  · intro h k hk
    obtain ⟨k0, k1⟩ := upto_mem.mp hk
    have := h k.toNat (by omega)
    unfold gt
    rw [show (k + 1).toNat = k.toNat + 1 from by omega]
    exact this
theorem adj_pair {r : Int → Int → Bool} (tr : ∀ a b c, r a b = true → r b c = true → r a c = true) : ∀ {l : List Int}, adj r l = true ↔ l.Pairwise fun a b => r a b = true
  | [] => by simp [adj]
  | [_] => by simp [adj]
  | a :: b :: l => by
    rw [adj, Bool.and_eq_true, adj_pair tr (l := b :: l), List.pairwise_cons (a := a)]
    constructor
    · rintro ⟨h1, h2⟩
      refine ⟨fun c hc => ?_, h2⟩
      rcases List.mem_cons.mp hc with rfl | hc
      · exact h1
      · exact tr _ _ _ h1 ((List.pairwise_cons.mp h2).1 c hc)
    · rintro ⟨h1, h2⟩
      exact ⟨h1 b List.mem_cons_self, h2⟩
theorem cut_one (xs : List α) : cut xs (some 1) none = xs.drop 1 := cut_suf xs 1
/-! ### what may be told -/
theorem row_told {p : List Int} (h : ∀ i ∈ p, i.natAbs < 2 ^ 100) (hl : p.length ≤ 100) : Gd 100 20 100 8 (row p) := .tup (.map hl fun i hi => .int (h i hi))
theorem lvs_map {α : Type} (g : α → PyData) {k : Nat} {xs : List α} (hg : ∀ a ∈ xs, lv (g a) ≤ k) : lvs (xs.map g) ≤ xs.length * k := by
  induction xs with
  | nil => exact Nat.zero_le _
  | cons x xs ih =>
    show lv (g x) + lvs (xs.map g) ≤ _
    have := hg x List.mem_cons_self
    have := ih fun a ha => hg a (List.mem_cons_of_mem _ ha)
    rw [List.length_cons, Nat.add_mul]
    omega
theorem lv_row (p : List Int) : lv (row p) ≤ p.length := by
  have := lvs_map PyData.int (k := 1) (xs := p) fun _ _ => Nat.le_refl _
  show lvs (p.map .int) ≤ _
  omega
theorem told_mk {w : String} (hw : w.toList.length ≤ 20) {xs : List PyData} (hl : xs.length ≤ 9) (h : ∀ x ∈ xs, Gd 100 20 100 8 x ∧ lv x ≤ 10000) : ToldG (.str w :: xs) := by
  refine ⟨⟨by rw [List.length_cons]; omega, fun x hx => ?_⟩, Nat.succ_pos _, ?_⟩
  · rcases List.mem_cons.mp hx with rfl | hx
    · exact .str (SG.ofString hw)
    · exact (h x hx).1
  · have := lvs_map (fun x => x) (xs := xs) fun x hx => (h x hx).2
    rw [List.map_id'] at this
    show 1 + lvs xs ≤ _
    have := Nat.mul_le_mul_right 10000 hl
    omega
theorem told_int {i : Int} (h : i.natAbs < 2 ^ 100) : Gd 100 20 100 8 (.int i) ∧ lv (.int i) ≤ 10000 := ⟨.int h, by show 1 ≤ 10000; decide⟩
theorem told_row {p : List Int} (h : ∀ i ∈ p, i.natAbs < 2 ^ 100) (hl : p.length ≤ 100) : Gd 100 20 100 8 (row p) ∧ lv (row p) ≤ 10000 := ⟨row_told h hl, by have := lv_row p; omega⟩
theorem told_rows {rs : List (List Int)} (h : ∀ r ∈ rs, r.length ≤ 50 ∧ ∀ i ∈ r, i.natAbs < 2 ^ 100) (hl : rs.length ≤ 100) : Gd 100 20 100 8 (rows rs) ∧ lv (rows rs) ≤ 10000 := by
  refine ⟨.tup (.map hl fun r hr => .tup (.map (Nat.le_trans (h r hr).1 (by decide)) fun i hi => .int ((h r hr).2 i hi))), ?_⟩
  have := lvs_map row (k := 50) (xs := rs) fun r hr => Nat.le_trans (lv_row r) (h r hr).1
  show lvs (rs.map row) ≤ _
  omega
-- what an item stands for
end Pv

namespace K68
open Pv
def b_periodic : Ss :=
    (.cons (.ite (.or (.not (.var 0)) (.cmp .In (.cst (.bool true)) (.lc [12] (.nm 12) (.seq (.var 0)) .none (.or (.cmp .NotEq (.fn1 .len (.var 12)) (.cst (.int 2))) (.not (.chn .Lt .LtE (.cst (.int 0)) (.idx (.var 12) (.cst (.int 0))) (.idx (.var 12) (.cst (.int 1))))))))) (.cons (.rais .unfit)
    .nil) .nil)
    (.cons (.ite (.or (.cmp .Gt (.fn1 .len (.var 0)) (.cst (.int 5))) (.cmp .In (.cst (.bool true)) (.lc [12] (.nm 12) (.seq (.var 0)) .none (.cmp .Gt (.idx (.var 12) (.cst (.int 1))) (.cst (.int 12)))))) (.cons (.rais .wide)
    .nil) .nil)
    (.cons (.asg (.nm 1) (.cst (.int 1)))
    (.cons (.for (.tp (.cons (.nm 6) (.cons (.nm 7) .nil))) (.seq (.var 0)) (.cons (.asg (.nm 1) (.bin .FloorDiv (.bin .Mult (.var 1) (.var 7)) (.own 23 none (.cons (.var 1) (.cons (.var 7) .nil)))))
    .nil))
    (.cons (.ite (.cmp .Gt (.var 1) (.cst (.int 120))) (.cons (.rais .wide)
    .nil) .nil)
    (.cons (.asgF 2 (.lc [6] (.nm 6) (.seq (.var 0)) .none (.cst (.int 0))))
    (.cons (.asgF 3 (.lst .nil))
    (.cons (.for (.nm 4) (.rng1 (.var 1)) (.cons (.for (.tp (.cons (.nm 9) (.cons (.tp (.cons (.nm 10) (.cons (.nm 7) .nil))) .nil))) (.enum (.var 0)) (.cons (.ite (.cmp .Eq (.bin .Mod (.var 4) (.var 7)) (.cst (.int 0))) (.cons (.ite (.cmp .Gt (.idx (.bor 2) (.var 9)) (.cst (.int 0))) (.cons (.ret (.tup (.cons (.cst (.str "late")) (.cons (.var 9) (.cons (.var 4) .nil)))))
    .nil) .nil)
    (.cons (.setX 2 (.var 9) (.var 10))
    .nil)) .nil)
    .nil))
    (.cons (.asg (.nm 8) (.lc [9] (.nm 9) (.rng1 (.fn1 .len (.var 0))) (.some (.cmp .Gt (.idx (.bor 2) (.var 9)) (.cst (.int 0)))) (.tup (.cons (.bin .Sub (.idx (.idx (.var 0) (.var 9)) (.cst (.int 1))) (.bin .Mod (.var 4) (.idx (.idx (.var 0) (.var 9)) (.cst (.int 1))))) (.cons (.var 9) .nil)))))
    (.cons (.app 3 (.ite (.var 8) (.idx (.fn1 .min (.var 8)) (.cst (.int 1))) (.neg (.cst (.int 1)))))
    (.cons (.ite (.var 8) (.cons (.augX 2 .Sub (.idx (.bor 3) (.neg (.cst (.int 1)))) (.cst (.int 1)))
    .nil) .nil)
    .nil)))))
    (.cons (.asg (.nm 5) (.lc [9, 11] (.tp (.cons (.nm 9) (.cons (.nm 11) .nil))) (.enum (.bor 2)) (.some (.cmp .Gt (.var 11) (.cst (.int 0)))) (.var 9)))
    (.cons (.ret (.ite (.var 5) (.tup (.cons (.cst (.str "late")) (.cons (.idx (.var 5) (.cst (.int 0))) (.cons (.var 1) .nil)))) (.tup (.cons (.cst (.str "slots")) (.cons (.fn1 .tuple (.bor 3)) .nil)))))
    .nil))))))))))
abbrev D_periodic : Df := ⟨13, false, 1, b_periodic⟩
def b_divisor : Ss :=
    (.cons (.whl (.cmp .NotEq (.var 1) (.cst (.int 0))) (.cons (.asg (.tp (.cons (.nm 0) (.cons (.nm 1) .nil))) (.tup (.cons (.var 1) (.cons (.bin .Mod (.var 0) (.var 1)) .nil))))
    .nil))
    (.cons (.ret (.var 0))
    .nil))
abbrev D_divisor : Df := ⟨2, false, 2, b_divisor⟩
def b_judge_periodic : Ss :=
    (.cons (.asg (.nm 2) (.own 22 none (.cons (.var 0) .nil)))
    (.cons (.ite (.own 10 none (.cons (.var 1) (.cons (.cst (.str "late")) (.cons (.cst (.int 3)) .nil)))) (.cons (.ret (.and (.own 11 none (.cons (.slc (.var 1) (.some (.cst (.int 1))) .none) (.cons (.cst (.int 2)) .nil))) (.cmp .Eq (.var 1) (.var 2))))
    .nil) .nil)
    (.cons (.ite (.or (.not (.own 10 none (.cons (.var 1) (.cons (.cst (.str "slots")) (.cons (.cst (.int 2)) .nil))))) (.or (.cmp .NotEq (.idx (.var 2) (.cst (.int 0))) (.cst (.str "slots"))) (.not (.own 11 none (.cons (.idx (.var 1) (.cst (.int 1))) (.cons (.fn1 .len (.idx (.var 2) (.cst (.int 1)))) .nil)))))) (.cons (.ret (.cst (.bool false)))
    .nil) .nil)
    (.cons (.for (.tp (.cons (.nm 3) (.cons (.tp (.cons (.nm 5) (.cons (.nm 6) .nil))) .nil))) (.enum (.var 0)) (.cons (.for (.nm 4) (.rng3 (.cst (.int 0)) (.fn1 .len (.idx (.var 1) (.cst (.int 1)))) (.var 6)) (.cons (.ite (.cmp .NotEq (.cnt (.fn1 .list (.slc (.idx (.var 1) (.cst (.int 1))) (.some (.var 4)) (.some (.bin .Add (.var 4) (.var 6))))) (.var 3)) (.var 5)) (.cons (.ret (.cst (.bool false)))
    .nil) .nil)
    .nil))
    .nil))
    (.cons (.ret (.cmp .NotIn (.cst (.bool true)) (.lc [3] (.nm 3) (.seq (.idx (.var 1) (.cst (.int 1)))) .none (.not (.chn .LtE .Lt (.neg (.cst (.int 1))) (.var 3) (.fn1 .len (.var 0)))))))
    .nil)))))
abbrev D_judge_periodic : Df := ⟨7, false, 2, b_judge_periodic⟩
def b_w_count : Ss :=
    (.cons (.ret (.fn1 .len (.lc [2] (.nm 2) (.seq (.var 0)) (.some (.cmp .Eq (.var 2) (.var 1))) (.cst (.int 1)))))
    .nil)
abbrev D_w_count : Df := ⟨3, false, 2, b_w_count⟩
def b_w_round : Ss :=
    (.cons (.ret (.fn1 .min (.lc [1] (.nm 1) (.rng2 (.cst (.int 1)) (.cst (.int 13))) (.some (.cmp .Eq (.lc [2] (.nm 2) (.seq (.var 0)) (.some (.cmp .NotEq (.bin .Mod (.var 1) (.idx (.var 2) (.cst (.int 1)))) (.cst (.int 0)))) (.var 2)) (.lst .nil))) (.var 1))))
    .nil)
abbrev D_w_round : Df := ⟨3, false, 1, b_w_round⟩
def b_w_late : Ss :=
    (.cons (.asgF 1 (.lc [5] (.nm 5) (.seq (.var 0)) .none (.cst (.int 0))))
    (.cons (.for (.nm 2) (.rng1 (.bin .Add (.own 26 none (.cons (.var 0) .nil)) (.cst (.int 1)))) (.cons (.for (.nm 3) (.rng1 (.fn1 .len (.var 0))) (.cons (.ite (.cmp .Eq (.bin .Mod (.var 2) (.idx (.idx (.var 0) (.var 3)) (.cst (.int 1)))) (.cst (.int 0))) (.cons (.ite (.cmp .Gt (.idx (.bor 1) (.var 3)) (.cst (.int 0))) (.cons (.ret (.tup (.cons (.var 3) (.cons (.var 2) .nil))))
    .nil) .nil)
    (.cons (.setX 1 (.var 3) (.idx (.idx (.var 0) (.var 3)) (.cst (.int 0))))
    .nil)) .nil)
    .nil))
    (.cons (.asg (.nm 4) (.fn1 .sorted (.lc [3] (.nm 3) (.rng1 (.fn1 .len (.var 0))) (.some (.cmp .Gt (.idx (.bor 1) (.var 3)) (.cst (.int 0)))) (.tup (.cons (.bin .Sub (.idx (.idx (.var 0) (.var 3)) (.cst (.int 1))) (.bin .Mod (.var 2) (.idx (.idx (.var 0) (.var 3)) (.cst (.int 1))))) (.cons (.var 3) .nil))))))
    (.cons (.for (.tp (.cons (.nm 6) (.cons (.nm 3) .nil))) (.seq (.slc (.var 4) .none (.some (.cst (.int 1))))) (.cons (.setX 1 (.var 3) (.bin .Sub (.idx (.bor 1) (.var 3)) (.cst (.int 1))))
    .nil))
    .nil))))
    (.cons (.ret (.cst .none))
    .nil)))
abbrev D_w_late : Df := ⟨7, false, 1, b_w_late⟩
def b_w_accepts : Ss :=
    (.cons (.asg (.nm 2) (.own 27 none (.cons (.var 0) .nil)))
    (.cons (.ite (.cmp .IsNot (.var 2) (.cst .none)) (.cons (.ret (.own 1 none (.cons (.var 1) (.cons (.tup (.cons (.cst (.str "late")) (.cons (.idx (.var 2) (.cst (.int 0))) (.cons (.idx (.var 2) (.cst (.int 1))) .nil)))) .nil))))
    .nil) .nil)
    (.cons (.ite (.or (.not (.own 17 none (.cons (.var 1) (.cons (.cst (.str "slots")) (.cons (.cst (.int 2)) .nil))))) (.or (.not (.own 16 none (.cons (.idx (.var 1) (.cst (.int 1))) (.cons (.own 26 none (.cons (.var 0) .nil)) .nil)))) (.cmp .NotEq (.lc [6] (.nm 6) (.seq (.idx (.var 1) (.cst (.int 1)))) (.some (.not (.chn .LtE .Lt (.neg (.cst (.int 1))) (.var 6) (.fn1 .len (.var 0))))) (.var 6)) (.lst .nil)))) (.cons (.ret (.cst (.bool false)))
    .nil) .nil)
    (.cons (.for (.nm 3) (.rng1 (.fn1 .len (.var 0))) (.cons (.asg (.nm 4) (.lc [5] (.nm 5) (.rng1 (.fn1 .len (.idx (.var 1) (.cst (.int 1))))) (.some (.cmp .Eq (.bin .Mod (.var 5) (.idx (.idx (.var 0) (.var 3)) (.cst (.int 1)))) (.cst (.int 0)))) (.var 5)))
    (.cons (.ite (.cmp .NotEq (.lc [5] (.nm 5) (.seq (.var 4)) (.some (.cmp .NotEq (.own 25 none (.cons (.slc (.idx (.var 1) (.cst (.int 1))) (.some (.var 5)) (.some (.bin .Add (.var 5) (.idx (.idx (.var 0) (.var 3)) (.cst (.int 1)))))) (.cons (.var 3) .nil))) (.idx (.idx (.var 0) (.var 3)) (.cst (.int 0))))) (.var 5)) (.lst .nil)) (.cons (.ret (.cst (.bool false)))
    .nil) .nil)
    .nil)))
    (.cons (.ret (.cst (.bool true)))
    .nil)))))
abbrev D_w_accepts : Df := ⟨7, false, 2, b_w_accepts⟩
def b_w_told_near : Ss :=
    (.cons (.asgF 2 (.lst (.cons (.var 1) .nil)))
    (.cons (.asg (.nm 3) (.own 0 (some 0) (.cons (.cst (.int 1)) .nil)))
    (.cons (.setX 2 (.var 3) (.own 8 (some 0) (.cons (.idx (.bor 2) (.var 3)) .nil)))
    (.cons (.tryR 4 (.own 22 none (.cons (.idx (.bor 2) (.cst (.int 0))) .nil)))
    .nil))))
abbrev D_w_told_near : Df := ⟨5, true, 1, b_w_told_near⟩
def b_w_unfit : Ss :=
    (.cons (.for (.nm 1) (.seq (.lst (.cons (.cst (.bool false)) (.cons (.cst (.bool true)) .nil)))) (.cons (.tryC 2 (.var 1) (.own 24 none (.cons (.var 0) (.cons (.cst .none) .nil))) (.own 22 none (.cons (.var 0) .nil)))
    .nil))
    (.cons (.ret (.cst (.bool true)))
    .nil))
abbrev D_w_unfit : Df := ⟨3, false, 1, b_w_unfit⟩
def b_the_law : Ss :=
    (.cons (.asg (.nm 2) (.lst .nil))
    (.cons (.for (.nm 3) (.rng1 (.cst (.int 3))) (.cons (.asg (.nm 4) (.fn1 .tuple (.lc [7] (.nm 7) (.rng1 (.bin .Add (.cst (.int 1)) (.own 0 (some 1) (.cons (.cst (.int 3)) .nil)))) .none (.tup (.cons (.bin .Add (.cst (.int 1)) (.own 0 (some 1) (.cons (.cst (.int 2)) .nil))) (.cons (.idx (.lst (.cons (.cst (.int 2)) (.cons (.cst (.int 3)) (.cons (.cst (.int 4)) (.cons (.cst (.int 6)) .nil))))) (.own 0 (some 1) (.cons (.cst (.int 4)) .nil))) .nil))))))
    (.cons (.asg (.nm 5) (.own 22 none (.cons (.var 4) .nil)))
    (.cons (.asg (.nm 6) (.own 29 (some 1) (.cons (.var 4) .nil)))
    (.cons (.ite (.or (.not (.own 28 none (.cons (.var 4) (.cons (.var 5) .nil)))) (.cmp .IsNot (.own 24 none (.cons (.var 4) (.cons (.var 5) .nil))) (.cst (.bool true)))) (.cons (.ret (.cst (.bool false)))
    .nil) .nil)
    (.cons (.ite (.or (.not (.own 30 none (.cons (.tup .nil) .nil))) (.or (.not (.own 30 none (.cons (.bin .Add (.var 4) (.tup (.cons (.tup (.cons (.cst (.int 0)) (.cons (.cst (.int 2)) .nil))) .nil))) .nil))) (.or (.not (.own 30 none (.cons (.bin .Add (.var 4) (.tup (.cons (.tup (.cons (.cst (.int 3)) (.cons (.cst (.int 2)) .nil))) .nil))) .nil))) (.not (.own 30 none (.cons (.bin .Add (.var 4) (.tup (.cons (.tup (.cons (.cst (.int 1)) .nil)) .nil))) .nil)))))) (.cons (.ret (.cst (.bool false)))
    .nil) .nil)
    (.cons (.asg (.nm 2) (.bin .Add (.slc (.var 2) (.some (.neg (.cst (.int 3)))) .none) (.lst (.cons (.var 5) (.cons (.var 6) .nil)))))
    (.cons (.for (.nm 7) (.rng1 (.bin .Add (.cst (.int 8)) (.fn1 .len (.var 2)))) (.cons (.asg (.nm 8) (.ite (.cmp .Lt (.var 7) (.cst (.int 8))) (.own 7 (some 1) (.cons (.var 5) .nil)) (.idx (.var 2) (.bin .Sub (.var 7) (.cst (.int 8))))))
    (.cons (.ite (.not (.own 1 none (.cons (.own 24 none (.cons (.var 4) (.cons (.var 8) .nil))) (.cons (.own 28 none (.cons (.var 4) (.cons (.var 8) .nil))) .nil)))) (.cons (.ret (.cst (.bool false)))
    .nil) .nil)
    .nil)))
    .nil))))))))
    (.cons (.ret (.cst (.bool true)))
    .nil)))
def lawN : List PySem.Str := ["script", "state", "seen", "turn", "rows", "told", "near_told", "k", "asked"]
abbrev lawI : Nat := 1
def dfs : List (Option Df) := [some Hn.D_b_w_next, some Hn.D_b_w_same, some Hn.D_b_w_changed, some Hn.D_b_w_ints, some Hn.D_b_w_exchanged, some Hn.D_b_w_cut, some Hn.D_b_w_turned_about, some Hn.D_b_w_odd, some Hn.D_b_w_neighbour, some Hn.D_b_is_whole, some Hn.D_b_is_told, some Hn.D_b_are_wholes, none, some Hn.D_b_w_is_whole, none, none, some Hn.D_b_w_are_wholes, some Hn.D_b_w_is, none, none, none, none, some D_periodic, some D_divisor, some D_judge_periodic, some D_w_count, some D_w_round, some D_w_late, some D_w_accepts, some D_w_told_near, some D_w_unfit]
def DD (i : Nat) : Option Df := dfs.getD i none
-- 0:_law_next 1:_law_same 2:_law_changed 3:_law_ints 4:_law_exchanged 5:_law_cut 6:_law_turned_about 7:_law_odd 8:_law_neighbour 9:is_whole 10:is_told 11:are_wholes 12:are_places 13:_law_is_whole 14:_law_is_place 15:_law_are_places 16:_law_are_wholes 17:_law_is 18:_law_numbers 19:_law_all_sets 20:_law_rising 21:_law_are_rising_places 22:periodic 23:divisor 24:judge_periodic 25:_law_count 26:_law_round 27:_law_late 28:_law_accepts 29:_law_told_near 30:_law_unfit
end K68

set_option maxRecDepth 100000
set_option maxHeartbeats 1000000
namespace K68
open PySem PySem.W Pv
theorem sh : Sh DD := ⟨rfl, rfl, rfl, rfl, rfl, rfl, rfl, rfl, rfl⟩
/-- a job: its time, its period -/
abbrev Jb := Int × Int
abbrev own (R : List Jb) : PyData := .tuple (R.map fun q => ii q.1 q.2)
def job (R : List Jb) (k : Int) : Jb := R.getD k.toNat (1, 1)
/-- what comes at a time: the first job that is late, or what is left to do -/
def arr (now : Int) : List Jb → Nat → List Int → Nat ⊕ List Int
  | [], _, l => .inr l
  | q :: R, k, l => if now % q.2 = 0 then (if 0 < gt l k then .inl k else arr now R (k + 1) (l.set k q.1)) else arr now R (k + 1) l
def key (R : List Jb) (now k : Int) : Int := (job R k).2 - now % (job R k).2
def ready (R : List Jb) (l : List Int) : List Int := (upto R.length).filter fun k => decide (0 < gt l k)
def best (f : Int → Int) : List Int → Option Int
  | [] => none
  | k :: ks => match best f ks with
    | none => some k
    | some j => if f j < f k then some j else some k
def take1 (l : List Int) (j : Int) : List Int := l.set j.toNat (gt l j - 1)
inductive Due where
  | late (k n : Int)
  | slots (l : List Int)
deriving DecidableEq
def sim (R : List Jb) : Nat → Nat → List Int → List Int → Due
  | 0, now, l, acc => match ready R l with
    | [] => .slots acc
    | k :: _ => .late k now
  | f + 1, now, l, acc => match arr now R 0 l with
    | .inl k => .late k now
    | .inr l => match best (key R now) (ready R l) with
      | none => sim R f (now + 1) l (acc ++ [-1])
      | some j => sim R f (now + 1) (take1 l j) (acc ++ [j])
def simL (R : List Jb) : Nat → Nat → List Int → Option (Int × Int)
  | 0, _, _ => none
  | f + 1, now, l => match arr now R 0 l with
    | .inl k => some (k, now)
    | .inr l => match best (key R now) (ready R l) with
      | none => simL R f (now + 1) l
      | some j => simL R f (now + 1) (take1 l j)
def round (R : List Jb) : Int := R.foldl (fun w q => w * q.2 / (Int.gcd w q.2 : Int)) 1
def due (R : List Jb) : Due := sim R (round R).toNat 0 (R.map fun _ => 0) []
def rnd (R : List Jb) : Int := (((List.range 12).map fun k : Nat => (1 : Int) + k).find? fun x => R.all fun q => decide (x % q.2 = 0)).getD 0
def lated (R : List Jb) : Option (Int × Int) := simL R (rnd R + 1).toNat 0 (R.map fun _ => 0)
def Due.data : Due → PyData
  | .late k n => .tuple [.str "late", .int k, .int n]
  | .slots l => .tuple [.str "slots", row l]
def ld : Option (Int × Int) → PyData
  | some (k, n) => ii k n
  | none => .none
/-- slots that keep every job -/
def cnt (k : Int) (l : List Int) : Int := (l.filter fun x => decide (x = k)).length
def okJob (l : List Int) (k : Nat) (q : Jb) : Bool := (upto l.length).all fun now => !decide (now % q.2 = 0) || decide (cnt k ((l.drop now.toNat).take q.2.toNat) = q.1)
def okSlots (R : List Jb) (l : List Int) : Bool := decide ((l.length : Int) = rnd R) && l.all (fun x => decide (-1 ≤ x) && decide (x < R.length)) && (upto R.length).all fun k => okJob l k.toNat (job R k)
def prs : List Jb := [(1, 2), (1, 3), (1, 4), (1, 6), (2, 2), (2, 3), (2, 4), (2, 6)]
def alls : List (List Jb) := prs.flatMap fun a => [a] :: prs.flatMap fun b => [a, b] :: prs.map fun c => [a, b, c]
def chk (R : List Jb) : Bool := decide (round R = rnd R) && (match due R with
  | .late k n => decide (lated R = some (k, n))
  | .slots l => decide (lated R = none) && okSlots R l)
theorem all_chk : ∀ R ∈ alls, chk R = true := List.all_eq_true.mp (by decide +kernel)
theorem mem_prs {a b : Int} (h1 : 1 ≤ a) (h2 : a ≤ 2) (h3 : b = 2 ∨ b = 3 ∨ b = 4 ∨ b = 6) : (a, b) ∈ prs := by
  rcases (show a = 1 ∨ a = 2 by omega) with rfl | rfl <;> rcases h3 with rfl | rfl | rfl | rfl <;> decide
theorem mem_alls {R : List Jb} (h : ∀ q ∈ R, q ∈ prs) (h1 : R ≠ []) (h3 : R.length ≤ 3) : R ∈ alls := by
  unfold alls
  match R, h1, h3 with
  | [a], _, _ => exact List.mem_flatMap.mpr ⟨a, h a (by simp), by simp⟩
  | [a, b], _, _ => exact List.mem_flatMap.mpr ⟨a, h a (by simp), List.mem_cons_of_mem _ (List.mem_flatMap.mpr ⟨b, h b (by simp), by simp⟩)⟩
  | [a, b, c], _, _ => exact List.mem_flatMap.mpr ⟨a, h a (by simp), List.mem_cons_of_mem _ (List.mem_flatMap.mpr ⟨b, h b (by simp), List.mem_cons_of_mem _ (List.mem_map.mpr ⟨c, h c (by simp), rfl⟩)⟩)⟩
  | _ :: _ :: _ :: _ :: _, _, h => simp at h
/-! the first of the least -/
theorem best_mem {f : Int → Int} : ∀ {ks : List Int} {j : Int}, best f ks = some j → j ∈ ks
  | k :: ks, j, h => by
    unfold best at h
    cases e : best f ks with
    | none => rw [e] at h; cases h; exact List.mem_cons_self
    | some i =>
      rw [e] at h
      simp only at h
      split at h
      · cases h; exact List.mem_cons_of_mem _ (best_mem e)
      · cases h; exact List.mem_cons_self
theorem best_none {f : Int → Int} : ∀ {ks : List Int}, best f ks = none → ks = []
  | [], _ => rfl
  | k :: ks, h => by
    unfold best at h
    cases e : best f ks with
    | none => rw [e] at h; cases h
    | some i => rw [e] at h; simp only at h; split at h <;> cases h
theorem best_le {f : Int → Int} : ∀ {ks : List Int} {j : Int}, ks.Pairwise (· < ·) → best f ks = some j → ∀ z ∈ ks, f j < f z ∨ (f j = f z ∧ j ≤ z)
  | k :: ks, j, hp, h, z, hz => by
    rw [List.pairwise_cons] at hp
    unfold best at h
    cases e : best f ks with
    | none =>
      rw [e] at h
      cases h
      cases best_none e
      rw [List.mem_singleton] at hz
      subst hz
      exact .inr ⟨rfl, Int.le_refl _⟩
    | some i =>
      rw [e] at h
      simp only at h
      have ih := best_le hp.2 e
      split at h
      · rename_i c
        cases h
        rcases List.mem_cons.mp hz with rfl | hz
        · exact .inl c
        · exact ih z hz
      · rename_i c
        cases h
        rcases List.mem_cons.mp hz with rfl | hz
        · exact .inr ⟨rfl, Int.le_refl _⟩
        · have := hp.1 z hz
          rcases ih z hz with q | ⟨q, _⟩ <;> omega
theorem best_of {f : Int → Int} {ks : List Int} {y : Int} (hp : ks.Pairwise (· < ·)) (h : y ∈ ks) (hl : ∀ z ∈ ks, f y < f z ∨ (f y = f z ∧ y ≤ z)) : best f ks = some y := by
  cases e : best f ks with
  | none => rw [best_none e] at h; cases h
  | some j =>
    have h1 := best_le hp e y h
    have h2 := hl j (best_mem e)
    congr 1
    omega
theorem upto_lt (n : Nat) : (upto n).Pairwise (· < ·) := by
  unfold upto
  rw [List.pairwise_map]
  exact List.pairwise_lt_range.imp fun h => by omega
theorem ready_lt (R : List Jb) (l : List Int) : (ready R l).Pairwise (· < ·) := (upto_lt _).filter _
theorem ready_mem {R : List Jb} {l : List Int} {k : Int} (h : k ∈ ready R l) : 0 ≤ k ∧ k < R.length ∧ 0 < gt l k := by
  obtain ⟨h1, h2⟩ := List.mem_filter.mp h
  obtain ⟨h3, h4⟩ := upto_mem.mp h1
  exact ⟨h3, h4, of_decide_eq_true h2⟩
theorem take1_len (l : List Int) (j : Int) : (take1 l j).length = l.length := List.length_set
theorem arr_len {now : Int} : ∀ {R : List Jb} {k : Nat} {l l' : List Int}, arr now R k l = .inr l' → l'.length = l.length
  | [], _, l, l', h => by cases h; rfl
  | q :: R, k, l, l', h => by
    unfold arr at h
    split at h
    · split at h
      · cases h
      · rw [arr_len h, List.length_set]
    · exact arr_len h
end K68

set_option maxRecDepth 100000
set_option maxHeartbeats 1000000
namespace K68
open PySem PySem.W Pv
variable {fuel L : Nat} {E : Ex → List PyData → Prop} {ls : List PyData} {R : List Jb}
theorem wp_loopW {c : Pv.Env → M Bool} {f : Pv.Env → M Fl} {P : Fl → List PyData → Prop} (I : Nat → Pv.Env → List PyData → Prop)
    (turn : ∀ n ρ ls, I n ρ ls → Wp (c ρ ls) (fun k ls' => (k = true → Wp (f ρ ls') (fun r ls'' => match r with
      | .nx ρ' => ∃ m, m < n ∧ I m ρ' ls''
      | .cnt ρ' => ∃ m, m < n ∧ I m ρ' ls''
      | .brk ρ' => P (.nx ρ') ls''
      | .ret d => P (.ret d) ls'') E) ∧ (k = false → P (.nx ρ) ls')) E) : ∀ {F n : Nat} {ρ : Pv.Env} {ls : List PyData}, n < F → I n ρ ls → Wp (loopW c f F ρ ls) P E := by
  intro F
  induction F with
  | zero => intro n ρ ls h; omega
  | succ F ih =>
    intro n ρ ls hn h
    refine wp_bind (wp_imp (turn n ρ ls h) ?_)
    rintro k ls' ⟨h1, h2⟩
    refine wp_if (fun e => ?_) (fun e => wp_ok (h2 e))
    refine wp_bind (wp_imp (h1 e) fun r ls'' q => ?_)
    cases r with
    | nx ρ' => obtain ⟨m, hm, q⟩ := q; exact ih (by omega) q
    | cnt ρ' => obtain ⟨m, hm, q⟩ := q; exact ih (by omega) q
    | brk ρ' => exact wp_ok q
    | ret d => exact wp_ok q
theorem gcd_step {a b : Int} (ha : 0 ≤ a) (hb : 0 < b) : Int.gcd b (a % b) = Int.gcd a b := by
  obtain ⟨a, rfl⟩ := Int.eq_ofNat_of_zero_le ha
  obtain ⟨b, rfl⟩ := Int.eq_ofNat_of_zero_le (Int.le_of_lt hb)
  show Nat.gcd b (a % b) = Nat.gcd a b
  rw [Nat.gcd_comm b (a % b), ← Nat.gcd_rec b a, Nat.gcd_comm]
theorem divisor_run {a b : Int} (ha : 0 ≤ a) (hb : 0 ≤ b) (hf : b < fuel) (hb2 : b < 1000) (hL : 1 ≤ L) (ls : List PyData) : run DD fuel L 23 [.int a, .int b] ls = .ok (.int (Int.gcd a b : Int)) ls := by
  refine run_is (d := D_divisor) rfl rfl hL fun L' _ => ?_
  unfold runB
  walk_at "wx"
  refine wp_loopW (fun n ρ ls' => ls' = ls ∧ ∃ x y : Int, ρ = [.fz (.int x), .fz (.int y)] ∧ 0 ≤ x ∧ 0 ≤ y ∧ y < 1000 ∧ y.toNat = n ∧ Int.gcd x y = Int.gcd a b) ?_ (n := b.toNat) (by omega) ⟨rfl, a, b, rfl, ha, hb, hb2, rfl, rfl⟩
  rintro n ρ ls' ⟨rfl, x, y, rfl, hx, hy, hy2, hn, hg⟩
  walk_at "wx"
  refine ⟨fun c => ?_, fun c => ?_⟩
  · rw [eqv_int, Bool.not_eq_true', decide_eq_false_iff_not] at c
    walk_at "wx"
    refine wp_e (modP (by omega)) ?_
    walk_at "wx"
    have := Int.emod_nonneg x (show y ≠ 0 from c)
    have := Int.emod_lt_of_pos x (show 0 < y by omega)
    exact ⟨(x % y).toNat, by omega, rfl, y, x % y, rfl, hy, by omega, by omega, rfl, by rw [gcd_step hx (by omega), hg]⟩
  · rw [eqv_int, Bool.not_eq_false', decide_eq_true_iff] at c
    subst c
    walk_at "wx"
    refine ⟨rfl, ?_⟩
    rw [← hg, Int.gcd_zero_right, Int.natAbs_of_nonneg hx]
/-! ### the jobs -/
def bad (r : List Int) : Bool := !(decide (r.length = 2)) || !(decide (0 < gt r 0) && decide (gt r 0 ≤ gt r 1))
theorem jobs_of : ∀ {rs : List (List Int)}, rs.any bad = false → ∃ R : List Jb, rs = R.map (fun q => [q.1, q.2]) ∧ ∀ q ∈ R, 0 < q.1 ∧ q.1 ≤ q.2
  | [], _ => ⟨[], rfl, fun q h => by cases h⟩
  | r :: rs, h => by
    rw [List.any_cons, Bool.or_eq_false_iff] at h
    obtain ⟨R, e, hR⟩ := jobs_of h.2
    have h := h.1
    unfold bad at h
    rw [Bool.or_eq_false_iff, Bool.not_eq_false', decide_eq_true_iff, Bool.not_eq_false', Bool.and_eq_true, decide_eq_true_iff, decide_eq_true_iff] at h
    match r, h with
    | [a, b], h =>
      refine ⟨(a, b) :: R, by rw [e]; rfl, fun q hq => ?_⟩
      rcases List.mem_cons.mp hq with rfl | hq
      · exact h.2
      · exact hR q hq
theorem own_rows (R : List Jb) : rows (R.map fun q => [q.1, q.2]) = own R := by rw [rows, List.map_map]; rfl
def lcmI (w p : Int) : Int := w * p / (Int.gcd w p : Int)
theorem lcm_bd {w p : Int} (hw : 0 < w) (hp : 0 < p) : 0 < lcmI w p ∧ lcmI w p ≤ w * p := by
  have hg : 0 < Int.gcd w p := Int.gcd_pos_of_ne_zero_left _ (by omega)
  have hm : 0 < w * p := Int.mul_pos hw hp
  unfold lcmI
  constructor
  · have : (Int.gcd w p : Int) ∣ w * p := Int.dvd_trans (Int.gcd_dvd_left ..) (Int.dvd_mul_right ..)
    have := Int.ediv_mul_cancel this
    have h2 : 0 ≤ w * p / (Int.gcd w p : Int) := Int.ediv_nonneg (by omega) (by omega)
    rcases (show w * p / (Int.gcd w p : Int) = 0 ∨ 0 < w * p / (Int.gcd w p : Int) by omega) with q | q
    · rw [q] at this; omega
    · exact q
  · exact Int.ediv_le_self _ (by omega)
theorem round_bd : ∀ {R : List Jb} {w : Int}, (∀ q ∈ R, 0 < q.1 ∧ q.1 ≤ q.2 ∧ q.2 ≤ 12) → 0 < w → 0 < R.foldl (fun w q => lcmI w q.2) w ∧ R.foldl (fun w q => lcmI w q.2) w ≤ w * 12 ^ R.length
  | [], w, _, hw => ⟨hw, by simp⟩
  | q :: R, w, h, hw => by
    have h1 := h q List.mem_cons_self
    have h2 := lcm_bd hw (show 0 < q.2 by omega)
    have ih := round_bd (R := R) (w := lcmI w q.2) (fun q hq => h q (List.mem_cons_of_mem _ hq)) h2.1
    rw [List.foldl_cons]
    refine ⟨ih.1, Int.le_trans ih.2 ?_⟩
    rw [List.length_cons, Int.pow_succ, ← Int.mul_assoc, Int.mul_right_comm]
    have h3 : w * q.2 ≤ w * 12 := Int.mul_le_mul_of_nonneg_left h1.2.2 (by omega)
    exact Int.mul_le_mul_of_nonneg_right (by omega) (Int.pow_nonneg (by decide))
theorem round_le {R : List Jb} (h : ∀ q ∈ R, 0 < q.1 ∧ q.1 ≤ q.2 ∧ q.2 ≤ 12) (l5 : R.length ≤ 5) (i : Nat) : 0 < round (R.take i) ∧ round (R.take i) ≤ 248832 := by
  have h1 := round_bd (R := R.take i) (w := 1) (fun q hq => h q (List.mem_of_mem_take hq)) (by decide)
  refine ⟨h1.1, Int.le_trans h1.2 ?_⟩
  have h2 : (R.take i).length ≤ 5 := by rw [List.length_take]; omega
  have : ((12 : Int) ^ (R.take i).length) ≤ 12 ^ 5 := by
    rcases (show (R.take i).length = 0 ∨ (R.take i).length = 1 ∨ (R.take i).length = 2 ∨ (R.take i).length = 3 ∨ (R.take i).length = 4 ∨ (R.take i).length = 5 by omega) with e | e | e | e | e | e <;> rw [e] <;> decide
  omega
theorem round_snoc {R : List Jb} {i : Nat} {q : Jb} (h : R[i]? = some q) : round (R.take (i + 1)) = lcmI (round (R.take i)) q.2 := by
  rw [List.take_add_one, h]
  show round (R.take i ++ [q]) = _
  unfold round
  rw [List.foldl_append]
  rfl
theorem arr_cons {now : Int} {q : Jb} {R : List Jb} {k : Nat} {l : List Int} : arr now (q :: R) k l = if now % q.2 = 0 then (if 0 < gt l k then .inl k else arr now R (k + 1) (l.set k q.1)) else arr now R (k + 1) l := rfl
theorem arr_nil {now : Int} {k : Nat} {l : List Int} : arr now [] k l = .inr l := rfl
theorem setAt_int {l : List Int} {k v : Int} (h0 : 0 ≤ k) (h1 : k < l.length) : setAt (l.map .int) k (.int v) = some ((l.set k.toNat v).map .int) := by
  unfold setAt L2.ixN
  rw [List.length_map, if_pos h0, if_pos h1, Option.map_some, List.map_set]
theorem wp_setI {l : List Int} {k v : Int} {Q : List PyData → List PyData → Prop} (h0 : 0 ≤ k) (h1 : k < l.length) (q : Q ((l.set k.toNat v).map .int) ls) :
    Wp (M.opt ((intOf (.int k)).bind fun n => setAt (l.map .int) n (.int v)) ls) Q E := wp_opt ⟨_, setAt_int h0 h1, q⟩
theorem job_at {R : List Jb} {k : Int} (h0 : 0 ≤ k) (h1 : k < R.length) : L2.atI (R.map fun q => ii q.1 q.2) k = some (ii (job R k).1 (job R k).2) := by
  obtain ⟨j, rfl⟩ := Int.eq_ofNat_of_zero_le h0
  have hj : j < R.length := by omega
  refine L2.atI_nat (j := j) ?_
  rw [List.getElem?_map, List.getElem?_eq_getElem hj]
  show some (ii (R[j]).1 (R[j]).2) = some (ii (R.getD j (1, 1)).1 (R.getD j (1, 1)).2)
  rw [List.getD_eq_getElem?_getD, List.getElem?_eq_getElem hj]
  rfl
theorem wp_job {R : List Jb} {k : Int} {Q : PyData → List PyData → Prop} (h0 : 0 ≤ k) (h1 : k < R.length) (q : Q (ii (job R k).1 (job R k).2) ls) :
    Wp (M.opt ((intOf (.int k)).bind fun k => index (own R) k) ls) Q E := wp_opt ⟨_, job_at h0 h1, q⟩
theorem job_mem {R : List Jb} {k : Int} (h0 : 0 ≤ k) (h1 : k < R.length) : job R k ∈ R := by
  have hj : k.toNat < R.length := by omega
  unfold job
  rw [List.getD_eq_getElem?_getD, List.getElem?_eq_getElem hj]
  exact List.getElem_mem hj
theorem jobs_of_list {R : List Jb} {l : List Int} : l.length = R.length → True := fun _ => trivial
/-- the best of those that wait -/
theorem least_key {f : Int → Int} {ks : List Int} (hp : ks.Pairwise (· < ·)) (ne : ks ≠ []) : ∃ j, best f ks = some j ∧ least (ks.map fun k => ii (f k) k) = some (ii (f j) j) := by
  obtain ⟨y, hy, e, h⟩ := least_of (f := fun k : Int => ii (f k) k) (xs := ks) (fun _ _ => rfl) (fun _ => rfl) (fun _ => (by decide : 1 ≤ 64)) ne
  exact ⟨y, best_of hp hy fun z hz => dle_ii (h z hz), e⟩
theorem sorts_best {f : Int → Int} {ks : List Int} (hp : ks.Pairwise (· < ·)) : ∃ ys : List Int, sorts (ks.map fun k => ii (f k) k) = some (ys.map fun k => ii (f k) k) ∧ ys.length = ks.length ∧ ys.head? = best f ks := by
  obtain ⟨ys, h1, h2, h3⟩ := sorts_key f (fun k => k) ks
  refine ⟨ys, h1, h2.length_eq, ?_⟩
  cases ys with
  | nil =>
    cases (List.nil_perm.mp h2)
    rfl
  | cons y ys =>
    refine (best_of hp (h2.mem_iff.mp List.mem_cons_self) fun z hz => ?_).symm
    rcases List.mem_cons.mp (h2.mem_iff.mpr hz) with rfl | hz
    · exact .inr ⟨rfl, Int.le_refl _⟩
    · exact (List.pairwise_cons.mp h3).1 z hz
theorem wp_grd {n : Nat} {Q : Unit → List PyData → Prop} (h : n ≤ 1000) (q : Q () ls) : Wp (M.guard (decide (n < sizeLine)) ls) Q E := by
  have : decide (n < sizeLine) = true := decide_eq_true (Nat.lt_of_le_of_lt h (by decide +kernel))
  rw [this]
  exact wp_ok q
theorem last_at {l : List Int} {b : Int} : L2.atI ((l ++ [b]).map PyData.int) (-1) = some (.int b) := by
  unfold L2.atI L2.ixN
  rw [List.length_map, List.length_append, if_neg (by decide), if_pos (by rw [List.length_singleton]; omega), Option.bind_some, List.length_singleton, show (-1 + ((l.length + 1 : Nat) : Int)).toNat = l.length from by omega, List.getElem?_map, List.getElem?_append_right (Nat.le_refl _), Nat.sub_self]
  rfl
theorem snoc_int {l : List Int} {b : Int} : l.map PyData.int ++ [.int b] = (l ++ [b]).map .int := by rw [List.map_append]; rfl
end K68

set_option maxRecDepth 100000
set_option maxHeartbeats 1000000
namespace K68
open PySem PySem.W Pv
variable {fuel L : Nat} {E : Ex → List PyData → Prop} {ls : List PyData} {R : List Jb} {rs : List (List Int)}
abbrev jr (R : List Jb) : List (List Int) := R.map fun q => [q.1, q.2]
structure NearJ (rs : List (List Int)) : Prop where
  l5 : rs.length ≤ 5
  r2 : ∀ r ∈ rs, r.length ≤ 2
  bd : ∀ r ∈ rs, ∀ i ∈ r, i ≤ 12
theorem periodic_wp (z : NearJ rs) (hf : 1000 ≤ fuel) (hL : 2 ≤ L) (ls : List PyData) : Wp (run DD fuel L 22 [rows rs] ls)
    (fun d ls' => ls' = ls ∧ ∃ R : List Jb, rs = jr R ∧ R ≠ [] ∧ (∀ q ∈ R, 0 < q.1 ∧ q.1 ≤ q.2 ∧ q.2 ≤ 12) ∧ round R ≤ 120 ∧ d = (due R).data)
    (fun x ls' => ls' = ls ∧ ((x = .unfit ∧ (rs = [] ∨ rs.any bad = true)) ∨ (x = .wide ∧ ∃ R : List Jb, rs = jr R ∧ R ≠ [] ∧ (∀ q ∈ R, 0 < q.1 ∧ q.1 ≤ q.2) ∧ 120 < round R))) := by
  obtain ⟨L, rfl⟩ := Nat.exists_eq_add_of_le' (show 1 ≤ L by omega)
  rw [run_def (d := D_periodic) rfl rfl]
  unfold runB
  walk_at "wx"
  by_cases ne : rs = []
  · subst ne
    walk_at "wx"
    exact ⟨rfl, .inl ⟨rfl, .inl rfl⟩⟩
  refine ⟨false, by cases rs <;> simp at ne ⊢; rfl, fun _ => ?_, fun h => by cases h⟩
  walk_at "wx"
  refine wp_lcM (h := fun r => .bool (bad r)) (enc := row) rfl (fun _ => rfl) (fun r hr => ?_) ?_
  · walk_at "wx"
    by_cases c : r.length = 2
    · match r, c with
      | [a, b], _ =>
        walk_at "wx"
        refine wp_if (fun c1 => ?_) fun c1 => ?_
        · walk_at "wx"
          refine ⟨rfl, ?_⟩
          unfold bad
          show _ = PyData.bool (false || !(decide (0 < a) && decide (a ≤ b)))
          rw [c1]
          rfl
        · walk_at "wx"
          refine ⟨rfl, ?_⟩
          unfold bad
          show _ = PyData.bool (false || !(decide (0 < a) && decide (a ≤ b)))
          rw [c1]
          rfl
    · walk_at "wx"
      refine ⟨true, by rw [eqv_int, List.length_map, decide_eq_false (by omega)]; rfl, fun h => (by cases h), fun _ => ⟨rfl, ?_⟩⟩
      unfold bad
      rw [eqv_int, List.length_map, decide_eq_false (by omega), decide_eq_false c]
      rfl
  walk_at "wx"
  refine wp_if (fun c => ?_) fun c => ?_
  · walk_at "wx"
    exact ⟨rfl, .inl ⟨rfl, .inr c⟩⟩
  obtain ⟨R, rfl, hR⟩ := jobs_of c
  have l5 : R.length ≤ 5 := by have := z.l5; rwa [List.length_map] at this
  have hR : ∀ q ∈ R, 0 < q.1 ∧ q.1 ≤ q.2 ∧ q.2 ≤ 12 := fun q hq => ⟨(hR q hq).1, (hR q hq).2, z.bd _ (List.mem_map_of_mem hq) q.2 (by simp)⟩
  rw [own_rows]
  walk_at "wx"
  refine ⟨false, by rw [decide_eq_false (by rw [List.length_map]; omega)]; rfl, fun _ => ?_, fun h => by cases h⟩
  walk_at "wx"
  refine wp_lcM (h := fun q : Jb => .bool (decide (12 < q.2))) (enc := fun q => ii q.1 q.2) rfl (fun _ => rfl) (fun q hq => ?_) ?_
  · walk_at "wx"; exact ⟨rfl, rfl⟩
  walk_at "wx"
  refine wp_false (by rw [← Bool.not_eq_true, List.any_eq_true]; rintro ⟨q, hq, h⟩; have := hR q hq; have := of_decide_eq_true h; omega) ?_
  walk_at "wx"
  refine wp_for (fun i ρ ls' => ls' = ls ∧ ∃ w6 w7, ρ = [.fz (own R), .fz (.int (round (R.take i))), .no, .no, .no, .no, w6, w7, .no, .no, .no, .no, .no] ∧ w6 ≠ .st ∧ w7 ≠ .st) ?_ ?_ ⟨rfl, .no, .no, rfl, by walk_at "nsT", by walk_at "nsT"⟩
  · rintro i x ρ ls' hx ⟨rfl, w6, w7, rfl, n6, n7⟩
    rw [List.getElem?_map] at hx
    obtain ⟨q, hq, rfl⟩ := Option.map_eq_some_iff.mp hx
    have hb := round_le hR l5 i
    have hqq := hR q (List.mem_of_getElem? hq)
    walk_at "wx"
    refine wp_e (mulL (by unfold small; exact decide_eq_true (by omega))) ?_
    walk_at "wx"
    refine wp_of (divisor_run (by omega) (by omega) (by omega) (by omega) (by omega) _) ?_
    have hg : 0 < Int.gcd (round (R.take i)) q.2 := Int.gcd_pos_of_ne_zero_left _ (by omega)
    have hg2 : (Int.gcd (round (R.take i)) q.2 : Int) ≤ q.2 := Int.le_of_dvd (by omega) (Int.gcd_dvd_right ..)
    walk_at "wx"
    refine wp_e (fdivP (by omega) (by omega)) ?_
    walk_at "wx"
    exact ⟨rfl, _, _, by rw [round_snoc hq]; rfl, by walk_at "nsT", by walk_at "nsT"⟩
  rintro ρ ls' ⟨rfl, w6, w7, rfl, n6, n7⟩
  rw [List.length_map, List.take_length]
  walk_at "wx"
  refine wp_if (fun c1 => ?_) fun c1 => ?_
  · walk_at "wx"
    exact ⟨rfl, .inr ⟨rfl, R, rfl, fun e => by subst e; exact ne rfl, fun q hq => ⟨(hR q hq).1, (hR q hq).2.1⟩, of_decide_eq_true c1⟩⟩
  have h120 := of_decide_eq_false c1
  have hr0 := (round_le hR l5 R.length).1
  rw [List.take_length] at hr0
  have nR : R ≠ [] := fun e => by subst e; exact ne rfl
  walk_at "wx"
  refine wp_lcM (h := fun _ => .int 0) (enc := fun q : Jb => ii q.1 q.2) rfl (fun _ => rfl) (fun q hq => ?_) ?_
  · walk_at "wx"; exact ⟨rfl, rfl⟩
  walk_at "wx"
  obtain ⟨n, hn⟩ : ∃ n : Nat, n = (round R).toNat := ⟨_, rfl⟩
  rw [← hn, rng_upto]
  refine wp_for (fun i ρ ls2 => ls2 = ls' ∧ ∃ l acc : List Int, ∃ w4 w6 w7 w8 w9 w10, ρ = [.fz (own R), .fz (.int (round R)), .ow (.list (l.map .int)), .ow (.list (acc.map .int)), w4, .no, w6, w7, w8, w9, w10, .no, .no] ∧
    w4 ≠ .st ∧ w6 ≠ .st ∧ w7 ≠ .st ∧ w8 ≠ .st ∧ w9 ≠ .st ∧ w10 ≠ .st ∧ l.length = R.length ∧ acc.length = i ∧ sim R (n - i) i l acc = due R) ?_ ?_ ⟨rfl, R.map fun _ => 0, [], .no, w6, w7, .no, .no, .no, ?_, by walk_at "nsT", by walk_at "nsT", by walk_at "nsT", by walk_at "nsT", by walk_at "nsT", by walk_at "nsT", by rw [List.length_map], rfl, ?_⟩
  rotate_left
  · rintro ρ ls'' ⟨rfl, l, acc, w4, w6, w7, w8, w9, w10, rfl, n4, n6, n7, n8, n9, n10, hl, ha, hs⟩
    rw [List.length_map, upto_len] at ha hs
    rw [Nat.sub_self] at hs
    replace hs : (match ready R l with | [] => Due.slots acc | k :: _ => Due.late k n) = due R := hs
    walk_at "wx"
    refine wp_lcF (p := fun k => decide (0 < gt l k)) (h := fun k => .int k) (enc := fun k => .tuple [.int k, .int (gt l k)]) (enum_gt l) (fun k hk => ?_) (fun k hk hp => ?_) ?_
    · walk_at "wx"; exact ⟨rfl, rfl⟩
    · walk_at "wx"; exact ⟨rfl, rfl⟩
    rw [show (upto l.length).filter (fun k => decide (0 < gt l k)) = ready R l from by rw [hl]; rfl]
    cases hr : ready R l with
    | nil =>
      rw [hr] at hs
      walk_at "wx"
      exact ⟨rfl, R, rfl, nR, hR, by omega, by rw [← hs]; rfl⟩
    | cons k ks =>
      rw [hr] at hs
      walk_at "wx"
      refine wp_e (show index (.list _) 0 = some (.int k) from L2.atI_nat (j := 0) rfl) ?_
      walk_at "wx"
      refine ⟨rfl, R, rfl, nR, hR, by omega, ?_⟩
      rw [← hs]
      show _ = PyData.tuple [.str "late", .int k, .int (n : Int)]
      rw [show (n : Int) = round R from by omega]
  · rw [List.map_map]; rfl
  · rw [hn]; rfl
  rintro i x ρ ls' hx ⟨rfl, l, acc, w4, w6, w7, w8, w9, w10, rfl, n4, n6, n7, n8, n9, n10, hl, ha, hs⟩
  have hi : i < n := by have := (List.getElem?_eq_some_iff.mp hx).1; rwa [List.length_map, upto_len] at this
  have hx : x = .int i := by
    rw [List.getElem?_map] at hx
    unfold upto at hx
    rw [List.getElem?_map, List.getElem?_range hi] at hx
    injection hx with hx
    exact hx.symm
  subst hx
  obtain ⟨f, hf2⟩ : ∃ f, n - i = f + 1 := ⟨n - i - 1, by omega⟩
  rw [hf2] at hs
  unfold sim at hs
  walk_at "wx"
  refine wp_for (fun j ρ ls'' => ls'' = ls' ∧ ∃ l' : List Int, ∃ w7 w9 w10, ρ = [.fz (own R), .fz (.int (round R)), .ow (.list (l'.map .int)), .ow (.list (acc.map .int)), .fz (.int i), .no, w6, w7, w8, w9, w10, .no, .no] ∧
    w7 ≠ .st ∧ w9 ≠ .st ∧ w10 ≠ .st ∧ l'.length = R.length ∧ arr i R 0 l = arr i (R.drop j) j l') ?_ ?_ ⟨rfl, l, w7, w9, w10, rfl, n7, n9, n10, hl, rfl⟩
  · rintro j x ρ ls'' hx ⟨rfl, l', w7, w9, w10, rfl, n7, n9, n10, hl', ha2⟩
    obtain ⟨e, he, rfl⟩ := enums_get hx
    rw [List.getElem?_map] at he
    obtain ⟨q, hq, rfl⟩ := Option.map_eq_some_iff.mp he
    rw [Nat.zero_add]
    have hqq := hR q (List.mem_of_getElem? hq)
    obtain ⟨hj, eq⟩ := List.getElem?_eq_some_iff.mp hq
    rw [List.drop_eq_getElem_cons hj, eq, arr_cons] at ha2
    walk_at "wx"
    refine wp_e (modP (by omega)) ?_
    walk_at "wx"
    rw [eqv_int]
    refine wp_if (fun c2 => ?_) fun c2 => ?_
    · rw [if_pos (of_decide_eq_true c2)] at ha2
      walk_at "wx"
      refine wp_gtL (by omega) (by omega) ?_
      walk_at "wx"
      refine wp_if (fun c3 => ?_) fun c3 => ?_
      · rw [if_pos (of_decide_eq_true c3)] at ha2
        rw [ha2] at hs
        walk_at "wx"
        exact ⟨rfl, R, rfl, nR, hR, by omega, by rw [← hs]; rfl⟩
      · rw [if_neg (of_decide_eq_false c3)] at ha2
        walk_at "wx"
        refine wp_setI (by omega) (by omega) ?_
        walk_at "wx"
        exact ⟨rfl, l'.set (j : Int).toNat q.1, _, _, _, rfl, by walk_at "nsT", by walk_at "nsT", by walk_at "nsT", by rw [List.length_set]; exact hl', ha2⟩
    · rw [if_neg (of_decide_eq_false c2)] at ha2
      walk_at "wx"
      exact ⟨rfl, l', _, _, _, rfl, by walk_at "nsT", by walk_at "nsT", by walk_at "nsT", hl', ha2⟩
  · rintro ρ ls'' ⟨rfl, l', w7, w9, w10, rfl, n7, n9, n10, hl', ha2⟩
    rw [enums_len, List.length_map, List.drop_length, arr_nil] at ha2
    rw [ha2] at hs
    walk_at "wx"
    refine wp_rng1 (by rw [List.length_map]; omega) ?_
    rw [List.length_map, show ((R.length : Int)).toNat = R.length from by omega]
    walk_at "wx"
    refine wp_lcF (p := fun k => decide (0 < gt l' k)) (h := fun k => ii (key R i k) k) (enc := PyData.int) (rng_upto _) (fun k hk => ?_) (fun k hk hp => ?_) ?_
    · obtain ⟨k0, k1⟩ := upto_mem.mp hk
      walk_at "wx"
      refine wp_gtL (by omega) (by omega) ?_
      walk_at "wx"
      exact ⟨rfl, rfl⟩
    · obtain ⟨k0, k1⟩ := upto_mem.mp hk
      have hj := hR _ (job_mem k0 k1)
      walk_at "wx"
      refine wp_job (by omega) (by omega) ?_
      walk_at "wx"
      refine wp_job (by omega) (by omega) ?_
      walk_at "wx"
      refine wp_e (modP (by omega)) ?_
      walk_at "wx"
      exact ⟨rfl, rfl⟩
    rw [show (upto R.length).filter (fun k => decide (0 < gt l' k)) = ready R l' from rfl]
    have h8 : (ready R l').length ≤ 5 := Nat.le_trans (List.length_filter_le _ _) (by rw [upto_len]; omega)
    have hacc : (acc.map PyData.int).length ≤ 1000000 := by rw [List.length_map]; omega
    replace hs : (match best (key R i) (ready R l') with | none => sim R f (i + 1) l' (acc ++ [-1]) | some j => sim R f (i + 1) (take1 l' j) (acc ++ [j])) = due R := hs
    by_cases nr : ready R l' = []
    · rw [nr] at hs ⊢
      replace hs : sim R f (i + 1) l' (acc ++ [-1]) = due R := hs
      walk_at "wx"
      refine wp_grd (by rw [List.length_map]; omega) ?_
      rw [show (fun i => PyData.int (-i)) 1 = PyData.int (-1) from rfl, snoc_int]
      walk_at "wx"
      refine ⟨rfl, l', acc ++ [-1], _, _, _, _, _, _, rfl, by walk_at "nsT", by walk_at "nsT", by walk_at "nsT", by walk_at "nsT", by walk_at "nsT", by walk_at "nsT", hl', by rw [List.length_append, ha]; rfl, by rw [show n - (i + 1) = f from by omega]; exact hs⟩
    · obtain ⟨b, hb, e⟩ := least_key (f := key R i) (ready_lt R l') nr
      rw [hb] at hs
      replace hs : sim R f (i + 1) (take1 l' b) (acc ++ [b]) = due R := hs
      have ht : (!((ready R l').map fun k => ii (key R i k) k).isEmpty) = true := by cases h : ready R l' with | nil => exact absurd h nr | cons _ _ => rfl
      have hbm := ready_mem (best_mem hb)
      walk_at "wx"
      refine wp_true ht ?_
      walk_at "wx"
      refine wp_e (show f1 .min (.list _) = _ from e) ?_
      walk_at "wx"
      refine wp_grd (by rw [List.length_map]; omega) ?_
      rw [snoc_int]
      walk_at "wx"
      refine wp_true ht ?_
      walk_at "wx"
      refine wp_e (show index (.list _) (-1) = _ from last_at) ?_
      walk_at "wx"
      refine wp_e (atI_gt (by omega) (by omega)) ?_
      walk_at "wx"
      refine wp_setI (by omega) (by omega) ?_
      walk_at "wx"
      refine ⟨rfl, take1 l' b, acc ++ [b], _, _, _, _, _, _, rfl, by walk_at "nsT", by walk_at "nsT", by walk_at "nsT", by walk_at "nsT", by walk_at "nsT", by walk_at "nsT", by rw [take1_len]; exact hl', by rw [List.length_append, ha]; rfl, by rw [show n - (i + 1) = f from by omega]; exact hs⟩
theorem jr_inj : ∀ {R S : List Jb}, jr R = jr S → R = S
  | [], [], _ => rfl
  | [], _ :: _, h => by cases h
  | _ :: _, [], h => by cases h
  | (a, b) :: R, (c, d) :: S, h => by
    injection h with h1 h2
    injection h1 with h1 h3
    injection h3 with h3
    have h1 : a = c := h1
    have h3 : b = d := h3
    rw [jr_inj h2, h1, h3]
/-- the law's own jobs -/
structure Fine (R : List Jb) : Prop where
  ne : R ≠ []
  l3 : R.length ≤ 3
  pr : ∀ q ∈ R, q ∈ prs
theorem pr_bd {q : Jb} (h : q ∈ prs) : 0 < q.1 ∧ q.1 ≤ q.2 ∧ q.2 ≤ 6 ∧ q.1 ≤ 2 ∧ 12 % q.2 = 0 := by
  unfold prs at h
  simp only [List.mem_cons, List.not_mem_nil, or_false] at h
  rcases h with rfl | rfl | rfl | rfl | rfl | rfl | rfl | rfl <;> decide
theorem Fine.chk (z : Fine R) : chk R = true := all_chk R (mem_alls z.pr z.ne z.l3)
theorem jr_bad (h : ∀ q ∈ R, 0 < q.1 ∧ q.1 ≤ q.2) : (jr R).any bad = false := by
  rw [List.any_map, List.any_eq_false]
  intro q hq
  have := h q hq
  show ¬ (false || !(decide (0 < q.1) && decide (q.1 ≤ q.2))) = true
  rw [decide_eq_true this.1, decide_eq_true this.2]
  decide
theorem Fine.near (z : Fine R) : NearJ (jr R) := ⟨by rw [List.length_map]; have := z.l3; omega, fun r hr => by obtain ⟨q, _, rfl⟩ := List.mem_map.mp hr; exact Nat.le_refl 2, fun r hr i hi => by
  obtain ⟨q, hq, rfl⟩ := List.mem_map.mp hr
  have := pr_bd (z.pr q hq)
  simp only [List.mem_cons, List.not_mem_nil, or_false] at hi
  omega⟩
theorem Fine.rr (z : Fine R) : round R = rnd R := by
  have := z.chk
  unfold K68.chk at this
  rw [Bool.and_eq_true, decide_eq_true_iff] at this
  exact this.1
end K68

set_option maxRecDepth 100000
set_option maxHeartbeats 1000000
namespace K68
open PySem PySem.W Pv
variable {fuel L : Nat} {E : Ex → List PyData → Prop} {ls : List PyData} {R : List Jb}
theorem iis_shaped {α : Type} (f g : α → Int) (xs : List α) : SeqAt.shaped (.list (xs.map fun a => ii (f a) (g a))) = true := by
  have h1 : ∀ xs : List α, PyData.canLayAll0 (xs.map fun a => ii (f a) (g a)) = true := fun xs => by
    induction xs with
    | nil => rfl
    | cons i xs ih => show (true && PyData.canLayAll0 (xs.map fun a => ii (f a) (g a))) = true; rw [ih]; rfl
  have h2 : ∀ xs : List α, PyData.depthAll (xs.map fun a => ii (f a) (g a)) ≤ 1 := fun xs => by
    induction xs with
    | nil => exact Nat.zero_le _
    | cons i xs ih => show max 1 (PyData.depthAll (xs.map fun a => ii (f a) (g a))) ≤ 1; omega
  unfold SeqAt.shaped
  rw [show (PyData.list (xs.map fun a => ii (f a) (g a))).canLay0 = PyData.canLayAll0 (xs.map fun a => ii (f a) (g a)) from rfl, h1, show (PyData.list (xs.map fun a => ii (f a) (g a))).depth = PyData.depthAll (xs.map fun a => ii (f a) (g a)) + 1 from rfl]
  have := h2 xs
  rw [decide_eq_true (by omega)]
  rfl
theorem eqII_nil {α : Type} (f g : α → Int) (xs : List α) : cmpop .Eq (.list (xs.map fun a => ii (f a) (g a))) (.list []) = some xs.isEmpty := by
  show (if (SeqAt.shaped (.list (xs.map fun a => ii (f a) (g a))) && SeqAt.shaped (.list [])) = true then some (PyData.eqv (.list (xs.map fun a => ii (f a) (g a))) (.list [])) else none) = _
  rw [iis_shaped]
  cases xs <;> rfl
theorem filter_no {α : Type} (p : α → Bool) (xs : List α) : (xs.filter fun x => !p x).isEmpty = xs.all p := by
  induction xs with
  | nil => rfl
  | cons x xs ih => rw [List.filter_cons, List.all_cons]; cases p x <;> simp [ih]
theorem rnd_bd (z : ∀ q ∈ R, q ∈ prs) : 1 ≤ rnd R ∧ rnd R ≤ 12 ∧ ∃ rest, ((((List.range 12).map fun k : Nat => (1 : Int) + k).filter fun x => R.all fun q => decide (x % q.2 = 0))) = rnd R :: rest := by
  have h12 : (12 : Int) ∈ ((((List.range 12).map fun k : Nat => (1 : Int) + k).filter fun x => R.all fun q => decide (x % q.2 = 0))) := by
    rw [List.mem_filter]
    exact ⟨by decide, List.all_eq_true.mpr fun q hq => decide_eq_true (pr_bd (z q hq)).2.2.2.2⟩
  have hh : ((((List.range 12).map fun k : Nat => (1 : Int) + k).filter fun x => R.all fun q => decide (x % q.2 = 0))).head?.getD 0 = rnd R := by
    rw [List.head?_filter]; rfl
  cases e : (((List.range 12).map fun k : Nat => (1 : Int) + k).filter fun x => R.all fun q => decide (x % q.2 = 0)) with
  | nil => rw [e] at h12; cases h12
  | cons x xs =>
    rw [e] at hh
    have hh : x = rnd R := hh
    subst hh
    have hm : rnd R ∈ ((List.range 12).map fun k : Nat => (1 : Int) + k) := (List.mem_filter.mp (e ▸ List.mem_cons_self)).1
    obtain ⟨k, hk, hk2⟩ := List.mem_map.mp hm
    have := List.mem_range.mp hk
    exact ⟨by omega, by omega, xs, rfl⟩
theorem rnd_run (z : Fine R) (hL : 1 ≤ L) (ls : List PyData) : run DD fuel L 26 [own R] ls = .ok (.int (rnd R)) ls := by
  obtain ⟨h1, h2, rest, hr⟩ := rnd_bd z.pr
  refine run_is (d := D_w_round) rfl rfl hL fun L' _ => ?_
  unfold runB
  walk_at "wx"
  refine wp_lcF (p := fun x => R.all fun q => decide (x % q.2 = 0)) (h := fun x => .int x) (enc := PyData.int) (rng_int _ _) (fun x hx => ?_) (fun x hx hp => ?_) ?_
  · walk_at "wx"
    refine wp_lcF (p := fun q : Jb => !decide (x % q.2 = 0)) (h := fun q => ii q.1 q.2) (enc := fun q : Jb => ii q.1 q.2) rfl (fun q hq => ?_) (fun q hq hp => ?_) ?_
    · have := pr_bd (z.pr q hq)
      walk_at "wx"
      refine wp_e (modP (by omega)) ?_
      walk_at "wx"
      exact ⟨rfl, rfl⟩
    · walk_at "wx"; exact ⟨rfl, rfl⟩
    walk_at "wx"
    refine wp_cmp (eqII_nil _ _ _) ?_
    walk_at "wx"
    exact ⟨rfl, filter_no _ _⟩
  · walk_at "wx"; exact ⟨rfl, rfl⟩
  walk_at "wx"
  rw [map_int_inj', List.map_id'] 
  rw [show (13 - 1 : Int).toNat = 12 from rfl, hr]
  obtain ⟨m, hm, e, hl⟩ := least_ints (ns := rnd R :: rest) (by simp)
  refine wp_e (show f1 .min (.list _) = _ from e) ?_
  walk_at "wx"
  refine ⟨rfl, ?_⟩
  have hp : (rnd R :: rest).Pairwise (· < ·) := hr ▸ ((by decide : (((List.range 12).map fun k : Nat => (1 : Int) + k)).Pairwise (· < ·)).filter _)
  have := hl (rnd R) List.mem_cons_self
  rcases List.mem_cons.mp hm with rfl | hm
  · rfl
  · have := (List.pairwise_cons.mp hp).1 m hm
    omega
theorem late_run (z : Fine R) (hL : 2 ≤ L) (ls : List PyData) : run DD fuel L 27 [own R] ls = .ok (ld (lated R)) ls := by
  obtain ⟨h1, h2, _⟩ := rnd_bd z.pr
  have hR : ∀ q ∈ R, 0 < q.1 ∧ q.1 ≤ q.2 ∧ q.2 ≤ 6 ∧ q.1 ≤ 2 ∧ 12 % q.2 = 0 := fun q hq => pr_bd (z.pr q hq)
  have l3 := z.l3
  refine run_is (d := D_w_late) rfl rfl (by omega) fun L' e' => ?_
  unfold runB
  walk_at "wx"
  refine wp_lcM (h := fun _ => .int 0) (enc := fun q : Jb => ii q.1 q.2) rfl (fun _ => rfl) (fun q hq => ?_) ?_
  · walk_at "wx"; exact ⟨rfl, rfl⟩
  walk_at "wx"
  refine wp_of (rnd_run z (by omega) _) ?_
  walk_at "wx"
  obtain ⟨n, hn⟩ : ∃ n : Nat, n = (rnd R + 1).toNat := ⟨_, rfl⟩
  rw [← hn, rng_upto]
  refine wp_for (fun i ρ ls2 => ls2 = ls ∧ ∃ l : List Int, ∃ w2 w3 w4 w6, ρ = [.fz (own R), .ow (.list (l.map .int)), w2, w3, w4, .no, w6] ∧
    w2 ≠ .st ∧ w3 ≠ .st ∧ w4 ≠ .st ∧ w6 ≠ .st ∧ l.length = R.length ∧ simL R (n - i) i l = lated R) ?_ ?_ ⟨rfl, R.map fun _ => 0, .no, .no, .no, .no, ?_, by walk_at "nsT", by walk_at "nsT", by walk_at "nsT", by walk_at "nsT", by rw [List.length_map], ?_⟩
  rotate_left
  · rintro ρ ls'' ⟨rfl, l, w2, w3, w4, w6, rfl, n2, n3, n4, n6, hl, hs⟩
    rw [List.length_map, upto_len, Nat.sub_self] at hs
    replace hs : none = lated R := hs
    walk_at "wx"
    rw [← hs]
    exact ⟨rfl, rfl⟩
  · rw [List.map_map]; rfl
  · rw [hn]; rfl
  rintro i x ρ ls' hx ⟨rfl, l, w2, w3, w4, w6, rfl, n2, n3, n4, n6, hl, hs⟩
  have hi : i < n := by have := (List.getElem?_eq_some_iff.mp hx).1; rwa [List.length_map, upto_len] at this
  have hx : x = .int i := by
    rw [List.getElem?_map] at hx
    unfold upto at hx
    rw [List.getElem?_map, List.getElem?_range hi] at hx
    injection hx with hx
    exact hx.symm
  subst hx
  obtain ⟨f, hf2⟩ : ∃ f, n - i = f + 1 := ⟨n - i - 1, by omega⟩
  rw [hf2] at hs
  unfold simL at hs
  walk_at "wx"
  refine wp_rng1 (by rw [List.length_map]; omega) ?_
  rw [List.length_map, show ((R.length : Int)).toNat = R.length from by omega, rng_upto]
  walk_at "wx"
  refine wp_for (fun j ρ ls'' => ls'' = ls' ∧ ∃ l' : List Int, ∃ w3, ρ = [.fz (own R), .ow (.list (l'.map .int)), .fz (.int i), w3, w4, .no, w6] ∧
    w3 ≠ .st ∧ l'.length = R.length ∧ arr i R 0 l = arr i (R.drop j) j l') ?_ ?_ ⟨rfl, l, w3, rfl, n3, hl, rfl⟩
  · rintro j x ρ ls'' hx ⟨rfl, l', w3, rfl, n3, hl', ha2⟩
    have hj : j < R.length := by have := (List.getElem?_eq_some_iff.mp hx).1; rwa [List.length_map, upto_len] at this
    have hx : x = .int j := by
      rw [List.getElem?_map] at hx
      unfold upto at hx
      rw [List.getElem?_map, List.getElem?_range hj] at hx
      injection hx with hx
      exact hx.symm
    subst hx
    have hqq := hR _ (job_mem (R := R) (k := j) (by omega) (by omega))
    have eq : R[j] = job R j := by
      unfold job
      rw [show (j : Int).toNat = j from by omega, List.getD_eq_getElem?_getD, List.getElem?_eq_getElem hj]
      rfl
    rw [List.drop_eq_getElem_cons hj, eq, arr_cons] at ha2
    walk_at "wx"
    refine wp_job (by omega) (by omega) ?_
    walk_at "wx"
    refine wp_e (modP (by omega)) ?_
    walk_at "wx"
    rw [eqv_int]
    refine wp_if (fun c2 => ?_) fun c2 => ?_
    · rw [if_pos (of_decide_eq_true c2)] at ha2
      walk_at "wx"
      refine wp_gtL (by omega) (by omega) ?_
      walk_at "wx"
      refine wp_if (fun c3 => ?_) fun c3 => ?_
      · rw [if_pos (of_decide_eq_true c3)] at ha2
        rw [ha2] at hs
        walk_at "wx"
        exact ⟨rfl, by rw [← hs]; rfl⟩
      · rw [if_neg (of_decide_eq_false c3)] at ha2
        walk_at "wx"
        refine wp_job (by omega) (by omega) ?_
        walk_at "wx"
        refine wp_setI (by omega) (by omega) ?_
        walk_at "wx"
        exact ⟨rfl, l'.set (j : Int).toNat (job R j).1, _, rfl, by walk_at "nsT", by rw [List.length_set]; exact hl', ha2⟩
    · rw [if_neg (of_decide_eq_false c2)] at ha2
      walk_at "wx"
      exact ⟨rfl, l', _, rfl, by walk_at "nsT", hl', ha2⟩
  · rintro ρ ls'' ⟨rfl, l', w3, rfl, n3, hl', ha2⟩
    rw [List.length_map, upto_len, List.drop_length, arr_nil] at ha2
    rw [ha2] at hs
    walk_at "wx"
    refine wp_rng1 (by rw [List.length_map]; omega) ?_
    rw [List.length_map, show ((R.length : Int)).toNat = R.length from by omega]
    walk_at "wx"
    refine wp_lcF (p := fun k => decide (0 < gt l' k)) (h := fun k => ii (key R i k) k) (enc := PyData.int) (rng_upto _) (fun k hk => ?_) (fun k hk hp => ?_) ?_
    · obtain ⟨k0, k1⟩ := upto_mem.mp hk
      walk_at "wx"
      refine wp_gtL (by omega) (by omega) ?_
      walk_at "wx"
      exact ⟨rfl, rfl⟩
    · obtain ⟨k0, k1⟩ := upto_mem.mp hk
      have hj := hR _ (job_mem k0 k1)
      walk_at "wx"
      refine wp_job (by omega) (by omega) ?_
      walk_at "wx"
      refine wp_job (by omega) (by omega) ?_
      walk_at "wx"
      refine wp_e (modP (by omega)) ?_
      walk_at "wx"
      exact ⟨rfl, rfl⟩
    rw [show (upto R.length).filter (fun k => decide (0 < gt l' k)) = ready R l' from rfl]
    replace hs : (match best (key R i) (ready R l') with | none => simL R f (i + 1) l' | some j => simL R f (i + 1) (take1 l' j)) = lated R := hs
    obtain ⟨ys, e1, e2, e3⟩ := sorts_best (f := key R i) (ready_lt R l')
    walk_at "wx"
    refine wp_e (sortedL e1) ?_
    walk_at "wx"
    rw [show cut (ys.map fun k => ii (key R i k) k) none (some 1) = (ys.map fun k => ii (key R i k) k).take 1 from cut_pre _ 1]
    cases ys with
    | nil =>
      rw [← e3] at hs
      replace hs : simL R f (i + 1) l' = lated R := hs
      refine wp_ok ?_
      walk_at "wx"
      exact ⟨rfl, l', _, _, _, _, rfl, by walk_at "nsT", by walk_at "nsT", by walk_at "nsT", by walk_at "nsT", hl', by rw [show n - (i + 1) = f from by omega]; exact hs⟩
    | cons y ys =>
      rw [← e3] at hs
      replace hs : simL R f (i + 1) (take1 l' y) = lated R := hs
      have hbm := ready_mem (best_mem e3.symm)
      refine wp_bind ?_
      walk_at "wx"
      refine wp_gtL (by omega) (by omega) ?_
      walk_at "wx"
      refine wp_setI (by omega) (by omega) ?_
      walk_at "wx"
      refine wp_ok ?_
      walk_at "wx"
      exact ⟨rfl, take1 l' y, _, _, _, _, rfl, by walk_at "nsT", by walk_at "nsT", by walk_at "nsT", by walk_at "nsT", by rw [take1_len]; exact hl', by rw [show n - (i + 1) = f from by omega]; exact hs⟩
/-- a loop that stops where a test fails -/
theorem wp_all {α : Type} {f : PyData → Pv.Env → M Fl} {P : Fl → List PyData → Prop} {E : Ex → List PyData → Prop} {enc : α → PyData} {xs : List α} {items : List PyData} {p : α → Bool} {J : Pv.Env → Prop} {v : PyData} {ls : List PyData} (hi : items = xs.map enc)
    (turn : ∀ x ∈ xs, ∀ ρ, J ρ → Wp (f (enc x) ρ ls) (fun r ls' => ls' = ls ∧ ((p x = true ∧ ∃ ρ', r = .nx ρ' ∧ J ρ') ∨ (p x = false ∧ r = .ret v))) E)
    (h1 : xs.all p = true → ∀ ρ, J ρ → P (.nx ρ) ls) (h2 : xs.all p = false → P (.ret v) ls) {ρ : Pv.Env} (hJ : J ρ) : Wp (loopF f items ρ ls) P E := by
  subst hi
  refine wp_for (fun i ρ ls' => ls' = ls ∧ J ρ ∧ (xs.take i).all p = true) ?_ ?_ ⟨rfl, hJ, by simp⟩
  · rintro i x ρ ls' hx ⟨rfl, hJ, ha⟩
    rw [List.getElem?_map] at hx
    obtain ⟨y, hy, rfl⟩ := Option.map_eq_some_iff.mp hx
    refine wp_imp (turn y (List.mem_of_getElem? hy) ρ hJ) ?_
    rintro r ls2 ⟨rfl, ⟨hp, ρ', rfl, hJ'⟩ | ⟨hp, rfl⟩⟩
    · exact ⟨rfl, hJ', by rw [List.take_add_one, hy, List.all_append, ha]; simp [hp]⟩
    · refine h2 ?_
      rw [← Bool.not_eq_true, List.all_eq_true]
      intro q
      have := q y (List.mem_of_getElem? hy)
      rw [hp] at this
      cases this
  · rintro ρ ls' ⟨rfl, hJ, ha⟩
    rw [List.length_map, List.take_length] at ha
    exact h1 ha ρ hJ
theorem cnt_eq (k : Int) (l : List Int) : ((l.count k : Nat) : Int) = cnt k l := by
  unfold cnt
  rw [List.count_eq_length_filter]
  congr 2
theorem intsOf_map (l : List Int) : intsOf (l.map .int) = some l := by
  induction l with
  | nil => rfl
  | cons i l ih => unfold intsOf; rw [List.map_cons]; simp only []; rw [ih]; rfl
theorem cnt_of (k : Int) (l : List Int) : cntOf (.list (l.map .int)) (.int k) = some (.int (cnt k l)) := by
  show (intsOf (l.map .int)).map _ = _
  rw [intsOf_map, Option.map_some, cnt_eq]
theorem rngs_at {n : Nat} {p : Int} (hn : n ≤ 12) (hp : p = 2 ∨ p = 3 ∨ p = 4 ∨ p = 6) : rngs 0 n p = some (((upto n).filter fun x => decide (x % p = 0)).map .int) := by
  rcases (show n = 0 ∨ n = 1 ∨ n = 2 ∨ n = 3 ∨ n = 4 ∨ n = 5 ∨ n = 6 ∨ n = 7 ∨ n = 8 ∨ n = 9 ∨ n = 10 ∨ n = 11 ∨ n = 12 by omega) with rfl | rfl | rfl | rfl | rfl | rfl | rfl | rfl | rfl | rfl | rfl | rfl | rfl <;> rcases hp with rfl | rfl | rfl | rfl <;> rfl
theorem okJob_iff (l : List Int) (k : Nat) (q : Jb) : okJob l k q = ((upto l.length).filter fun x => decide (x % q.2 = 0)).all fun now => decide (cnt k ((l.drop now.toNat).take q.2.toNat) = q.1) := by
  unfold okJob
  rw [List.all_filter]
theorem win {l : List Int} {s p : Int} (h0 : 0 ≤ s) (hp : 0 ≤ p) : cut (l.map PyData.int) (some s) (some (s + p)) = ((l.drop s.toNat).take p.toNat).map .int := by
  obtain ⟨s, rfl⟩ := Int.eq_ofNat_of_zero_le h0
  obtain ⟨p, rfl⟩ := Int.eq_ofNat_of_zero_le hp
  rw [show ((s : Int) + (p : Int)) = ((s + p : Nat) : Int) from rfl, cut_mid, List.drop_take, show s + p - s = p from by omega]
  show _ = (((l.drop s).take p).map PyData.int)
  rw [List.map_take, List.map_drop]
end K68

set_option maxRecDepth 100000
set_option maxHeartbeats 1000000
namespace K68
open PySem PySem.W Pv
variable {fuel L : Nat} {E : Ex → List PyData → Prop} {ls : List PyData} {R : List Jb}
theorem periodic_ok (z : Fine R) (hf : 1000 ≤ fuel) (hL : 2 ≤ L) (ls : List PyData) : run DD fuel L 22 [own R] ls = .ok (due R).data ls := by
  have h := periodic_wp (fuel := fuel) (L := L) z.near hf hL ls
  rw [own_rows] at h
  cases e : run DD fuel L 22 [own R] ls with
  | ok d ls' =>
    rw [e] at h
    obtain ⟨rfl, S, hS, _, _, _, rfl⟩ := h.okI
    cases jr_inj hS
    rfl
  | exn x ls' =>
    rw [e] at h
    obtain ⟨_, ⟨_, h | h⟩ | ⟨_, S, hS, h⟩⟩ := h.exI
    · exact absurd (List.map_eq_nil_iff.mp h) z.ne
    · rw [jr_bad fun q hq => ⟨(pr_bd (z.pr q hq)).1, (pr_bd (z.pr q hq)).2.1⟩] at h
      cases h
    · cases jr_inj hS
      rw [z.rr] at h
      have := (rnd_bd z.pr).2.1
      omega
  | stuck => rw [e] at h; exact h.stI.elim
/-- what is right -/
def Good (R : List Jb) (d : PyData) : Prop := match due R with
  | .late k n => d = (Due.late k n).data
  | .slots _ => ∃ l, d = (Due.slots l).data ∧ okSlots R l = true
theorem late_ne {a b : PyData} {l : List Int} : PyData.tuple [.str "late", a, b] ≠ (Due.slots l).data := fun h => by injection h with h; injection h with _ h; injection h with _ h; cases h
theorem slots_ne {a : PyData} {k n : Int} : PyData.tuple [.str "slots", a] ≠ (Due.late k n).data := fun h => by injection h with h; injection h with _ h; injection h with _ h; cases h
theorem late_inj {a b k n : Int} : PyData.tuple [.str "late", .int a, .int b] = (Due.late k n).data ↔ a = k ∧ b = n := by
  constructor
  · intro h
    injection h with h
    injection h with _ h
    injection h with h1 h
    injection h with h2 h
    injection h1 with h1
    injection h2 with h2
    exact ⟨h1, h2⟩
  · rintro ⟨rfl, rfl⟩; rfl
theorem slots_inj {l m : List Int} (h : PyData.tuple [.str "slots", row l] = (Due.slots m).data) : l = m := by
  injection h with h
  injection h with _ h
  injection h with h
  injection h with h
  exact map_int_inj.mp h
theorem eqv_late {a b k n : Int} : PyData.eqv (.tuple [.str "late", .int a, .int b]) (Due.late k n).data = (decide (a = k) && decide (b = n)) := by
  show (PyData.eqv (.str "late") (.str "late") && (PyData.eqv (.int a) (.int k) && (PyData.eqv (.int b) (.int n) && true))) = _
  rw [eqv_int, eqv_int, Bool.and_true, show PyData.eqv (.str "late") (.str "late") = true from by decide +kernel, Bool.true_and]
theorem eqv_ls {a b : PyData} {m : List Int} : PyData.eqv (.tuple [.str "late", a, b]) (Due.slots m).data = false := by
  show (PyData.eqv (.str "late") (.str "slots") && PyData.eqvAll [a, b] [row m]) = false
  rw [show PyData.eqv (.str "late") (.str "slots") = false from by decide +kernel, Bool.false_and]
theorem ne_ls : cmpop .NotEq (.str "late") (.str "slots") = some true := by decide +kernel
theorem ne_ss : cmpop .NotEq (.str "slots") (.str "slots") = some false := by decide +kernel
theorem Fine.late (z : Fine R) {k n : Int} (h : due R = .late k n) : lated R = some (k, n) := by
  have := z.chk
  unfold K68.chk at this
  rw [h, Bool.and_eq_true] at this
  exact of_decide_eq_true this.2
theorem Fine.slots (z : Fine R) {m : List Int} (h : due R = .slots m) : lated R = none ∧ okSlots R m = true := by
  have := z.chk
  unfold K68.chk at this
  rw [h, Bool.and_eq_true] at this
  have := this.2
  rw [Bool.and_eq_true] at this
  exact ⟨of_decide_eq_true this.1, this.2⟩
theorem good_late {k n : Int} (h : due R = .late k n) {d : PyData} : Good R d ↔ d = (Due.late k n).data := by unfold Good; rw [h]
theorem good_slots {m : List Int} (h : due R = .slots m) {d : PyData} : Good R d ↔ ∃ l, d = (Due.slots l).data ∧ okSlots R l = true := by unfold Good; rw [h]
theorem good_not (z : Fine R) {a b : PyData} (h : areWholes (.tuple [a, b]) 2 = false) : ¬Good R (.tuple [.str "late", a, b]) := by
  intro g
  cases hd : due R with
  | late k n =>
    rw [good_late hd] at g
    injection g with g
    injection g with _ g
    injection g with h1 g
    injection g with h2 g
    subst h1 h2
    cases h
  | slots m =>
    rw [good_slots hd] at g
    obtain ⟨l, e, _⟩ := g
    exact late_ne e
theorem good_none {d : PyData} (h1 : isTold d "late" 3 = false) (h2 : isTold d "slots" 2 = false) : ¬Good R d := by
  intro g
  cases hd : due R with
  | late k n =>
    rw [good_late hd] at g
    rw [g] at h1
    cases h1
  | slots m =>
    rw [good_slots hd] at g
    obtain ⟨l, e, _⟩ := g
    rw [e] at h2
    cases h2
theorem ok_len {l : List Int} (h : okSlots R l = true) : (l.length : Int) = rnd R := by
  unfold okSlots at h
  rw [Bool.and_eq_true, Bool.and_eq_true, decide_eq_true_iff] at h
  exact h.1.1
theorem wholes_row (ps : List Int) : areWholes (row ps) ps.length = true := by
  show (decide ((ps.map PyData.int).length = ps.length) && (ps.map PyData.int).all isInt) = true
  rw [List.length_map, decide_eq_true rfl, Bool.true_and, List.all_eq_true]
  intro x hx
  obtain ⟨i, _, rfl⟩ := List.mem_map.mp hx
  rfl
theorem good_ok {l m : List Int} (hd : due R = .slots m) : Good R (.tuple [.str "slots", row l]) ↔ okSlots R l = true := by
  rw [good_slots hd]
  exact ⟨fun ⟨l', e, h⟩ => by cases slots_inj e; exact h, fun h => ⟨l, rfl, h⟩⟩
theorem pr_per {q : Jb} (h : q ∈ prs) : q.2 = 2 ∨ q.2 = 3 ∨ q.2 = 4 ∨ q.2 = 6 := by
  unfold prs at h
  simp only [List.mem_cons, List.not_mem_nil, or_false] at h
  rcases h with rfl | rfl | rfl | rfl | rfl | rfl | rfl | rfl <;> decide
theorem good_whole (z : Fine R) {m : List Int} (hd : due R = .slots m) {a : PyData} (g : Good R (.tuple [.str "slots", a])) : areWholes a m.length = true := by
  rw [good_slots hd] at g
  obtain ⟨l, e, h⟩ := g
  injection e with e
  injection e with _ e
  injection e with e
  subst e
  have h1 := ok_len h
  have h2 := ok_len (z.slots hd).2
  rw [show m.length = l.length from by omega]
  exact wholes_row l
theorem judge_run (z : Fine R) (hf : 1000 ≤ fuel) (hL : 4 ≤ L) {d : PyData} (gd : Sm d) (gdue : Sm (due R).data) (ls : List PyData) :
    ∃ b, (b = true ↔ Good R d) ∧ run DD fuel L 24 [own R, d] ls = .ok (.bool b) ls := by
  classical
  obtain ⟨L, rfl⟩ := Nat.exists_eq_add_of_le' (show 1 ≤ L by omega)
  have hR : ∀ q ∈ R, 0 < q.1 ∧ q.1 ≤ q.2 ∧ q.2 ≤ 6 ∧ q.1 ≤ 2 ∧ 12 % q.2 = 0 := fun q hq => pr_bd (z.pr q hq)
  refine ⟨decide (Good R d), by simp, run_is (d := D_judge_periodic) rfl rfl (by omega) fun L' e' => ?_⟩
  cases (show L' = L by omega)
  have no : (Good R d → False) → PyData.bool false = .bool (decide (Good R d)) := fun h => by rw [decide_eq_false h]
  unfold runB
  walk_at "wx"
  refine wp_of (periodic_ok z hf (by omega) _) ?_
  walk_at "wx"
  refine wp_of (told_run (D := DD) rfl (m := 3) (by omega) (by decide +kernel) (by decide) gd _) ?_
  cases ct : isTold d "late" 3 with
  | true =>
    obtain ⟨a, b, rfl⟩ := isTold3 ct
    walk_at "wx"
    refine wp_of (wholes_run (D := DD) (d := .tuple [a, b]) (m := 2) rfl rfl (by omega) _) ?_
    cases cb : areWholes (.tuple [a, b]) 2 with
    | false =>
      walk_at "wx"
      exact ⟨rfl, no (good_not z cb)⟩
    | true =>
      obtain ⟨ps, e1, hps⟩ := areWholes_of cb
      match ps, hps, e1 with
      | [x, y], _, e1 =>
        injection e1 with e1
        injection e1 with h1 e1
        injection e1 with h2
        subst h1 h2
        walk_at "wx"
        have g1 : Gd 101 2100 2500 12 (.tuple [.str "late", .int x, .int y]) := by rcases gd with g | g; exact g; cases g
        have g2 : Gd 101 2100 2500 12 (due R).data := by
          rcases gdue with g | g
          · exact g
          · cases hd : due R <;> rw [hd] at g <;> cases g
        refine wp_cmp (eqG g1 g2 (by decide) (by decide)) ?_
        walk_at "wx"
        refine ⟨rfl, ?_⟩
        congr 1
        cases hd : due R with
        | late k n =>
          rw [eqv_late, Bool.eq_iff_iff, Bool.and_eq_true, decide_eq_true_iff, decide_eq_true_iff, decide_eq_true_iff, good_late hd, late_inj]
        | slots m =>
          rw [eqv_ls]
          refine (decide_eq_false fun g => ?_).symm
          rw [good_slots hd] at g
          obtain ⟨l, e, _⟩ := g
          exact late_ne e
  | false =>
    walk_at "wx"
    refine wp_of (told_run (D := DD) rfl (m := 2) (by omega) (by decide +kernel) (by decide) gd _) ?_
    cases cs : isTold d "slots" 2 with
    | false =>
      walk_at "wx"
      exact ⟨rfl, no (good_none ct cs)⟩
    | true =>
      obtain ⟨a, rfl⟩ := isTold2 cs
      cases hd : due R with
      | late k n =>
        walk_at "wx"
        refine wp_cmp ne_ls ?_
        walk_at "wx"
        exact ⟨rfl, no fun g => slots_ne ((good_late hd).mp g)⟩
      | slots m =>
        walk_at "wx"
        refine wp_cmp ne_ss ?_
        walk_at "wx"
        rw [List.length_map]
        refine wp_of (wholes_run (D := DD) (d := a) (m := m.length) rfl rfl (by omega) _) ?_
        cases ca : areWholes a m.length with
        | false =>
          walk_at "wx"
          refine ⟨rfl, no fun g => ?_⟩
          rw [good_whole z hd g] at ca
          cases ca
        | true =>
          obtain ⟨l, rfl, hl⟩ := areWholes_of ca
          walk_at "wx"
          have hm := ok_len (z.slots hd).2
          have hb := rnd_bd z.pr
          have ha : okSlots R l = (l.all (fun x => decide (-1 ≤ x) && decide (x < R.length)) && (upto R.length).all fun k => okJob l k.toNat (job R k)) := by
            unfold okSlots
            rw [decide_eq_true (show (l.length : Int) = rnd R by omega), Bool.true_and]
          refine wp_all (p := fun k => okJob l k.toNat (job R k)) (v := .bool false) (J := fun ρ => ∃ w3 w4 w5 w6, ρ = [.fz (own R), .fz (.tuple [.str "slots", row l]), .fz (Due.slots m).data, w3, w4, w5, w6] ∧ w3 ≠ .st ∧ w4 ≠ .st ∧ w5 ≠ .st ∧ w6 ≠ .st)
            (enum_g ((1, 1) : Jb) (fun q => ii q.1 q.2) R) ?_ ?_ ?_ ⟨_, _, _, _, rfl, by walk_at "nsT", by walk_at "nsT", by walk_at "nsT", by walk_at "nsT"⟩
          · rintro k hk ρ ⟨w3, w4, w5, w6, rfl, n3, n4, n5, n6⟩
            obtain ⟨k0, k1⟩ := upto_mem.mp hk
            have hj := hR _ (job_mem k0 k1)
            have hp := pr_per (z.pr _ (job_mem k0 k1))
            rw [show R.getD k.toNat (1, 1) = job R k from rfl]
            walk_at "wx"
            rw [List.length_map]
            refine wp_e (rngs_at (by omega) hp) ?_
            rw [okJob_iff]
            refine wp_all (p := fun now => decide (cnt k.toNat ((l.drop now.toNat).take (job R k).2.toNat) = (job R k).1)) (v := .bool false) (J := fun ρ => ∃ w4, ρ = [.fz (own R), .fz (.tuple [.str "slots", row l]), .fz (Due.slots m).data, .fz (.int k), w4, .fz (.int (job R k).1), .fz (.int (job R k).2)] ∧ w4 ≠ .st)
              rfl ?_ ?_ ?_ ⟨_, rfl, by walk_at "nsT"⟩
            · rintro s hs ρ ⟨w4, rfl, n4⟩
              obtain ⟨s0, s1⟩ := upto_mem.mp (List.mem_filter.mp hs).1
              walk_at "wx"
              rw [win s0 (by omega)]
              refine wp_e (cnt_of _ _) ?_
              walk_at "wx"
              rw [eqv_int]
              rw [show ((k.toNat : Nat) : Int) = k from by omega]
              refine wp_if (fun c => ?_) fun c => ?_
              · walk_at "wx"
                rw [Bool.not_eq_true', decide_eq_false_iff_not] at c
                exact ⟨rfl, .inr ⟨decide_eq_false c, rfl⟩⟩
              · walk_at "wx"
                rw [Bool.not_eq_false', decide_eq_true_iff] at c
                exact ⟨rfl, .inl ⟨decide_eq_true c, _, rfl, _, rfl, by walk_at "nsT"⟩⟩
            · rintro hall ρ ⟨w4, rfl, n4⟩
              walk_at "wx"
              exact ⟨rfl, .inl ⟨hall, _, rfl, _, _, _, _, rfl, by walk_at "nsT", by walk_at "nsT", by walk_at "nsT", by walk_at "nsT"⟩⟩
            · intro hall
              walk_at "wx"
              exact ⟨rfl, .inr ⟨hall, rfl⟩⟩
          · rintro hall ρ ⟨w3, w4, w5, w6, rfl, n3, n4, n5, n6⟩
            rw [hall, Bool.and_true] at ha
            walk_at "wx"
            refine wp_lcM (h := fun x => .bool (!(decide (-1 ≤ x) && decide (x < R.length)))) (enc := PyData.int) rfl (fun _ => rfl) (fun x hx => ?_) ?_
            · walk_at "wx"
              refine wp_if (fun c => ?_) fun c => ?_
              · walk_at "wx"
                rw [show (decide (-1 ≤ x)) = true from c, List.length_map]
                exact ⟨rfl, rfl⟩
              · walk_at "wx"
                rw [show (decide (-1 ≤ x)) = false from c]
                exact ⟨rfl, rfl⟩
            walk_at "wx"
            refine ⟨rfl, ?_⟩
            congr 1
            rw [Bool.eq_iff_iff, decide_eq_true_iff, good_ok hd, ha, List.not_any_eq_all_not]
            simp only [Bool.not_not]
          · intro hall
            rw [hall, Bool.and_false] at ha
            walk_at "wx"
            refine ⟨rfl, no fun g => ?_⟩
            rw [good_ok hd, ha] at g
            cases g
end K68

set_option maxRecDepth 100000
set_option maxHeartbeats 1000000
namespace K68
open PySem PySem.W Pv
variable {fuel L : Nat} {E : Ex → List PyData → Prop} {ls : List PyData} {R : List Jb}
theorem count_run {l : List Int} {k : Int} (hL : 1 ≤ L) (ls : List PyData) : run DD fuel L 25 [row l, .int k] ls = .ok (.int (cnt k l)) ls := by
  refine run_is (d := D_w_count) rfl rfl hL fun L' _ => ?_
  unfold runB
  walk_at "wx"
  refine wp_lcF (p := fun x => decide (x = k)) (h := fun _ => .int 1) (enc := PyData.int) rfl (fun x hx => ?_) (fun x hx hp => ?_) ?_
  · walk_at "wx"
    rw [eqv_int]
    exact ⟨rfl, rfl⟩
  · walk_at "wx"; exact ⟨rfl, rfl⟩
  walk_at "wx"
  rw [List.length_map]
  exact ⟨rfl, rfl⟩
theorem all_guard {α : Type} (p q : α → Bool) (xs : List α) : (xs.filter p).all q = xs.all fun x => !p x || q x := List.all_filter
theorem acc_run (z : Fine R) (hL : 16 ≤ L) {d : PyData} (gd : Sm d) (gdue : Sm (due R).data) (ls : List PyData) :
    ∃ b, (b = true ↔ Good R d) ∧ run DD fuel L 28 [own R, d] ls = .ok (.bool b) ls := by
  classical
  obtain ⟨L, rfl⟩ := Nat.exists_eq_add_of_le' (show 1 ≤ L by omega)
  have hR : ∀ q ∈ R, 0 < q.1 ∧ q.1 ≤ q.2 ∧ q.2 ≤ 6 ∧ q.1 ≤ 2 ∧ 12 % q.2 = 0 := fun q hq => pr_bd (z.pr q hq)
  refine ⟨decide (Good R d), by simp, run_is (d := D_w_accepts) rfl rfl (by omega) fun L' e' => ?_⟩
  cases (show L' = L by omega)
  have no : (Good R d → False) → PyData.bool false = .bool (decide (Good R d)) := fun h => by rw [decide_eq_false h]
  have l3 := z.l3
  unfold runB
  walk_at "wx"
  refine wp_of (late_run z (by omega) _) ?_
  cases hd : due R with
  | late k n =>
    rw [z.late hd]
    walk_at "wx"
    have g2 : Gd 101 2100 2500 12 (Due.late k n).data := by
      rw [hd] at gdue
      rcases gdue with g | g
      · exact g
      · cases g
    refine wp_imp (same_run sh (b := 101) (s := 2100) (l := 2500) (n := 12) (by decide) (by omega) _ _ _ _ gd g2) ?_
    rintro r ls2 ⟨rfl, b, rfl, hb⟩
    walk_at "wx"
    refine ⟨rfl, ?_⟩
    congr 1
    rw [Bool.eq_iff_iff, hb, decide_eq_true_iff, good_late hd]
    exact Iff.rfl
  | slots m =>
    rw [(z.slots hd).1]
    have hm := ok_len (z.slots hd).2
    have hb := rnd_bd z.pr
    walk_at "wx"
    refine wp_of (lis_run (D := DD) rfl (m := 2) (by omega) (by decide +kernel) (by decide) gd _) ?_
    cases cs : isTold d "slots" 2 with
    | false =>
      walk_at "wx"
      refine ⟨rfl, no fun g => ?_⟩
      rw [good_slots hd] at g
      obtain ⟨l, e, _⟩ := g
      rw [e] at cs
      cases cs
    | true =>
      obtain ⟨a, rfl⟩ := isTold2 cs
      have g : Gd 101 2100 2500 (11 + 1) (.tuple [.str "slots", a]) := by rcases gd with g | g; exact g; cases g
      have ga : Gd 101 2100 2500 11 a := g.2 a (by simp)
      walk_at "wx"
      refine wp_of (rnd_run z (by omega) _) ?_
      walk_at "wx"
      rw [← hm]
      refine wp_of (lwholes_run (D := DD) rfl rfl (by omega) ga (by omega) m.length _) ?_
      cases ca : areWholes a m.length with
      | false =>
        walk_at "wx"
        refine ⟨rfl, no fun g => ?_⟩
        rw [good_whole z hd g] at ca
        cases ca
      | true =>
        obtain ⟨l, rfl, hl⟩ := areWholes_of ca
        have ha : okSlots R l = (l.all (fun x => decide (-1 ≤ x) && decide (x < R.length)) && (upto R.length).all fun k => okJob l k.toNat (job R k)) := by
          unfold okSlots
          rw [decide_eq_true (show (l.length : Int) = rnd R by omega), Bool.true_and]
        walk_at "wx"
        refine wp_lcF (p := fun x => !(decide (-1 ≤ x) && decide (x < R.length))) (h := fun x => .int x) (enc := PyData.int) rfl (fun x hx => ?_) (fun x hx hp => ?_) ?_
        · walk_at "wx"
          refine wp_if (fun c => ?_) fun c => ?_
          · walk_at "wx"
            rw [show (decide (-1 ≤ x)) = true from c, List.length_map]
            exact ⟨rfl, rfl⟩
          · walk_at "wx"
            rw [show (decide (-1 ≤ x)) = false from c]
            exact ⟨rfl, rfl⟩
        · walk_at "wx"; exact ⟨rfl, rfl⟩
        walk_at "wx"
        rw [filter_no]
        refine wp_if (fun c => ?_) fun c => ?_
        · walk_at "wx"
          refine ⟨rfl, no fun g => ?_⟩
          rw [good_ok hd, ha, Bool.and_eq_true] at g
          rw [g.1] at c
          cases c
        · rw [Bool.not_eq_false'] at c
          rw [c, Bool.true_and] at ha
          walk_at "wx"
          refine wp_rng1 (by rw [List.length_map]; omega) ?_
          rw [List.length_map, show ((R.length : Int)).toNat = R.length from by omega]
          walk_at "wx"
          refine wp_all (p := fun k => okJob l k.toNat (job R k)) (v := .bool false) (J := fun ρ => ∃ w3 w4, ρ = [.fz (own R), .fz (.tuple [.str "slots", row l]), .fz .none, w3, w4, .no, .no] ∧ w3 ≠ .st ∧ w4 ≠ .st)
            (rng_upto _) ?_ ?_ ?_ ⟨_, _, rfl, by walk_at "nsT", by walk_at "nsT"⟩
          · rintro k hk ρ ⟨w3, w4, rfl, n3, n4⟩
            obtain ⟨k0, k1⟩ := upto_mem.mp hk
            have hj := hR _ (job_mem k0 k1)
            walk_at "wx"
            refine wp_rng1 (by rw [List.length_map]; omega) ?_
            rw [List.length_map, show ((l.length : Int)).toNat = l.length from by omega]
            walk_at "wx"
            refine wp_lcF (p := fun now => decide (now % (job R k).2 = 0)) (h := fun x => .int x) (enc := PyData.int) (rng_upto _) (fun now hn => ?_) (fun now hn hp => ?_) ?_
            · walk_at "wx"
              refine wp_job (by omega) (by omega) ?_
              walk_at "wx"
              refine wp_e (modP (by omega)) ?_
              walk_at "wx"
              rw [eqv_int]
              exact ⟨rfl, rfl⟩
            · walk_at "wx"; exact ⟨rfl, rfl⟩
            walk_at "wx"
            refine wp_lcF (p := fun now => !decide (cnt k ((l.drop now.toNat).take (job R k).2.toNat) = (job R k).1)) (h := fun x => .int x) (enc := fun x => PyData.int x) rfl (fun now hn => ?_) (fun now hn hp => ?_) ?_
            · obtain ⟨s0, s1⟩ := upto_mem.mp (List.mem_filter.mp hn).1
              walk_at "wx"
              refine wp_job (by omega) (by omega) ?_
              walk_at "wx"
              rw [win s0 (by omega)]
              refine wp_of (count_run (by omega) _) ?_
              walk_at "wx"
              refine wp_job (by omega) (by omega) ?_
              walk_at "wx"
              rw [eqv_int]
              exact ⟨rfl, rfl⟩
            · walk_at "wx"; exact ⟨rfl, rfl⟩
            walk_at "wx"
            rw [filter_no]
            have hk2 := okJob_iff l k.toNat (job R k)
            rw [show ((k.toNat : Nat) : Int) = k from by omega] at hk2
            rw [← hk2]
            refine wp_if (fun c => ?_) fun c => ?_
            · walk_at "wx"
              rw [Bool.not_eq_true'] at c
              exact ⟨rfl, .inr ⟨c, rfl⟩⟩
            · walk_at "wx"
              rw [Bool.not_eq_false'] at c
              exact ⟨rfl, .inl ⟨c, _, rfl, _, _, rfl, by walk_at "nsT", by walk_at "nsT"⟩⟩
          · rintro hall ρ ⟨w3, w4, rfl, n3, n4⟩
            walk_at "wx"
            refine ⟨rfl, ?_⟩
            rw [decide_eq_true ((good_ok hd).mpr (ha.trans hall))]
          · intro hall
            walk_at "wx"
            refine ⟨rfl, no fun g => ?_⟩
            rw [good_ok hd, ha, hall] at g
            cases g
end K68

set_option maxRecDepth 100000
set_option maxHeartbeats 2000000
namespace K68
open PySem PySem.W Pv
abbrev fuel : Nat := 1000
abbrev level : Nat := 50
variable {L : Nat} {E : Ex → List PyData → Prop} {ls : List PyData} {R : List Jb}
theorem arr_bd {now : Int} : ∀ {R : List Jb} {k j : Nat} {l : List Int}, arr now R k l = .inl j → j < k + R.length
  | [], _, _, _, h => by cases h
  | q :: R, k, j, l, h => by
    rw [arr_cons] at h
    rw [List.length_cons]
    split at h
    · split at h
      · cases h; omega
      · have := arr_bd h; omega
    · have := arr_bd h; omega
def DueOk (R : List Jb) (n : Int) : Due → Prop
  | .late k m => 0 ≤ k ∧ k < R.length ∧ 0 ≤ m ∧ m ≤ n
  | .slots l => (l.length : Int) ≤ n ∧ ∀ i ∈ l, -1 ≤ i ∧ i < R.length
theorem sim_ok : ∀ {f now : Nat} {l acc : List Int}, (∀ i ∈ acc, -1 ≤ i ∧ i < R.length) → acc.length = now → DueOk R ((now + f : Nat) : Int) (sim R f now l acc)
  | 0, now, l, acc, ha, hn => by
    unfold sim
    cases h : ready R l with
    | nil => exact ⟨by omega, ha⟩
    | cons k ks =>
      have := ready_mem (R := R) (l := l) (k := k) (by rw [h]; exact List.mem_cons_self)
      exact ⟨this.1, this.2.1, by omega, by omega⟩
  | f + 1, now, l, acc, ha, hn => by
    unfold sim
    have e : now + (f + 1) = now + 1 + f := by omega
    cases h : arr now R 0 l with
    | inl k => have := arr_bd h; exact ⟨by omega, by omega, by omega, by omega⟩
    | inr l' =>
      simp only
      rw [e]
      cases h2 : best (key R now) (ready R l') with
      | none =>
        simp only
        refine sim_ok (fun i hi => ?_) (by rw [List.length_append, hn]; rfl)
        rcases List.mem_append.mp hi with hi | hi
        · exact ha i hi
        · rw [List.mem_singleton] at hi; subst hi; exact ⟨by omega, by omega⟩
      | some j =>
        simp only
        have hj := ready_mem (best_mem h2)
        refine sim_ok (fun i hi => ?_) (by rw [List.length_append, hn]; rfl)
        rcases List.mem_append.mp hi with hi | hi
        · exact ha i hi
        · rw [List.mem_singleton] at hi; subst hi; exact ⟨by omega, by omega⟩
theorem due_ok (h : 0 ≤ round R) : DueOk R (round R) (due R) := by
  have := sim_ok (R := R) (f := (round R).toNat) (now := 0) (l := R.map fun _ => 0) (acc := []) (fun i h => by cases h) rfl
  rw [show ((0 + (round R).toNat : Nat) : Int) = round R from by omega] at this
  exact this
theorem due_sm {n : Int} {d : Due} (h : DueOk R n d) (hn : n ≤ 120) (hR : R.length ≤ 5) : Sm d.data := by
  refine .inl ?_
  cases d with
  | late k m =>
    obtain ⟨h1, h2, h3, h4⟩ := h
    refine .tup ⟨show 3 ≤ 2500 by decide, fun x hx => ?_⟩
    simp only [List.mem_cons, List.not_mem_nil, or_false] at hx
    rcases hx with rfl | rfl | rfl
    · exact .str (SG.ofString (by decide))
    · exact .int (by omega)
    · exact .int (by omega)
  | slots l =>
    obtain ⟨h1, h2⟩ := h
    refine .tup ⟨show 2 ≤ 2500 by decide, fun x hx => ?_⟩
    simp only [List.mem_cons, List.not_mem_nil, or_false] at hx
    rcases hx with rfl | rfl
    · exact .str (SG.ofString (by decide))
    · exact .tup (.map (by omega) fun i hi => .int (by have := h2 i hi; omega))
theorem due_told {n : Int} {d : Due} (h : DueOk R n d) (hn : n ≤ 20) (hR : R.length ≤ 5) : ∃ xs, d.data = .tuple xs ∧ ToldG xs := by
  cases d with
  | late k m =>
    obtain ⟨h1, h2, h3, h4⟩ := h
    refine ⟨_, rfl, told_mk (w := "late") (by decide) (show 2 ≤ 9 by decide) fun x hx => ?_⟩
    simp only [List.mem_cons, List.not_mem_nil, or_false] at hx
    rcases hx with rfl | rfl
    · exact told_int (by omega)
    · exact told_int (by omega)
  | slots l =>
    obtain ⟨h1, h2⟩ := h
    refine ⟨_, rfl, told_mk (w := "slots") (by decide) (show 1 ≤ 9 by decide) fun x hx => ?_⟩
    simp only [List.mem_cons, List.not_mem_nil, or_false] at hx
    subst hx
    exact told_row (fun i hi => by have := h2 i hi; omega) (by omega)
theorem tot {rs : List (List Int)} (z : NearJ rs) (hL : 2 ≤ L) : Tot DD fuel L 22 [rows rs] := fun ls => by
  refine Wp.imp (periodic_wp z (Nat.le_refl _) hL ls) ?_ ?_
  · rintro d ls' ⟨rfl, R, rfl, ne, hR, h120, rfl⟩
    have l5 : R.length ≤ 5 := by have := z.l5; rwa [List.length_map] at this
    have hr0 := (round_le hR l5 R.length).1
    rw [List.take_length] at hr0
    exact ⟨due_sm (due_ok (by omega)) h120 l5, rfl⟩
  · rintro x ls' ⟨h, _⟩; exact h
theorem unfit {rs : List (List Int)} (z : NearJ rs) (b : rs = [] ∨ rs.any bad = true) (hL : 2 ≤ L) (ls : List PyData) : run DD fuel L 22 [rows rs] ls = .exn .unfit ls := by
  have h := periodic_wp (fuel := fuel) (L := L) z (Nat.le_refl _) hL ls
  have no : ∀ R : List Jb, rs = jr R → R ≠ [] → (∀ q ∈ R, 0 < q.1 ∧ q.1 ≤ q.2) → False := fun R e ne hR => by
    subst e
    rcases b with b | b
    · exact ne (List.map_eq_nil_iff.mp b)
    · rw [jr_bad hR] at b; cases b
  cases e : run DD fuel L 22 [rows rs] ls with
  | ok d ls' =>
    rw [e] at h
    obtain ⟨_, S, hS, ne, hR, _⟩ := h.okI
    exact (no S hS ne fun q hq => ⟨(hR q hq).1, (hR q hq).2.1⟩).elim
  | exn x ls' =>
    rw [e] at h
    obtain ⟨rfl, ⟨rfl, _⟩ | ⟨_, S, hS, ne, hR, _⟩⟩ := h.exI
    · rfl
    · exact (no S hS ne hR).elim
  | stuck => rw [e] at h; exact h.stI.elim
theorem unfit_run {rs : List (List Int)} (z : NearJ rs) (b : rs = [] ∨ rs.any bad = true) (hL : 6 ≤ L) (ls : List PyData) : run DD fuel L 30 [rows rs] ls = .ok (.bool true) ls := by
  obtain ⟨L, rfl⟩ := Nat.exists_eq_add_of_le' (show 1 ≤ L by omega)
  refine unfit1_run (f := 22) (j := 24) rfl (fun ls => unfit z b (by omega) ls) (fun ls => run_ra (d := D_judge_periodic) rfl rfl (by omega) fun L' e => ?_) ls
  unfold runB
  walk_at "wx"
  refine wp_ex (unfit z b (by omega) ls) ?_
  exact ⟨rfl, rfl⟩
abbrev P0 := TupN (TupOf (IntR 1 6) 2) 3
abbrev P1 := TupN (TupOf (IntR (1 - 1) (6 + 1)) 2) 3
theorem p_near : NearOk DD fuel P0 P1 4 := NearOk.tupN (b := 10) (s := 0) (l := 10) (n := 2) sh (fun x h => TupOf.gd (fun y hy => IntR.gd (by decide) (by decide) hy) (by decide) h) (by decide) (by decide) (by decide) (by decide)
  (NearOk.tup (b := 10) (s := 0) (l := 10) (n := 0) sh (fun x h => IntR.gd (by decide) (by decide) h) (by decide) (by decide) (by decide) (by decide) (NearOk.int sh))
theorem TupN.rows' {lo hi : Int} {k m : Nat} {d : PyData} (h : TupN (TupOf (IntR lo hi) k) m d) : ∃ rs : List (List Int), d = rows rs ∧ rs ≠ [] ∧ rs.length ≤ m ∧ ∀ r ∈ rs, r.length ≤ k ∧ ∀ i ∈ r, lo ≤ i ∧ i ≤ hi := by
  obtain ⟨xs, e, t, ne⟩ := h
  obtain ⟨rs, e2, l, b⟩ := (show TupOf (TupOf (IntR lo hi) k) m d from ⟨xs, e, t⟩).rows
  subst e2
  injection e with e
  exact ⟨rs, rfl, fun z => ne (by rw [← e, z]; rfl), l, b⟩
theorem Fine.p0 (z : Fine R) : P0 (own R) := by
  refine ⟨_, rfl, ⟨by rw [List.length_map]; exact z.l3, fun x hx => ?_⟩, by simpa using z.ne⟩
  obtain ⟨q, hq, rfl⟩ := List.mem_map.mp hx
  have := pr_bd (z.pr q hq)
  refine ⟨_, rfl, Nat.le_refl 2, fun y hy => ?_⟩
  simp only [List.mem_cons, List.not_mem_nil, or_false] at hy
  rcases hy with rfl | rfl
  · exact ⟨_, rfl, by omega, by omega⟩
  · exact ⟨_, rfl, by omega, by omega⟩
theorem near_run (z : Fine R) (hL : 6 ≤ L) (hs : StG ls) : Wp (run DD fuel L 29 [own R] ls) NearQ E :=
  near1_run sh (f := 22) rfl p_near (by omega) (by omega) z.p0 (fun L' h a ha => by
    obtain ⟨rs, rfl, ne, l, b⟩ := TupN.rows' ha
    exact tot ⟨by omega, fun r hr => (b r hr).1, fun r hr i hi => by have := (b r hr).2 i hi; omega⟩ (by omega)) hs
theorem NearJ.nil : NearJ [] := ⟨Nat.zero_le _, (fun r h => by cases h), (fun r h => by cases h)⟩
theorem NearJ.snoc (z : Fine R) {r : List Int} (hr : r.length ≤ 2 ∧ ∀ i ∈ r, i ≤ 12) : NearJ (jr R ++ [r]) := ⟨by rw [List.length_append, List.length_map]; have := z.l3; simp; omega, fun q hq => by
    rcases List.mem_append.mp hq with hq | hq
    · exact z.near.r2 q hq
    · rw [List.mem_singleton] at hq; subst hq; exact hr.1, fun q hq => by
    rcases List.mem_append.mp hq with hq | hq
    · exact z.near.bd q hq
    · rw [List.mem_singleton] at hq; subst hq; exact hr.2⟩
theorem four_at {k : Int} (h0 : 0 ≤ k) (h1 : k < 4) : ∃ p : Int, L2.atI [PyData.int 2, .int 3, .int 4, .int 6] k = some (.int p) ∧ (p = 2 ∨ p = 3 ∨ p = 4 ∨ p = 6) := by
  rcases (show k = 0 ∨ k = 1 ∨ k = 2 ∨ k = 3 by omega) with rfl | rfl | rfl | rfl
  · exact ⟨2, rfl, by decide⟩
  · exact ⟨3, rfl, by decide⟩
  · exact ⟨4, rfl, by decide⟩
  · exact ⟨6, rfl, by decide⟩
/-- the env between the turns -/
def InvL (ρ : Pv.Env) : Prop := ∃ s1 w3 w4 w5 w6 w7 w8, ρ = [.no, .st, .fz s1, w3, w4, w5, w6, w7, w8] ∧ Seen s1 ∧ w3 ≠ .st ∧ w4 ≠ .st ∧ w5 ≠ .st ∧ w6 ≠ .st ∧ w7 ≠ .st ∧ w8 ≠ .st
theorem law_run : ∀ ns : List Int, ns.length ≤ 63 → ∃ ls', exs (run DD fuel level) fuel b_the_law (envL lawN.length lawI) (ls0 ns) = .ok (.ret (.bool true)) ls' := by
  classical
  intro ns hns
  apply law_of
  generalize hL : level = L
  have hL : 50 ≤ L := by have : level = 50 := rfl; omega
  walk_at "wk"
  refine wp_for (fun i ρ ls' => StG ls' ∧ InvL ρ) ?_ ?_ (ρ := [.no, .st, .fz (.list []), .no, .no, .no, .no, .no, .no]) ⟨StG.start ns, _, _, _, _, _, _, _, rfl, .nil, by walk_at "nsT", by walk_at "nsT", by walk_at "nsT", by walk_at "nsT", by walk_at "nsT", by walk_at "nsT"⟩
  · rintro i x ρ ls1 hx ⟨hs1, _, w3, w4, w5, w6, w7, w8, rfl, ⟨ss, rfl, hss, gss⟩, n3, n4, n5, n6, n7, n8⟩
    walk_at "wk"
    refine wp_imp (next_run sh (by omega) 3 _ _ (by decide) (by decide) hs1) ?_
    rintro d ls2 ⟨k, rfl, k0, k1, hs2⟩
    walk_at "wk"
    refine wp_lc (fun i acc ls' => StG ls' ∧ ∃ R : List Jb, acc = R.map (fun q => ii q.1 q.2) ∧ R.length = i ∧ ∀ q ∈ R, q ∈ prs) ?_ ?_ ⟨hs2, [], rfl, rfl, fun r h => by cases h⟩
    · rintro i x2 acc ls3 hx ⟨hs3, R, rfl, hl, hr⟩
      walk_at "wk"
      refine wp_imp (next_run sh (by omega) 2 _ _ (by decide) (by decide) hs3) ?_
      rintro d ls4 ⟨a, rfl, a0, a1, hs4⟩
      walk_at "wk"
      refine wp_imp (next_run sh (by omega) 4 _ _ (by decide) (by decide) hs4) ?_
      rintro d ls5 ⟨b, rfl, b0, b1, hs5⟩
      obtain ⟨p, hp, hp2⟩ := four_at b0 b1
      walk_at "wk"
      refine wp_e (show index (.list _) b = _ from hp) ?_
      walk_at "wk"
      refine ⟨hs5, R ++ [(1 + a, p)], by rw [List.map_append]; rfl, by rw [List.length_append, hl]; rfl, fun q hq => ?_⟩
      rcases List.mem_append.mp hq with hq | hq
      · exact hr q hq
      · rw [List.mem_singleton] at hq
        subst hq
        exact mem_prs (by omega) (by omega) hp2
    rintro acc ls3 ⟨hs3, R, rfl, hl, hr⟩
    rw [rng_len] at hl
    have z : Fine R := ⟨fun e => by rw [e] at hl; simp at hl; omega, by omega, hr⟩
    have l3 := z.l3
    have hTr : (R.map fun q => ii q.1 q.2).length ≤ 3 := by rw [List.length_map]; exact l3
    have hb := rnd_bd z.pr
    have hrr := z.rr
    obtain ⟨xs, hxs, tg⟩ := due_told (due_ok (R := R) (by omega)) (by omega) (by omega)
    have good : Good R (due R).data := by
      cases hd : due R with
      | late k n => exact (good_late hd).mpr rfl
      | slots m => exact (good_slots hd).mpr ⟨m, rfl, (z.slots hd).2⟩
    have gsm : Sm (due R).data := hxs ▸ tg.sm
    have gsm2 := gsm
    have e := periodic_ok (fuel := fuel) (L := L) z (Nat.le_refl _) (by omega) ls3
    rw [hxs] at e gsm2 good
    walk_at "wk"
    refine wp_of e ?_
    walk_at "wk"
    refine wp_imp (near_run z (by omega) hs3) ?_
    rintro nr ls5 ⟨gn, hs5⟩
    obtain ⟨b1, hb1, e1⟩ := judge_run (fuel := fuel) (L := L) z (Nat.le_refl _) (by omega) gsm2 gsm ls5
    obtain ⟨b2, hb2, e2⟩ := acc_run (fuel := fuel) (L := L) z (by omega) gsm2 gsm ls5
    have hb1 := hb1.mpr good
    have hb2 := hb2.mpr good
    subst hb1 hb2
    walk_at "wk"
    refine wp_of e2 ?_
    walk_at "wk"
    refine wp_of e1 ?_
    walk_at "wk"
    have er : ∀ r : List Int, PyData.tuple ((R.map fun q => ii q.1 q.2) ++ [row r]) = rows (jr R ++ [r]) := fun r => by rw [rows, List.map_append, List.map_map]; rfl
    refine wp_of (unfit_run (rs := []) NearJ.nil (.inl rfl) (by omega) _) ?_
    walk_at "wk"
    refine wp_of (by rw [show PyData.tuple [PyData.int 0, PyData.int 2] = row [0, 2] from rfl, er]; exact unfit_run (NearJ.snoc z ⟨by decide, by simp⟩) (.inr (by rw [List.any_append]; simp [bad, gt])) (by omega) _) ?_
    walk_at "wk"
    refine wp_of (by rw [show PyData.tuple [PyData.int 3, PyData.int 2] = row [3, 2] from rfl, er]; exact unfit_run (NearJ.snoc z ⟨by decide, by simp⟩) (.inr (by rw [List.any_append]; simp [bad, gt])) (by omega) _) ?_
    walk_at "wk"
    refine wp_of (by rw [show PyData.tuple [PyData.int 1] = row [1] from rfl, er]; exact unfit_run (NearJ.snoc z ⟨by decide, by simp⟩) (.inr (by rw [List.any_append]; simp [bad, gt])) (by omega) _) ?_
    walk_at "wk"
    obtain ⟨hl2, gs⟩ := seen_next hss gss tg.sm gn
    revert gs hl2
    generalize cut ss (some (-3)) none ++ [PyData.tuple xs, nr] = ss2
    intro hl2 gs
    walk_at "wk"
    refine ask_loop sh (by omega) (N := 8) (a := 8) (k := 7) (told := 5) (seen := 2) (j := 24) (ac := 28) (args := [4]) (A := [own R]) tg gs (fun d gd => ?_) (ρ := [.no, .st, .fz (.list ss2), .fz x, .fz (own R), .fz (.tuple xs), .fz nr, w7, w8])
      rfl rfl rfl rfl n7 rfl n8 rfl (by decide) (by omega) hs5 (fun u7 u8 lsA nu7 nu8 hsA => ?_)
    · obtain ⟨b1, hb1, e1⟩ := judge_run (fuel := fuel) (L := L) z (Nat.le_refl _) (by omega) gd gsm []
      refine ⟨decide (Good R d), fun ls => ?_, fun ls => ?_⟩
      · obtain ⟨b, hb, e⟩ := judge_run (fuel := fuel) (L := L) z (Nat.le_refl _) (by omega) gd gsm ls
        cases (Bool.eq_iff_iff.mpr (hb.trans decide_eq_true_iff.symm) : b = decide (Good R d))
        exact e
      · obtain ⟨b, hb, e⟩ := acc_run (fuel := fuel) (L := L) z (by omega) gd gsm ls
        cases (Bool.eq_iff_iff.mpr (hb.trans decide_eq_true_iff.symm) : b = decide (Good R d))
        exact e
    walk_at "wk"
    exact ⟨hsA, _, _, _, _, _, _, _, rfl, ⟨ss2, rfl, hl2, gs⟩, by walk_at "nsT", by walk_at "nsT", by walk_at "nsT", by walk_at "nsT", by walk_at "nsT", by walk_at "nsT"⟩
  · rintro ρ ls1 ⟨hs1, s1, w3, w4, w5, w6, w7, w8, rfl, _⟩
    walk_at "wk"
    rfl
end K68

namespace K68
open Pv
def top (i : Nat) : PySem.Stmt := PySem.Challenge.pw_planwhole_k68_jobs_that_come_again.main.body.getD i (.Pass ⟨0, 0, 0, 0⟩)
abbrev lawSt : PySem.Stmt := top 31
def recs : List (Option Rec) := [
  some ⟨"_law_next", top 13, Hn.N_b_w_next, Hn.P_b_w_next, Hn.D_b_w_next⟩,
  some ⟨"_law_same", top 14, Hn.N_b_w_same, Hn.P_b_w_same, Hn.D_b_w_same⟩,
  some ⟨"_law_changed", top 18, Hn.N_b_w_changed, Hn.P_b_w_changed, Hn.D_b_w_changed⟩,
  some ⟨"_law_ints", top 19, Hn.N_b_w_ints, Hn.P_b_w_ints, Hn.D_b_w_ints⟩,
  some ⟨"_law_exchanged", top 20, Hn.N_b_w_exchanged, Hn.P_b_w_exchanged, Hn.D_b_w_exchanged⟩,
  some ⟨"_law_cut", top 21, Hn.N_b_w_cut, Hn.P_b_w_cut, Hn.D_b_w_cut⟩,
  some ⟨"_law_turned_about", top 22, Hn.N_b_w_turned_about, Hn.P_b_w_turned_about, Hn.D_b_w_turned_about⟩,
  some ⟨"_law_odd", top 23, Hn.N_b_w_odd, Hn.P_b_w_odd, Hn.D_b_w_odd⟩,
  some ⟨"_law_neighbour", top 25, Hn.N_b_w_neighbour, Hn.P_b_w_neighbour, Hn.D_b_w_neighbour⟩,
  some ⟨"is_whole", top 5, Hn.N_b_is_whole, Hn.P_b_is_whole, Hn.D_b_is_whole⟩,
  some ⟨"is_told", top 6, Hn.N_b_is_told, Hn.P_b_is_told, Hn.D_b_is_told⟩,
  some ⟨"are_wholes", top 7, Hn.N_b_are_wholes, Hn.P_b_are_wholes, Hn.D_b_are_wholes⟩,
  none,
  some ⟨"_law_is_whole", top 15, Hn.N_b_w_is_whole, Hn.P_b_w_is_whole, Hn.D_b_w_is_whole⟩,
  none,
  none,
  some ⟨"_law_are_wholes", top 16, Hn.N_b_w_are_wholes, Hn.P_b_w_are_wholes, Hn.D_b_w_are_wholes⟩,
  some ⟨"_law_is", top 17, Hn.N_b_w_is, Hn.P_b_w_is, Hn.D_b_w_is⟩,
  none,
  none,
  none,
  none,
  some ⟨"periodic", top 9, ["rows", "whole", "left", "slots", "now", "late", "_", "period", "ready", "place", "time", "number", "row"], ["rows"], D_periodic⟩,
  some ⟨"divisor", top 10, ["one", "other"], ["one", "other"], D_divisor⟩,
  some ⟨"judge_periodic", top 11, ["rows", "told", "due", "place", "start", "time", "period"], ["rows", "told"], D_judge_periodic⟩,
  some ⟨"_law_count", top 24, ["row", "value", "each"], ["row", "value"], D_w_count⟩,
  some ⟨"_law_round", top 26, ["rows", "x", "row"], ["rows"], D_w_round⟩,
  some ⟨"_law_late", top 27, ["rows", "left", "now", "k", "keys", "row", "key"], ["rows"], D_w_late⟩,
  some ⟨"_law_accepts", top 28, ["rows", "told", "late", "k", "starts", "now", "x"], ["rows", "told"], D_w_accepts⟩,
  some ⟨"_law_told_near", top 29, ["state", "rows", "things", "pick", "error"], ["state", "rows"], D_w_told_near⟩,
  some ⟨"_law_unfit", top 30, ["rows", "judged", "error"], ["rows"], D_w_unfit⟩]
theorem DT_eq : DT recs = DD := DT_of (dfs := dfs) rfl
end K68

namespace K68
open PySem PySem.W PyProof.Rows L2 Pv
theorem recs_ok : ∀ (i : Nat) (r : Rec), atR recs i = some r → okR recs r = true := by
  have h : recs.all (fun r => match r with | some r => okR recs r | none => true) = true := by decide +kernel
  intro i r e
  unfold atR at e
  rw [List.getD_eq_getElem?_getD] at e
  cases q : recs[i]? with
  | none => rw [q] at e; cases e
  | some o =>
    rw [q] at e
    have e : o = some r := e
    subst e
    exact List.all_eq_true.mp h _ (List.mem_of_getElem? q)
theorem law_chk : okL recs lawN lawI b_the_law lawSt = true := by decide +kernel
def rc (i : Nat) : Rec := (atR recs i).getD ⟨"", .Pass ⟨0, 0, 0, 0⟩, [], [], ⟨0, false, 0, .nil⟩⟩
theorem all_mk {l : OpenLaw} {w : World} {K : Frag} {h : Heap} {mg : Str → Option Value} {fa C1 C2 fL : Addr} (X : K.In h) (G : h.Ns mainGlobals mg) (hfa : mg "law" = some (.ref fa))
    {f0 : Addr} {od0 an0 : Option Addr} {sl0 : Array (Option Value)} {oc0 kV0 dc0 pm0 cd0 ct0 : Value}
    {f1 : Addr} {od1 an1 : Option Addr} {sl1 : Array (Option Value)} {oc1 kV1 dc1 pm1 cd1 ct1 : Value}
    {f2 : Addr} {od2 an2 : Option Addr} {sl2 : Array (Option Value)} {oc2 kV2 dc2 pm2 cd2 ct2 : Value}
    {f3 : Addr} {od3 an3 : Option Addr} {sl3 : Array (Option Value)} {oc3 kV3 dc3 pm3 cd3 ct3 : Value}
    {f4 : Addr} {od4 an4 : Option Addr} {sl4 : Array (Option Value)} {oc4 kV4 dc4 pm4 cd4 ct4 : Value}
    {f5 : Addr} {od5 an5 : Option Addr} {sl5 : Array (Option Value)} {oc5 kV5 dc5 pm5 cd5 ct5 : Value}
    {f6 : Addr} {od6 an6 : Option Addr} {sl6 : Array (Option Value)} {oc6 kV6 dc6 pm6 cd6 ct6 : Value}
    {f7 : Addr} {od7 an7 : Option Addr} {sl7 : Array (Option Value)} {oc7 kV7 dc7 pm7 cd7 ct7 : Value}
    {f8 : Addr} {od8 an8 : Option Addr} {sl8 : Array (Option Value)} {oc8 kV8 dc8 pm8 cd8 ct8 : Value}
    {f9 : Addr} {od9 an9 : Option Addr} {sl9 : Array (Option Value)} {oc9 kV9 dc9 pm9 cd9 ct9 : Value}
    {f10 : Addr} {od10 an10 : Option Addr} {sl10 : Array (Option Value)} {oc10 kV10 dc10 pm10 cd10 ct10 : Value}
    {f11 : Addr} {od11 an11 : Option Addr} {sl11 : Array (Option Value)} {oc11 kV11 dc11 pm11 cd11 ct11 : Value}
    {f12 : Addr} {od12 an12 : Option Addr} {sl12 : Array (Option Value)} {oc12 kV12 dc12 pm12 cd12 ct12 : Value}
    {f13 : Addr} {od13 an13 : Option Addr} {sl13 : Array (Option Value)} {oc13 kV13 dc13 pm13 cd13 ct13 : Value}
    {f14 : Addr} {od14 an14 : Option Addr} {sl14 : Array (Option Value)} {oc14 kV14 dc14 pm14 cd14 ct14 : Value}
    {f15 : Addr} {od15 an15 : Option Addr} {sl15 : Array (Option Value)} {oc15 kV15 dc15 pm15 cd15 ct15 : Value}
    {f16 : Addr} {od16 an16 : Option Addr} {sl16 : Array (Option Value)} {oc16 kV16 dc16 pm16 cd16 ct16 : Value}
    {f17 : Addr} {od17 an17 : Option Addr} {sl17 : Array (Option Value)} {oc17 kV17 dc17 pm17 cd17 ct17 : Value}
    {f18 : Addr} {od18 an18 : Option Addr} {sl18 : Array (Option Value)} {oc18 kV18 dc18 pm18 cd18 ct18 : Value}
    {f19 : Addr} {od19 an19 : Option Addr} {sl19 : Array (Option Value)} {oc19 kV19 dc19 pm19 cd19 ct19 : Value}
    {f20 : Addr} {od20 an20 : Option Addr} {sl20 : Array (Option Value)} {oc20 kV20 dc20 pm20 cd20 ct20 : Value}
    {f21 : Addr} {od21 an21 : Option Addr} {sl21 : Array (Option Value)} {oc21 kV21 dc21 pm21 cd21 ct21 : Value}
    {f22 : Addr} {od22 an22 : Option Addr} {sl22 : Array (Option Value)} {oc22 kV22 dc22 pm22 cd22 ct22 : Value}
    {f23 : Addr} {od23 an23 : Option Addr} {sl23 : Array (Option Value)} {oc23 kV23 dc23 pm23 cd23 ct23 : Value}
    {odL anL : Option Addr} {slL : Array (Option Value)} {ocL kVL dcL pmL cdL ctL : Value}
    (a0 : nsIn K mainGlobals "is_whole" = some (some (.ref f0))) (l0 : K.lookup f0 = some ⟨oc0, od0, .func (fnOf "is_whole" "is_whole" (defArgs (top 5)) (defBody (top 5)) (defScope (top 5)) .none kV0 dc0 pm0 an0 cd0 ct0), sl0⟩) (c0 : codeIn K cd0 "is_whole" = true) (k0 : keepIn K (.ref f0) = true)
    (a1 : nsIn K mainGlobals "is_told" = some (some (.ref f1))) (l1 : K.lookup f1 = some ⟨oc1, od1, .func (fnOf "is_told" "is_told" (defArgs (top 6)) (defBody (top 6)) (defScope (top 6)) .none kV1 dc1 pm1 an1 cd1 ct1), sl1⟩) (c1 : codeIn K cd1 "is_told" = true) (k1 : keepIn K (.ref f1) = true)
    (a2 : nsIn K mainGlobals "are_wholes" = some (some (.ref f2))) (l2 : K.lookup f2 = some ⟨oc2, od2, .func (fnOf "are_wholes" "are_wholes" (defArgs (top 7)) (defBody (top 7)) (defScope (top 7)) .none kV2 dc2 pm2 an2 cd2 ct2), sl2⟩) (c2 : codeIn K cd2 "are_wholes" = true) (k2 : keepIn K (.ref f2) = true)
    (a3 : nsIn K mainGlobals "periodic" = some (some (.ref f3))) (l3 : K.lookup f3 = some ⟨oc3, od3, .func (fnOf "periodic" "periodic" (defArgs (top 9)) (defBody (top 9)) (defScope (top 9)) .none kV3 dc3 pm3 an3 cd3 ct3), sl3⟩) (c3 : codeIn K cd3 "periodic" = true) (k3 : keepIn K (.ref f3) = true)
    (a4 : nsIn K mainGlobals "divisor" = some (some (.ref f4))) (l4 : K.lookup f4 = some ⟨oc4, od4, .func (fnOf "divisor" "divisor" (defArgs (top 10)) (defBody (top 10)) (defScope (top 10)) .none kV4 dc4 pm4 an4 cd4 ct4), sl4⟩) (c4 : codeIn K cd4 "divisor" = true) (k4 : keepIn K (.ref f4) = true)
    (a5 : nsIn K mainGlobals "judge_periodic" = some (some (.ref f5))) (l5 : K.lookup f5 = some ⟨oc5, od5, .func (fnOf "judge_periodic" "judge_periodic" (defArgs (top 11)) (defBody (top 11)) (defScope (top 11)) .none kV5 dc5 pm5 an5 cd5 ct5), sl5⟩) (c5 : codeIn K cd5 "judge_periodic" = true) (k5 : keepIn K (.ref f5) = true)
    (a6 : nsIn K mainGlobals "_law_next" = some (some (.ref f6))) (l6 : K.lookup f6 = some ⟨oc6, od6, .func (fnOf "_law_next" "_law_next" (defArgs (top 13)) (defBody (top 13)) (defScope (top 13)) .none kV6 dc6 pm6 an6 cd6 ct6), sl6⟩) (c6 : codeIn K cd6 "_law_next" = true) (k6 : keepIn K (.ref f6) = true)
    (a7 : nsIn K mainGlobals "_law_same" = some (some (.ref f7))) (l7 : K.lookup f7 = some ⟨oc7, od7, .func (fnOf "_law_same" "_law_same" (defArgs (top 14)) (defBody (top 14)) (defScope (top 14)) .none kV7 dc7 pm7 an7 cd7 ct7), sl7⟩) (c7 : codeIn K cd7 "_law_same" = true) (k7 : keepIn K (.ref f7) = true)
    (a8 : nsIn K mainGlobals "_law_is_whole" = some (some (.ref f8))) (l8 : K.lookup f8 = some ⟨oc8, od8, .func (fnOf "_law_is_whole" "_law_is_whole" (defArgs (top 15)) (defBody (top 15)) (defScope (top 15)) .none kV8 dc8 pm8 an8 cd8 ct8), sl8⟩) (c8 : codeIn K cd8 "_law_is_whole" = true) (k8 : keepIn K (.ref f8) = true)
    (a9 : nsIn K mainGlobals "_law_are_wholes" = some (some (.ref f9))) (l9 : K.lookup f9 = some ⟨oc9, od9, .func (fnOf "_law_are_wholes" "_law_are_wholes" (defArgs (top 16)) (defBody (top 16)) (defScope (top 16)) .none kV9 dc9 pm9 an9 cd9 ct9), sl9⟩) (c9 : codeIn K cd9 "_law_are_wholes" = true) (k9 : keepIn K (.ref f9) = true)
    (a10 : nsIn K mainGlobals "_law_is" = some (some (.ref f10))) (l10 : K.lookup f10 = some ⟨oc10, od10, .func (fnOf "_law_is" "_law_is" (defArgs (top 17)) (defBody (top 17)) (defScope (top 17)) .none kV10 dc10 pm10 an10 cd10 ct10), sl10⟩) (c10 : codeIn K cd10 "_law_is" = true) (k10 : keepIn K (.ref f10) = true)
    (a11 : nsIn K mainGlobals "_law_changed" = some (some (.ref f11))) (l11 : K.lookup f11 = some ⟨oc11, od11, .func (fnOf "_law_changed" "_law_changed" (defArgs (top 18)) (defBody (top 18)) (defScope (top 18)) .none kV11 dc11 pm11 an11 cd11 ct11), sl11⟩) (c11 : codeIn K cd11 "_law_changed" = true) (k11 : keepIn K (.ref f11) = true)
    (a12 : nsIn K mainGlobals "_law_ints" = some (some (.ref f12))) (l12 : K.lookup f12 = some ⟨oc12, od12, .func (fnOf "_law_ints" "_law_ints" (defArgs (top 19)) (defBody (top 19)) (defScope (top 19)) .none kV12 dc12 pm12 an12 cd12 ct12), sl12⟩) (c12 : codeIn K cd12 "_law_ints" = true) (k12 : keepIn K (.ref f12) = true)
    (a13 : nsIn K mainGlobals "_law_exchanged" = some (some (.ref f13))) (l13 : K.lookup f13 = some ⟨oc13, od13, .func (fnOf "_law_exchanged" "_law_exchanged" (defArgs (top 20)) (defBody (top 20)) (defScope (top 20)) .none kV13 dc13 pm13 an13 cd13 ct13), sl13⟩) (c13 : codeIn K cd13 "_law_exchanged" = true) (k13 : keepIn K (.ref f13) = true)
    (a14 : nsIn K mainGlobals "_law_cut" = some (some (.ref f14))) (l14 : K.lookup f14 = some ⟨oc14, od14, .func (fnOf "_law_cut" "_law_cut" (defArgs (top 21)) (defBody (top 21)) (defScope (top 21)) .none kV14 dc14 pm14 an14 cd14 ct14), sl14⟩) (c14 : codeIn K cd14 "_law_cut" = true) (k14 : keepIn K (.ref f14) = true)
    (a15 : nsIn K mainGlobals "_law_turned_about" = some (some (.ref f15))) (l15 : K.lookup f15 = some ⟨oc15, od15, .func (fnOf "_law_turned_about" "_law_turned_about" (defArgs (top 22)) (defBody (top 22)) (defScope (top 22)) .none kV15 dc15 pm15 an15 cd15 ct15), sl15⟩) (c15 : codeIn K cd15 "_law_turned_about" = true) (k15 : keepIn K (.ref f15) = true)
    (a16 : nsIn K mainGlobals "_law_odd" = some (some (.ref f16))) (l16 : K.lookup f16 = some ⟨oc16, od16, .func (fnOf "_law_odd" "_law_odd" (defArgs (top 23)) (defBody (top 23)) (defScope (top 23)) .none kV16 dc16 pm16 an16 cd16 ct16), sl16⟩) (c16 : codeIn K cd16 "_law_odd" = true) (k16 : keepIn K (.ref f16) = true)
    (a17 : nsIn K mainGlobals "_law_count" = some (some (.ref f17))) (l17 : K.lookup f17 = some ⟨oc17, od17, .func (fnOf "_law_count" "_law_count" (defArgs (top 24)) (defBody (top 24)) (defScope (top 24)) .none kV17 dc17 pm17 an17 cd17 ct17), sl17⟩) (c17 : codeIn K cd17 "_law_count" = true) (k17 : keepIn K (.ref f17) = true)
    (a18 : nsIn K mainGlobals "_law_neighbour" = some (some (.ref f18))) (l18 : K.lookup f18 = some ⟨oc18, od18, .func (fnOf "_law_neighbour" "_law_neighbour" (defArgs (top 25)) (defBody (top 25)) (defScope (top 25)) .none kV18 dc18 pm18 an18 cd18 ct18), sl18⟩) (c18 : codeIn K cd18 "_law_neighbour" = true) (k18 : keepIn K (.ref f18) = true)
    (a19 : nsIn K mainGlobals "_law_round" = some (some (.ref f19))) (l19 : K.lookup f19 = some ⟨oc19, od19, .func (fnOf "_law_round" "_law_round" (defArgs (top 26)) (defBody (top 26)) (defScope (top 26)) .none kV19 dc19 pm19 an19 cd19 ct19), sl19⟩) (c19 : codeIn K cd19 "_law_round" = true) (k19 : keepIn K (.ref f19) = true)
    (a20 : nsIn K mainGlobals "_law_late" = some (some (.ref f20))) (l20 : K.lookup f20 = some ⟨oc20, od20, .func (fnOf "_law_late" "_law_late" (defArgs (top 27)) (defBody (top 27)) (defScope (top 27)) .none kV20 dc20 pm20 an20 cd20 ct20), sl20⟩) (c20 : codeIn K cd20 "_law_late" = true) (k20 : keepIn K (.ref f20) = true)
    (a21 : nsIn K mainGlobals "_law_accepts" = some (some (.ref f21))) (l21 : K.lookup f21 = some ⟨oc21, od21, .func (fnOf "_law_accepts" "_law_accepts" (defArgs (top 28)) (defBody (top 28)) (defScope (top 28)) .none kV21 dc21 pm21 an21 cd21 ct21), sl21⟩) (c21 : codeIn K cd21 "_law_accepts" = true) (k21 : keepIn K (.ref f21) = true)
    (a22 : nsIn K mainGlobals "_law_told_near" = some (some (.ref f22))) (l22 : K.lookup f22 = some ⟨oc22, od22, .func (fnOf "_law_told_near" "_law_told_near" (defArgs (top 29)) (defBody (top 29)) (defScope (top 29)) .none kV22 dc22 pm22 an22 cd22 ct22), sl22⟩) (c22 : codeIn K cd22 "_law_told_near" = true) (k22 : keepIn K (.ref f22) = true)
    (a23 : nsIn K mainGlobals "_law_unfit" = some (some (.ref f23))) (l23 : K.lookup f23 = some ⟨oc23, od23, .func (fnOf "_law_unfit" "_law_unfit" (defArgs (top 30)) (defBody (top 30)) (defScope (top 30)) .none kV23 dc23 pm23 an23 cd23 ct23), sl23⟩) (c23 : codeIn K cd23 "_law_unfit" = true) (k23 : keepIn K (.ref f23) = true)
    (aL : nsIn K mainGlobals "law" = some (some (.ref fL))) (lL : K.lookup fL = some ⟨ocL, odL, .func (fnOf "law" "law" (defArgs lawSt) (defBody lawSt) (defScope lawSt) .none kVL dcL pmL anL cdL ctL), slL⟩) (cL : codeIn K cdL "law" = true) (kL : keepIn K (.ref fL) = true)
    (e1 : nsIn K mainGlobals "UnfitPlan" = some (some (.ref C1))) (e2 : nsIn K mainGlobals "TooWide" = some (some (.ref C2)))
    (kp1 : keepIn K (.ref C1) = true) (iv1 : kitOne K (.ref C1) (.type "ValueError") = some true) (ga1 : findIn K (.ref C1) "__getattribute__" = some (some (.builtin "BaseException.__getattribute__"))) (gt1 : findIn K (.ref C1) "__getattr__" = some none) (sb1 : subIn K (.ref C1) (.type "BaseException") = some true) (hd1 : hasDictIn K C1 = true) (cl1 : findIn K (.ref C1) "__class__" = some (some (.builtin "object.__class__"))) (mr1 : mroIn K C1 (.type "object") = some true) (ty1 : typeIn K (.ref C1) = some (.type "type")) (ex1 : excIn K C1 [.type "ValueError", .type "Exception", .type "BaseException", .type "object"] "ValueError.__new__" = true)
    (kp2 : keepIn K (.ref C2) = true) (iv2 : kitOne K (.ref C2) (.type "ValueError") = some true) (ga2 : findIn K (.ref C2) "__getattribute__" = some (some (.builtin "BaseException.__getattribute__"))) (gt2 : findIn K (.ref C2) "__getattr__" = some none) (sb2 : subIn K (.ref C2) (.type "BaseException") = some true) (hd2 : hasDictIn K C2 = true) (cl2 : findIn K (.ref C2) "__class__" = some (some (.builtin "object.__class__"))) (mr2 : mroIn K C2 (.type "object") = some true) (ty2 : typeIn K (.ref C2) = some (.type "type")) (ex2 : excIn K C2 [.type "ValueError", .type "Exception", .type "BaseException", .type "object"] "ValueError.__new__" = true)
    (hn : specialIn K (.builtin "object.__class__") "__get__" = some (some (.builtin "getset_descriptor.__get__"))) (ht : takesIn K (.builtin "object.__class__") = some true)
    (s11 : subIn K (.ref C1) (.ref C1) = some true) (s12 : subIn K (.ref C1) (.ref C2) = some false) (s21 : subIn K (.ref C2) (.ref C1) = some false) (s22 : subIn K (.ref C2) (.ref C2) = some true)
    (zv : nsIn K mainGlobals "ValueError" = some none) (z0 : nsIn K mainGlobals "len" = some none) (z1 : nsIn K mainGlobals "list" = some none) (z2 : nsIn K mainGlobals "tuple" = some none) (z3 : nsIn K mainGlobals "sorted" = some none) (z4 : nsIn K mainGlobals "sum" = some none) (z5 : nsIn K mainGlobals "min" = some none) (z6 : nsIn K mainGlobals "max" = some none) (z7 : nsIn K mainGlobals "abs" = some none) (z8 : nsIn K mainGlobals "int" = some none) (z9 : nsIn K mainGlobals "str" = some none) (z10 : nsIn K mainGlobals "bool" = some none) (z11 : nsIn K mainGlobals "set" = some none) (z12 : nsIn K mainGlobals "isinstance" = some none) (z13 : nsIn K mainGlobals "range" = some none) (z14 : nsIn K mainGlobals "enumerate" = some none) (z15 : nsIn K mainGlobals "zip" = some none)
    : ∃ fd : FuncData, (∀ (s : Shared) (v : Value), BindsTo s fd ⟨[v], []⟩ [("script", v)]) ∧ ∀ base : Heap, K.In base → base.Ns mainGlobals mg → FnOk l.prog w K mg base (L2.CX l.prog w) (level + 1) fa fd ["script"] (spLaw K) := by
  have ef : ExF K mg (ecOf C1 C2) := exF_mk X G e1 e2 ⟨kp1, iv1, ga1, gt1, sb1, hd1, cl1, mr1, ty1, ex1⟩ ⟨kp2, iv2, ga2, gt2, sb2, hd2, cl2, mr2, ty2, ex2⟩ hn ht s11 s12 s21 s22 zv z12
  have hb : ∀ x ∈ bnames, mg x = none := bn_mk X G fun x hx => by
    simp only [bnames, List.mem_cons, List.not_mem_nil, or_false] at hx
    rcases hx with rfl | rfl | rfl | rfl | rfl | rfl | rfl | rfl | rfl | rfl | rfl | rfl | rfl | rfl | rfl | rfl
    · exact z0
    · exact z1
    · exact z2
    · exact z3
    · exact z4
    · exact z5
    · exact z6
    · exact z7
    · exact z8
    · exact z9
    · exact z10
    · exact z11
    · exact z12
    · exact z13
    · exact z14
    · exact z15
  have F0 : FnF K mg (rc 9) := fnF_mk X G (rc 9) a0 l0 c0 k0 fun _ _ _ _ _ _ us hl => match us, hl with | [_], _ => rfl
  have F1 : FnF K mg (rc 10) := fnF_mk X G (rc 10) a1 l1 c1 k1 fun _ _ _ _ _ _ us hl => match us, hl with | [_, _, _], _ => rfl
  have F2 : FnF K mg (rc 11) := fnF_mk X G (rc 11) a2 l2 c2 k2 fun _ _ _ _ _ _ us hl => match us, hl with | [_, _], _ => rfl
  have F3 : FnF K mg (rc 22) := fnF_mk X G (rc 22) a3 l3 c3 k3 fun _ _ _ _ _ _ us hl => match us, hl with | [_], _ => rfl
  have F4 : FnF K mg (rc 23) := fnF_mk X G (rc 23) a4 l4 c4 k4 fun _ _ _ _ _ _ us hl => match us, hl with | [_, _], _ => rfl
  have F5 : FnF K mg (rc 24) := fnF_mk X G (rc 24) a5 l5 c5 k5 fun _ _ _ _ _ _ us hl => match us, hl with | [_, _], _ => rfl
  have F6 : FnF K mg (rc 0) := fnF_mk X G (rc 0) a6 l6 c6 k6 fun _ _ _ _ _ _ us hl => match us, hl with | [_, _], _ => rfl
  have F7 : FnF K mg (rc 1) := fnF_mk X G (rc 1) a7 l7 c7 k7 fun _ _ _ _ _ _ us hl => match us, hl with | [_, _], _ => rfl
  have F8 : FnF K mg (rc 13) := fnF_mk X G (rc 13) a8 l8 c8 k8 fun _ _ _ _ _ _ us hl => match us, hl with | [_], _ => rfl
  have F9 : FnF K mg (rc 16) := fnF_mk X G (rc 16) a9 l9 c9 k9 fun _ _ _ _ _ _ us hl => match us, hl with | [_, _], _ => rfl
  have F10 : FnF K mg (rc 17) := fnF_mk X G (rc 17) a10 l10 c10 k10 fun _ _ _ _ _ _ us hl => match us, hl with | [_, _, _], _ => rfl
  have F11 : FnF K mg (rc 2) := fnF_mk X G (rc 2) a11 l11 c11 k11 fun _ _ _ _ _ _ us hl => match us, hl with | [_, _], _ => rfl
  have F12 : FnF K mg (rc 3) := fnF_mk X G (rc 3) a12 l12 c12 k12 fun _ _ _ _ _ _ us hl => match us, hl with | [_], _ => rfl
  have F13 : FnF K mg (rc 4) := fnF_mk X G (rc 4) a13 l13 c13 k13 fun _ _ _ _ _ _ us hl => match us, hl with | [_, _, _], _ => rfl
  have F14 : FnF K mg (rc 5) := fnF_mk X G (rc 5) a14 l14 c14 k14 fun _ _ _ _ _ _ us hl => match us, hl with | [_, _], _ => rfl
  have F15 : FnF K mg (rc 6) := fnF_mk X G (rc 6) a15 l15 c15 k15 fun _ _ _ _ _ _ us hl => match us, hl with | [_, _], _ => rfl
  have F16 : FnF K mg (rc 7) := fnF_mk X G (rc 7) a16 l16 c16 k16 fun _ _ _ _ _ _ us hl => match us, hl with | [_, _], _ => rfl
  have F17 : FnF K mg (rc 25) := fnF_mk X G (rc 25) a17 l17 c17 k17 fun _ _ _ _ _ _ us hl => match us, hl with | [_, _], _ => rfl
  have F18 : FnF K mg (rc 8) := fnF_mk X G (rc 8) a18 l18 c18 k18 fun _ _ _ _ _ _ us hl => match us, hl with | [_, _], _ => rfl
  have F19 : FnF K mg (rc 26) := fnF_mk X G (rc 26) a19 l19 c19 k19 fun _ _ _ _ _ _ us hl => match us, hl with | [_], _ => rfl
  have F20 : FnF K mg (rc 27) := fnF_mk X G (rc 27) a20 l20 c20 k20 fun _ _ _ _ _ _ us hl => match us, hl with | [_], _ => rfl
  have F21 : FnF K mg (rc 28) := fnF_mk X G (rc 28) a21 l21 c21 k21 fun _ _ _ _ _ _ us hl => match us, hl with | [_, _], _ => rfl
  have F22 : FnF K mg (rc 29) := fnF_mk X G (rc 29) a22 l22 c22 k22 fun _ _ _ _ _ _ us hl => match us, hl with | [_, _], _ => rfl
  have F23 : FnF K mg (rc 30) := fnF_mk X G (rc 30) a23 l23 c23 k23 fun _ _ _ _ _ _ us hl => match us, hl with | [_], _ => rfl
  have hF : ∀ (i : Nat) (r : Rec), atR recs i = some r → FnF K mg r := fun i r e => by
    match i, e with
    | 0, e => cases e; exact F6
    | 1, e => cases e; exact F7
    | 2, e => cases e; exact F11
    | 3, e => cases e; exact F12
    | 4, e => cases e; exact F13
    | 5, e => cases e; exact F14
    | 6, e => cases e; exact F15
    | 7, e => cases e; exact F16
    | 8, e => cases e; exact F18
    | 9, e => cases e; exact F0
    | 10, e => cases e; exact F1
    | 11, e => cases e; exact F2
    | 12, e => cases e
    | 13, e => cases e; exact F8
    | 14, e => cases e
    | 15, e => cases e
    | 16, e => cases e; exact F9
    | 17, e => cases e; exact F10
    | 18, e => cases e
    | 19, e => cases e
    | 20, e => cases e
    | 21, e => cases e
    | 22, e => cases e; exact F3
    | 23, e => cases e; exact F4
    | 24, e => cases e; exact F5
    | 25, e => cases e; exact F17
    | 26, e => cases e; exact F19
    | 27, e => cases e; exact F20
    | 28, e => cases e; exact F21
    | 29, e => cases e; exact F22
    | 30, e => cases e; exact F23
    | _ + 31, e => cases e
  exact law_mk X G hfa ef hb fuel level recs_ok hF law_chk aL lL cL kL (fun s v => .of_eq rfl) (by rw [DT_eq]; exact law_run)
end K68
open PySem PySem.W PyProof.Rows
set_option maxRecDepth 100000 in
set_option maxHeartbeats 0 in
theorem PySem.Challenge.cw_planwhole_k68_jobs_that_come_again_holds : PySem.Challenge.rw_planwhole_k68_jobs_that_come_again.Holds := by
  w_on; o_law; k_head; (case hw => w_witness2)
  k_fill
  refine L2.walk_of (l := PySem.Challenge.rw_planwhole_k68_jobs_that_come_again) (n := 63) (k := K68.level + 1) (x := "script") (CX := fun w => L2.CX PySem.Challenge.rw_planwhole_k68_jobs_that_come_again.prog w) (sp := fun w => Pv.spLaw _) rfl (by decide) rfl ⟨rfl, by decide, by decide⟩ (fun w h Y => PySem.W.kIn_of Y) ?F (fun _ _ a ns hl _ hS => ⟨a, ns, rfl, hS, hl, fun _ => rfl⟩) (fun w H s e s' h => ?_)
  case F =>
    intro w mg fa h KX G hmg
    refine' K68.all_mk KX G hmg ?a0 ?l0 ?c0 ?k0 ?a1 ?l1 ?c1 ?k1 ?a2 ?l2 ?c2 ?k2 ?a3 ?l3 ?c3 ?k3 ?a4 ?l4 ?c4 ?k4 ?a5 ?l5 ?c5 ?k5 ?a6 ?l6 ?c6 ?k6 ?a7 ?l7 ?c7 ?k7 ?a8 ?l8 ?c8 ?k8 ?a9 ?l9 ?c9 ?k9 ?a10 ?l10 ?c10 ?k10 ?a11 ?l11 ?c11 ?k11 ?a12 ?l12 ?c12 ?k12 ?a13 ?l13 ?c13 ?k13 ?a14 ?l14 ?c14 ?k14 ?a15 ?l15 ?c15 ?k15 ?a16 ?l16 ?c16 ?k16 ?a17 ?l17 ?c17 ?k17 ?a18 ?l18 ?c18 ?k18 ?a19 ?l19 ?c19 ?k19 ?a20 ?l20 ?c20 ?k20 ?a21 ?l21 ?c21 ?k21 ?a22 ?l22 ?c22 ?k22 ?a23 ?l23 ?c23 ?k23 ?aL ?lL ?cL ?kL ?e1 ?e2 ?kp1 ?iv1 ?ga1 ?gt1 ?sb1 ?hd1 ?cl1 ?mr1 ?ty1 ?ex1 ?kp2 ?iv2 ?ga2 ?gt2 ?sb2 ?hd2 ?cl2 ?mr2 ?ty2 ?ex2 ?hn ?ht ?s11 ?s12 ?s21 ?s22 ?zv ?z0 ?z1 ?z2 ?z3 ?z4 ?z5 ?z6 ?z7 ?z8 ?z9 ?z10 ?z11 ?z12 ?z13 ?z14 ?z15
    (case a0 => first | k_is | rfl | decide +kernel); (case l0 => first | k_is | rfl | decide +kernel); (case c0 => first | k_is | rfl | decide +kernel); (case k0 => first | k_is | rfl | decide +kernel)
    (case a1 => first | k_is | rfl | decide +kernel); (case l1 => first | k_is | rfl | decide +kernel); (case c1 => first | k_is | rfl | decide +kernel); (case k1 => first | k_is | rfl | decide +kernel)
    (case a2 => first | k_is | rfl | decide +kernel); (case l2 => first | k_is | rfl | decide +kernel); (case c2 => first | k_is | rfl | decide +kernel); (case k2 => first | k_is | rfl | decide +kernel)
    (case a3 => first | k_is | rfl | decide +kernel); (case l3 => first | k_is | rfl | decide +kernel); (case c3 => first | k_is | rfl | decide +kernel); (case k3 => first | k_is | rfl | decide +kernel)
    (case a4 => first | k_is | rfl | decide +kernel); (case l4 => first | k_is | rfl | decide +kernel); (case c4 => first | k_is | rfl | decide +kernel); (case k4 => first | k_is | rfl | decide +kernel)
    (case a5 => first | k_is | rfl | decide +kernel); (case l5 => first | k_is | rfl | decide +kernel); (case c5 => first | k_is | rfl | decide +kernel); (case k5 => first | k_is | rfl | decide +kernel)
    (case a6 => first | k_is | rfl | decide +kernel); (case l6 => first | k_is | rfl | decide +kernel); (case c6 => first | k_is | rfl | decide +kernel); (case k6 => first | k_is | rfl | decide +kernel)
    (case a7 => first | k_is | rfl | decide +kernel); (case l7 => first | k_is | rfl | decide +kernel); (case c7 => first | k_is | rfl | decide +kernel); (case k7 => first | k_is | rfl | decide +kernel)
    (case a8 => first | k_is | rfl | decide +kernel); (case l8 => first | k_is | rfl | decide +kernel); (case c8 => first | k_is | rfl | decide +kernel); (case k8 => first | k_is | rfl | decide +kernel)
    (case a9 => first | k_is | rfl | decide +kernel); (case l9 => first | k_is | rfl | decide +kernel); (case c9 => first | k_is | rfl | decide +kernel); (case k9 => first | k_is | rfl | decide +kernel)
    (case a10 => first | k_is | rfl | decide +kernel); (case l10 => first | k_is | rfl | decide +kernel); (case c10 => first | k_is | rfl | decide +kernel); (case k10 => first | k_is | rfl | decide +kernel)
    (case a11 => first | k_is | rfl | decide +kernel); (case l11 => first | k_is | rfl | decide +kernel); (case c11 => first | k_is | rfl | decide +kernel); (case k11 => first | k_is | rfl | decide +kernel)
    (case a12 => first | k_is | rfl | decide +kernel); (case l12 => first | k_is | rfl | decide +kernel); (case c12 => first | k_is | rfl | decide +kernel); (case k12 => first | k_is | rfl | decide +kernel)
    (case a13 => first | k_is | rfl | decide +kernel); (case l13 => first | k_is | rfl | decide +kernel); (case c13 => first | k_is | rfl | decide +kernel); (case k13 => first | k_is | rfl | decide +kernel)
    (case a14 => first | k_is | rfl | decide +kernel); (case l14 => first | k_is | rfl | decide +kernel); (case c14 => first | k_is | rfl | decide +kernel); (case k14 => first | k_is | rfl | decide +kernel)
    (case a15 => first | k_is | rfl | decide +kernel); (case l15 => first | k_is | rfl | decide +kernel); (case c15 => first | k_is | rfl | decide +kernel); (case k15 => first | k_is | rfl | decide +kernel)
    (case a16 => first | k_is | rfl | decide +kernel); (case l16 => first | k_is | rfl | decide +kernel); (case c16 => first | k_is | rfl | decide +kernel); (case k16 => first | k_is | rfl | decide +kernel)
    (case a17 => first | k_is | rfl | decide +kernel); (case l17 => first | k_is | rfl | decide +kernel); (case c17 => first | k_is | rfl | decide +kernel); (case k17 => first | k_is | rfl | decide +kernel)
    (case a18 => first | k_is | rfl | decide +kernel); (case l18 => first | k_is | rfl | decide +kernel); (case c18 => first | k_is | rfl | decide +kernel); (case k18 => first | k_is | rfl | decide +kernel)
    (case a19 => first | k_is | rfl | decide +kernel); (case l19 => first | k_is | rfl | decide +kernel); (case c19 => first | k_is | rfl | decide +kernel); (case k19 => first | k_is | rfl | decide +kernel)
    (case a20 => first | k_is | rfl | decide +kernel); (case l20 => first | k_is | rfl | decide +kernel); (case c20 => first | k_is | rfl | decide +kernel); (case k20 => first | k_is | rfl | decide +kernel)
    (case a21 => first | k_is | rfl | decide +kernel); (case l21 => first | k_is | rfl | decide +kernel); (case c21 => first | k_is | rfl | decide +kernel); (case k21 => first | k_is | rfl | decide +kernel)
    (case a22 => first | k_is | rfl | decide +kernel); (case l22 => first | k_is | rfl | decide +kernel); (case c22 => first | k_is | rfl | decide +kernel); (case k22 => first | k_is | rfl | decide +kernel)
    (case a23 => first | k_is | rfl | decide +kernel); (case l23 => first | k_is | rfl | decide +kernel); (case c23 => first | k_is | rfl | decide +kernel); (case k23 => first | k_is | rfl | decide +kernel)
    (case aL => first | k_is | rfl | decide +kernel); (case lL => first | k_is | rfl | decide +kernel); (case cL => first | k_is | rfl | decide +kernel); (case kL => first | k_is | rfl | decide +kernel)
    (case e1 => first | k_is | rfl | decide +kernel); (case e2 => first | k_is | rfl | decide +kernel); (case kp1 => first | k_is | rfl | decide +kernel); (case iv1 => first | k_is | rfl | decide +kernel)
    (case ga1 => first | k_is | rfl | decide +kernel); (case gt1 => first | k_is | rfl | decide +kernel); (case sb1 => first | k_is | rfl | decide +kernel); (case hd1 => first | k_is | rfl | decide +kernel)
    (case cl1 => first | k_is | rfl | decide +kernel); (case mr1 => first | k_is | rfl | decide +kernel); (case ty1 => first | k_is | rfl | decide +kernel); (case ex1 => first | k_exc | k_is | decide +kernel)
    (case kp2 => first | k_is | rfl | decide +kernel); (case iv2 => first | k_is | rfl | decide +kernel); (case ga2 => first | k_is | rfl | decide +kernel); (case gt2 => first | k_is | rfl | decide +kernel)
    (case sb2 => first | k_is | rfl | decide +kernel); (case hd2 => first | k_is | rfl | decide +kernel); (case cl2 => first | k_is | rfl | decide +kernel); (case mr2 => first | k_is | rfl | decide +kernel)
    (case ty2 => first | k_is | rfl | decide +kernel); (case ex2 => first | k_exc | k_is | decide +kernel); (case hn => first | k_is | rfl | decide +kernel); (case ht => first | k_is | rfl | decide +kernel)
    (case s11 => first | k_is | rfl | decide +kernel); (case s12 => first | k_is | rfl | decide +kernel); (case s21 => first | k_is | rfl | decide +kernel); (case s22 => first | k_is | rfl | decide +kernel)
    (case zv => first | k_is | rfl | decide +kernel); (case z0 => first | k_is | rfl | decide +kernel); (case z1 => first | k_is | rfl | decide +kernel); (case z2 => first | k_is | rfl | decide +kernel)
    (case z3 => first | k_is | rfl | decide +kernel); (case z4 => first | k_is | rfl | decide +kernel); (case z5 => first | k_is | rfl | decide +kernel); (case z6 => first | k_is | rfl | decide +kernel)
    (case z7 => first | k_is | rfl | decide +kernel); (case z8 => first | k_is | rfl | decide +kernel); (case z9 => first | k_is | rfl | decide +kernel); (case z10 => first | k_is | rfl | decide +kernel)
    (case z11 => first | k_is | rfl | decide +kernel); (case z12 => first | k_is | rfl | decide +kernel); (case z13 => first | k_is | rfl | decide +kernel); (case z14 => first | k_is | rfl | decide +kernel)
    (case z15 => first | k_is | rfl | decide +kernel)
  case _ =>
    obtain ⟨a, B, H', cls, d, _, _, _, _, _, _, _, z⟩ := h
    exact z
