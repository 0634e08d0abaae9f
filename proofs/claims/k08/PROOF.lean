import PyProof.Rows.All
import Wide.All
import OpenK.AllK
import Wide.FinOn
import HandS.ForMost
import KE.DataMinKey
import KE.DataCmp
import HandS.Lambda
import HandS.Iter
import HandS.Wide
import HandS.Dict
import HandS.TupLen
import HandS.Small
import HandS.SortInts
import KE.KDictSum
import HandS.ExcOwn
import HandS.ExcValue
import KE.KDictCopyH
import HandS.IsInst
import HandS.Deep
import HandS.Text
import HandS.Style
import HandS.SortRule
import HandS.Flow
import HandS.More
import HandS.Replace
import HandS.ExcIs
import HandS.DictTup
import KE.KDictPairs
import HandS.Comp
import KE.KDictZip
import HandS.DictEq
import KE.KDictDisplayH
import HandS.Exc
import HandS.SetFor
import HandS.TryOnly
import HandS.ListItems
import HandS.Ends
import HandS.EndBits
import HandS.Words
import HandS.WordsExc
import HandS.Conv
import KE.KNest
import PySem.Challenge.RW_putsigns_k08_worths_of_ways
set_option Elab.async false
set_option linter.all false
set_option maxRecDepth 100000
set_option maxHeartbeats 8000000
set_option autoImplicit false
/-! Z1: a small language over trees and mutable cells: syntax, meaning. -/
namespace Z
open PySem

/-- a value: a tree, a mutable cell, a def, an exception of a class -/
inductive U where
  | d (x : PyData)
  | cell (n : Nat)
  | fn (f : Nat)
  | exc (c : Nat)
/-- what a cell holds -/
inductive Cont where
  | lst (xs : List U)
  | dct (t : Bool) (kvs : List (PyData × U))
  | fdct (t : Bool) (kvs : List (PyData × U))
  | obj (c : Nat) (fs : List (Str × U))
  | dead
abbrev Store := List Cont
abbrev Vars := List (Option U)

inductive Res (α : Type) where
  | ok (a : α) (st : Store)
  | exc (c : Nat) (st : Store)
  | bad
namespace Res
def bind {α β : Type} : Res α → (α → Store → Res β) → Res β
  | .ok a st, f => f a st
  | .exc c st, _ => .exc c st
  | .bad, _ => .bad
@[simp] theorem bind_ok {α β : Type} (a : α) (st : Store) (f : α → Store → Res β) : (Res.ok a st).bind f = f a st := (rfl)
@[simp] theorem bind_exc {α β : Type} (c : Nat) (st : Store) (f : α → Store → Res β) : (Res.exc c st).bind f = .exc c st := rfl
@[simp] theorem bind_bad {α β : Type} (f : α → Store → Res β) : (Res.bad : Res α).bind f = .bad := rfl
def opt {α β : Type} : Option α → (α → Res β) → Res β
  | some a, f => f a
  | none, _ => .bad
@[simp] theorem opt_some {α β : Type} (a : α) (f : α → Res β) : Res.opt (some a) f = f a := rfl
@[simp] theorem opt_none {α β : Type} (f : α → Res β) : Res.opt none f = .bad := rfl
end Res

/-! ### trees -/
def U.tree : U → Option PyData
  | .d x => some x
  | _ => none
def trees : List U → Option (List PyData)
  | [] => some []
  | .d x :: r => (trees r).map (x :: ·)
  | _ :: _ => none
def ofD (xs : List PyData) : List U := xs.map U.d
@[simp] theorem trees_ofD (xs : List PyData) : trees (ofD xs) = some xs := by
  induction xs with
  | nil => rfl
  | cons x r ih => show (trees (ofD r)).map (x :: ·) = _; rw [ih]; rfl
/-- a list as its items -/
def lstOf (st : Store) : U → Option (List U)
  | .d (.list xs) => some (ofD xs)
  | .cell n => match st[n]? with
    | some (.lst us) => some us
    | _ => none
  | _ => none
/-- a tree that shows what a value holds now -/
def view (st : Store) : U → Option PyData
  | .d x => some x
  | .cell n => match st[n]? with
    | some (.lst us) => (trees us).map .list
    | _ => none
  | _ => none
def viewAll (st : Store) : List U → Option (List PyData)
  | [] => some []
  | u :: r => (view st u).bind fun x => (viewAll st r).map (x :: ·)
/-- and the lists in it -/
def view2 (st : Store) : U → Option PyData
  | .d x => some x
  | .cell n => match st[n]? with
    | some (.lst us) => (viewAll st us).map .list
    | _ => none
  | _ => none
/-! dicts: keys are numbers and texts, or tuples of these -/
def unK : PyData → Option L2.Key
  | .int i => some (.inl i)
  | .str x => some (.inr x)
  | _ => none
def unKs : List PyData → Option (List L2.Key)
  | [] => some []
  | x :: r => (unK x).bind fun k => (unKs r).map (k :: ·)
def unT : PyData → Option (List L2.Key)
  | .tuple xs => unKs xs
  | _ => none
def putD {κ : Type} [DecidableEq κ] (un : PyData → Option κ) (key : PyData) (k : κ) (u : U) (kvs : List (PyData × U)) : List (PyData × U) :=
  if (kvs.any fun kv => decide (un kv.1 = some k)) = true then kvs.map (fun kv => if un kv.1 = some k then (kv.1, u) else kv) else kvs ++ [(key, u)]
/-- the entries of a dict -/
def dctOf (st : Store) : U → Option (List (PyData × U))
  | .d (.dict kvs) => some (kvs.map fun kv => (kv.1, U.d kv.2))
  | .cell n => match st[n]? with
    | some (.dct _ kvs) => some kvs
    | some (.fdct _ kvs) => some kvs
    | _ => none
  | _ => none
def getG {κ : Type} [DecidableEq κ] (un : PyData → Option κ) (k : κ) (kvs : List (PyData × U)) : Option U := (kvs.find? fun kv => decide (un kv.1 = some k)).map (·.2)
def getB (t : Bool) (y : PyData) (kvs : List (PyData × U)) : Option (Option U) := if t then (unT y).map fun k => getG unT k kvs else (unK y).map fun k => getG unK k kvs
/-- what a dict has at a key: none where it is no dict, or no key for it -/
def dctGet (st : Store) (y : PyData) : U → Option (Option U)
  | .d (.dict kvs) => match kvs with
    | (.tuple _, _) :: _ => getB true y (kvs.map fun kv => (kv.1, U.d kv.2))
    | (.int _, _) :: _ => getB false y (kvs.map fun kv => (kv.1, U.d kv.2))
    | (.str _, _) :: _ => getB false y (kvs.map fun kv => (kv.1, U.d kv.2))
    | _ => none
  | .cell n => match st[n]? with
    | some (.dct t kvs) => getB t y kvs
    | some (.fdct t kvs) => getB t y kvs
    | _ => none
  | _ => none
/-- what is made: a value, or a new list -/
inductive Mk where
  | u (x : U)
  | lst (us : List U)
  | dct (t : Bool) (kvs : List (PyData × U))
def treesKv : List (PyData × U) → Option (List (PyData × PyData))
  | [] => some []
  | (k, .d x) :: r => (treesKv r).map ((k, x) :: ·)
  | _ :: _ => none
def fin (fr : Bool) (st : Store) : Mk → Res U
  | .u x => .ok x st
  | .lst us => if us.length ≤ sizeLine then
      (if fr then .ok (.cell st.length) (st ++ [.lst us]) else .opt (trees us) fun xs => .ok (.d (.list xs)) st)
    else .bad
  | .dct t kvs => if kvs.length ≤ sizeLine then
      (if fr then .ok (.cell st.length) (st ++ [.dct t kvs]) else .opt (treesKv kvs) fun xs => .ok (.d (.dict xs)) st)
    else .bad
def tupOf (us : List U) : Option U := if us.length ≤ sizeLine then (trees us).map fun xs => .d (.tuple xs) else none

/-! ### operators -/
def mulOk (i j : Int) : Prop := ((-(2 ^ 64) < i ∧ i < 2 ^ 64) ∨ (-(2 ^ 64) < j ∧ j < 2 ^ 64)) ∨ i.natAbs.log2 + j.natAbs.log2 < 1000000
instance (i j : Int) : Decidable (mulOk i j) := by unfold mulOk; infer_instance
def chk (p : Prop) [Decidable p] {α : Type} (a : α) : Option α := if p then some a else none
def rep {α : Type} (k : Int) (xs : List α) : List α := (List.replicate k.toNat xs).flatten
def intOp (op : Operator) (i j : Int) : Option Int :=
  match op with
  | .Add => some (i + j)
  | .Sub => some (i - j)
  | .Mult => chk (mulOk i j) (i * j)
  | .FloorDiv => chk (0 < j ∧ j.natAbs.log2 < 9000) (i / j)
  | .Mod => chk (0 < j) (i % j)
  | .Pow => chk (0 ≤ j ∧ j ≤ 1000000 ∧ i.natAbs < 2 ^ 64) (i ^ j.toNat)
  | _ => none
def binop (op : Operator) (st : Store) (a b : U) : Option Mk :=
  match a, b with
  | .d (.int i), .d (.int j) => (intOp op i j).map fun k => .u (.d (.int k))
  | .d (.str x), .d (.str y) => if op = .Add then chk (x.length + y.length ≤ sizeLine) (.u (.d (.str (x ++ y)))) else none
  | .d (.tuple xs), .d (.tuple ys) => if op = .Add then chk (xs ≠ [] ∧ xs.length + ys.length ≤ sizeLine) (.u (.d (.tuple (xs ++ ys)))) else none
  | _, _ =>
    match op, lstOf st a, lstOf st b with
    | .Add, some us, some ws => chk (us.length + ws.length ≤ sizeLine) (.lst (us ++ ws))
    | _, _, _ => none

/-- == of trees -/
def eqOk (x y : PyData) : Prop := SeqAt.shaped x = true ∧ SeqAt.shaped y = true
instance (x y : PyData) : Decidable (eqOk x y) := by unfold eqOk; infer_instance
def diffLen : PyData → PyData → Bool
  | .list a, .list b => a.length != b.length
  | _, _ => false
def bothStr : PyData → PyData → Bool
  | .str _, .str _ => true
  | _, _ => false
def deq (x y : PyData) : Option Bool := if diffLen x y then some false else if bothStr x y then some (x.eqv y) else chk (eqOk x y) (x.eqv y)
/-- == of dicts whose keys are tuples -/
def dctT (st : Store) : U → Option (List (PyData × U))
  | .d (.dict kvs) => match kvs with
    | (.tuple _, _) :: _ => some (kvs.map fun kv => (kv.1, U.d kv.2))
    | _ => none
  | .cell n => match st[n]? with
    | some (.dct true kvs) => some kvs
    | some (.fdct true kvs) => some kvs
    | _ => none
  | _ => none
def eqW (ls : List (PyData × U)) : List (PyData × U) → Option Bool
  | [] => some true
  | (k, u) :: r => (unT k).bind fun kk => match getG unT kk ls with
    | none => some false
    | some w => (U.tree u).bind fun x => (U.tree w).bind fun y => (chk (eqOk x y) (x.eqv y)).bind fun b => if b then eqW ls r else some false
def eqDct (st : Store) (a b : U) : Option Bool := (dctT st a).bind fun kvs => (dctT st b).bind fun ls => if kvs.length = ls.length then eqW ls kvs else some false
def inTree (x : PyData) : PyData → Option Bool
  | .list ys => chk (eqOk x (.list ys)) (ys.any fun y => y.eqv x)
  | .tuple ys => chk (eqOk x (.tuple ys)) (ys.any fun y => y.eqv x)
  | .str z => match x with
    | .str y => some (!(Builtin.Str.occurrences z y 0 z.length 1).isEmpty)
    | _ => none
  | _ => none
def cmpInt (op : CmpOp) (i j : Int) : Option Bool :=
  match op with
  | .Lt => some (decide (i < j))
  | .LtE => some (decide (i ≤ j))
  | .Gt => some (decide (j < i))
  | .GtE => some (decide (j ≤ i))
  | _ => none
def isNone : U → Bool
  | .d .none => true
  | _ => false
def isNoneD : PyData → Bool
  | .none => true
  | _ => false
/-- < of data -/
def ltD (op : CmpOp) (x y : PyData) : Option Bool := match op with
  | .Lt => chk (PySem.W.alike x y = true ∧ isNoneD x = false ∧ x.depth ≤ 60 ∧ x.canLay0 = true ∧ y.canLay0 = true) (PySem.W.dataLt x y)
  | _ => none
def cmpU (op : CmpOp) (a b : U) : Option Bool := match a, b with
  | .d (.int i), .d (.int j) => cmpInt op i j
  | .d x, .d y => ltD op x y
  | _, _ => none
/-- two truths -/
def isBB : U → U → Option Bool
  | .d (.bool x), .d (.bool y) => some (decide (x = y))
  | _, _ => none
def inOf (st : Store) (a b : U) : Option Bool := match (U.tree a).bind fun y => dctGet st y b with
  | some o => some o.isSome
  | none => (view st a).bind fun x => (view st b).bind fun y => inTree x y
def cmpop (op : CmpOp) (st : Store) (a b : U) : Option Bool :=
  match op with
  | .Eq => (view2 st a).bind fun x => (view2 st b).bind fun y => deq x y
  | .NotEq => (view2 st a).bind fun x => (view2 st b).bind fun y => (deq x y).map (!·)
  | .In => inOf st a b
  | .NotIn => (inOf st a b).map (!·)
  | .Is => if isNone b then some (isNone a) else isBB a b
  | .IsNot => if isNone b then some (!isNone a) else (isBB a b).map (!·)
  | op => cmpU op a b
def truth (st : Store) : U → Option Bool
  | .d .none => some false
  | .d (.bool b) => some b
  | .d (.int i) => some (i != 0)
  | .d (.str x) => chk (x.length ≤ sizeLine) ((x.length : Int) != 0)
  | .d (.tuple xs) => some (!xs.isEmpty)
  | u => (lstOf st u).map (!·.isEmpty)

/-! ### items, slices -/
def itemOf (st : Store) (a i : U) : Option U :=
  match a, i with
  | .d (.tuple xs), .d (.int k) => (L2.atI xs k).map .d
  | .d (.str z), .d (.int k) => chk (z.length ≤ sizeLine) () |>.bind fun _ => (L2.atI z.cps.toList k).map fun c => .d (.str ⟨#[c]⟩)
  | a, .d (.int k) => match lstOf st a with
    | some us => L2.atI us k
    | none => (dctGet st (.int k) a).bind id
  | a, .d y => (dctGet st y a).bind id
  | _, _ => none
def cutL {α : Type} (xs : List α) (lo hi : Option Int) : List α := (xs.drop (HT.sIx xs.length 0 lo)).take (HT.sIx xs.length xs.length hi - HT.sIx xs.length 0 lo)
def sliceOf (st : Store) (a : U) (lo hi : Option Int) : Option Mk :=
  match a with
  | .d (.tuple xs) => chk (¬ (HT.sIx xs.length 0 lo = 0 ∧ HT.sIx xs.length xs.length hi = xs.length)) (.u (.d (.tuple (cutL xs lo hi))))
  | .d (.str z) => chk (z.length ≤ sizeLine) (.u (.d (.str (L2.cutS z lo hi))))
  | a => (lstOf st a).map fun us => .lst (cutL us lo hi)

/-! ### calls of built-in names -/
inductive Ty where
  | int | bool | str | list | tuple | dict
  deriving DecidableEq
def tyIs : Ty → PyData → Bool
  | .int, .int _ => true
  | .int, .bool _ => true
  | .bool, .bool _ => true
  | .str, .str _ => true
  | .list, .list _ => true
  | .tuple, .tuple _ => true
  | .dict, .dict _ => true
  | _, _ => false
def isTy (st : Store) (t : Ty) : U → Option Bool
  | .d x => some (tyIs t x)
  | .cell n => match st[n]? with
    | some (.lst _) => some (t == .list)
    | some (.dct _ _) => some (t == .dict)
    | some (.fdct _ _) => some (t == .dict)
    | _ => none
  | _ => none
inductive Prim where
  | len | isT (t : Ty) | repr | int | min2 | max2 | list | tuple | abs | join | sorted | sum | maxL | minL
  deriving DecidableEq
def lenOf (st : Store) : U → Option Nat
  | .d (.str x) => chk (x.length ≤ sizeLine) x.length
  | .d (.tuple xs) => some xs.length
  | u => match lstOf st u with
    | some us => some us.length
    | none => (dctOf st u).map (·.length)
def signs (z : Str) : List PyData := z.cps.toList.map fun c => .str ⟨#[c]⟩
def listP (st : Store) : U → Option Mk
  | .d (.str z) => chk (z.length ≤ sizeLine) (.lst (ofD (signs z)))
  | .d (.tuple xs) => some (.lst (ofD xs))
  | u => (lstOf st u).map .lst
def tupleP (st : Store) : U → Option Mk
  | .d (.tuple xs) => some (.u (.d (.tuple xs)))
  | u => (lstOf st u).bind fun us => (tupOf us).map .u
def strsOf : List PyData → Option (List Str)
  | [] => some []
  | .str x :: r => (strsOf r).map (x :: ·)
  | _ => none
/-- in order: numbers, pairs of numbers -/
def leD : PyData → PyData → Bool
  | .int i, .int j => decide (i ≤ j)
  | .tuple [.int a, .int b], .tuple [.int c, .int d] => decide (a < c) || (decide (a = c) && decide (b ≤ d))
  | _, _ => false
def insD (x : PyData) : List PyData → List PyData
  | [] => [x]
  | y :: r => if leD x y then x :: y :: r else y :: insD x r
def srtD : List PyData → List PyData
  | [] => []
  | x :: r => insD x (srtD r)
def isI : PyData → Bool
  | .int _ => true
  | _ => false
def isP : PyData → Bool
  | .tuple [.int _, .int _] => true
  | _ => false
def intsOf : List PyData → Option (List Int)
  | [] => some []
  | .int i :: r => (intsOf r).map (i :: ·)
  | _ => none
def revOf (st : Store) : U → Option Mk
  | .d (.str z) => chk (z.length ≤ sizeLine) (.u (.d (.str ⟨z.cps.toList.reverse.toArray⟩)))
  | u => (lstOf st u).map fun us => Mk.lst us.reverse
/-- what is sorted: a list, or a dict's keys -/
def sortSrc (st : Store) (u : U) : Option (List U) := match lstOf st u with
  | some us => some us
  | none => (dctOf st u).bind fun kvs => if !kvs.isEmpty && (kvs.all (fun kv => isI kv.1) || kvs.all (fun kv => isP kv.1)) then some (kvs.map fun kv => U.d kv.1) else none
/-! min by a key: a lambda of one name over tuples -/
inductive Kp where
  | item (i : Nat) | neg (i : Nat)
  deriving DecidableEq
inductive Ky where
  | one (a : Kp) | pair (a b : Kp) | cut (n : Nat)
  deriving DecidableEq
def kpV : Kp → List PyData → Option PyData
  | .item i, xs => xs[i]?
  | .neg i, xs => match xs[i]? with
    | some (.int k) => some (.int (0 - k))
    | _ => none
def kyV : Ky → PyData → Option PyData
  | .one a, .tuple xs => kpV a xs
  | .pair a b, .tuple xs => (kpV a xs).bind fun x => (kpV b xs).map fun y => .tuple [x, y]
  | .cut n, .tuple xs => chk (0 < n ∧ n < xs.length ∧ xs.length ≤ 1000) (.tuple (xs.take n))
  | _, _ => none
def keysOf (k : Ky) : List PyData → Option (List PyData)
  | [] => some []
  | x :: r => (kyV k x).bind fun y => (keysOf k r).map (y :: ·)
mutual
/-- no list, no dict in it -/
def tupD : PyData → Bool
  | .list _ => false
  | .dict _ => false
  | .tuple xs => tupDs xs
  | _ => true
def tupDs : List PyData → Bool
  | [] => true
  | x :: r => tupD x && tupDs r
end
mutual
/-- no dict in it -/
def ndD : PyData → Bool
  | .dict _ => false
  | .list xs => ndDs xs
  | .tuple xs => ndDs xs
  | _ => true
def ndDs : List PyData → Bool
  | [] => true
  | x :: r => ndD x && ndDs r
end
/-- what may be compared -/
def ordD (x : PyData) : Bool := tupD x && !isNoneD x && decide (x.depth ≤ 64)
def keysOk (ks : List PyData) : Bool := !ks.isEmpty && ks.all ordD && ks.all fun a => ks.all fun b => PySem.W.alike a b
def bestOf (ks : List PyData) : Nat := argBest (fun i j => PySem.W.dataLt (ks.getD i .none) (ks.getD j .none)) (ks.length - 1)
def minOf (k : Ky) (xs : List PyData) : Option PyData := (keysOf k xs).bind fun ks => if keysOk ks then xs[bestOf ks]? else none
def minU (st : Store) (k : Ky) (u : U) : Option PyData := (lstOf st u).bind fun us => (trees us).bind fun xs => minOf k xs
def prim (p : Prim) (st : Store) (us : List U) : Option Mk :=
  match p, us with
  | .len, [u] => (lenOf st u).map fun (n : Nat) => .u (.d (.int (n : Int)))
  | .isT t, [u] => (isTy st t u).map fun b => .u (.d (.bool b))
  | .repr, [u] => (view st u).bind fun x => chk (x.showable = true ∧ x.depth ≤ 64 ∧ x.shown.length ≤ sizeLine) (.u (.d (.str x.shown)))
  | .int, [.d (.bool b)] => some (.u (.d (.int (if b then 1 else 0))))
  | .int, [.d (.int i)] => some (.u (.d (.int i)))
  | .min2, [.d (.int i), .d (.int j)] => some (.u (.d (.int (if j < i then j else i))))
  | .max2, [.d (.int i), .d (.int j)] => some (.u (.d (.int (if j > i then j else i))))
  | .abs, [.d (.int i)] => some (.u (.d (.int (if i < 0 then -i else i))))
  | .list, [u] => listP st u
  | .tuple, [u] => tupleP st u
  | .sorted, [u] => (sortSrc st u).bind fun us => (trees us).bind fun xs => if xs.all isI || xs.all isP then some (.lst (ofD (srtD xs))) else none
  | .sum, [u] => (lstOf st u).bind fun us => (trees us).bind fun xs => (intsOf xs).map fun ns => .u (.d (.int ns.sum))
  | .maxL, [u] => (lstOf st u).bind fun us => (trees us).bind fun xs => (intsOf xs).bind fun ns => ns.max?.map fun m => .u (.d (.int m))
  | .minL, [u] => (lstOf st u).bind fun us => (trees us).bind fun xs => (intsOf xs).bind fun ns => ns.min?.map fun m => .u (.d (.int m))
  | .join, [.d (.str s), u] => (lstOf st u).bind fun us => (trees us).bind fun xs => (strsOf xs).bind fun zs =>
      chk ((zs.map (·.length)).sum + zs.length * s.length ≤ 16777216) (.u (.d (.str (Txt.join s zs))))
  | _, _ => none

end Z
/-! Z2: how the language's state stands in the abstract heap of the hand layer. -/
namespace Z
open PySem PySem.Spec PyProof.Rows L2

/-- never changed any more -/
def Fz : HO → Prop
  | .frz _ _ => True
  | .tup _ => True
  | .ext _ => True
  | _ => False
/-- what a cell may be -/
def MutC : Option HO → Prop
  | some (.lst _) => True
  | some (.dK _) => True
  | some (.dT _) => True
  | some (.ins _ _ _) => True
  | _ => False
theorem MutC.mut {o : Option HO} (h : MutC o) : L2.Mut o := by
  cases o with
  | none => exact h
  | some o => cases o <;> first | exact h | exact h.elim
def NTbl (o : HO) : Prop := ∀ ps, o ≠ .tbl ps
theorem Fz.nt {o : HO} (h : Fz o) : NTbl o := fun ps e => by subst e; exact h
/-- a list that stays as it is -/
def FzL (K : PySem.W.Frag) (H : Hp) (a : Addr) (vs : List V) : Prop := (∃ o, H a = some (.frz o (.lst vs))) ∨ (SqL K (fun _ => none) a vs)
def FzT (K : PySem.W.Frag) (H : Hp) (a : Addr) (vs : List V) : Prop := H a = some (.tup vs)
theorem rd_none {a : Addr} {u : HO} (h : Rd (fun _ => none) a u) : False := by
  rcases h with h | ⟨o, h⟩ <;> cases h
theorem FzL.sq {K : PySem.W.Frag} {H : Hp} {a : Addr} {vs : List V} (h : FzL K H a vs) : SqL K H a vs := by
  rcases h with h | h
  · exact .inl (.inr h)
  · rcases h with h | h
    · exact (rd_none h).elim
    · exact .inr h
theorem FzT.sq {K : PySem.W.Frag} {H : Hp} {a : Addr} {vs : List V} (h : FzT K H a vs) : SqT K H a vs := .inl (.inl h)
/-- a dict that stays as it is -/
def FzK (H : Hp) (a : Addr) (es : List (Key × V)) : Prop := ∃ o, H a = some (.frz o (.dK es))
def FzKT (H : Hp) (a : Addr) (es : List (List Key × V)) : Prop := ∃ o, H a = some (.frz o (.dT es))
def kvD : Key → PyData
  | .inl i => .int i
  | .inr x => .str x
/-- the first module dict, known apart -/
def SysPhi : Heap → Prop := fun h => ∃ o es ep, h.get? sysModules = some o ∧ o.data = .dict es ep
def SysOk (K : PySem.W.Frag) (H : Hp) : Prop := (∃ o, H sysModules = some (.frz o (.ext SysPhi))) ∨ ∃ o es ep, K.lookup sysModules = some o ∧ o.data = .dict es ep

/-- a table of code objects that goes on -/
theorem tabS_go {H H' : Hp} {P : Addr} {q : Str} (h : LamX.TabS H P q) (m : ∀ b o, Fz o → H b = some o → H' b = some o) (t : ∀ b ps, H b = some (.tbl ps) → H' b = some (.tbl ps)) : LamX.TabS H' P q := by
  obtain ⟨ps, h1, h2, h3⟩ := h
  refine ⟨ps, t _ _ h1, h2, fun pos cv hc => ?_⟩
  obtain ⟨c, e1, e2⟩ := h3 pos cv hc
  exact ⟨c, e1, m _ _ trivial e2⟩
/-- an exception of a class, caught and kept -/
def ExK (cls : Value) (a : Addr) : HO := .ext fun h => ∃ (oe : Obj) (vs : Array Value), h.get? a = some oe ∧ oe.cls = cls ∧ oe.dict = none ∧ oe.data = .fields vs
mutual
/-- a value shows a tree, and will -/
inductive Rp (K : PySem.W.Frag) (w : World) (H : Hp) : V → PyData → Prop
  | non : Rp K w H .non .none
  | bl (b : Bool) : Rp K w H (.bl b) (.bool b)
  | int (i : Int) : Rp K w H (.int i) (.int i)
  | str (x : Str) : Rp K w H (.str x) (.str x)
  | lst {a : Addr} {vs : List V} {xs : List PyData} : FzL K H a vs → RpAll K w H vs xs → Rp K w H (.ref a) (.list xs)
  | tup {a : Addr} {vs : List V} {xs : List PyData} : FzT K H a vs → RpAll K w H vs xs → Rp K w H (.ref a) (.tuple xs)
  | dct {a : Addr} {es : List (Key × V)} {kvs : List (PyData × PyData)} : FzK H a es → RpK K w H es kvs → Rp K w H (.ref a) (.dict kvs)
  | dctT {a : Addr} {es : List (List Key × V)} {kvs : List (PyData × PyData)} : FzKT H a es → RpKT K w H es kvs → Rp K w H (.ref a) (.dict kvs)
inductive RpAll (K : PySem.W.Frag) (w : World) (H : Hp) : List V → List PyData → Prop
  | nil : RpAll K w H [] []
  | cons {v : V} {vs : List V} {x : PyData} {xs : List PyData} : Rp K w H v x → RpAll K w H vs xs → RpAll K w H (v :: vs) (x :: xs)
inductive RpK (K : PySem.W.Frag) (w : World) (H : Hp) : List (Key × V) → List (PyData × PyData) → Prop
  | nil : RpK K w H [] []
  | cons {k : Key} {v : V} {es : List (Key × V)} {b : PyData} {kvs : List (PyData × PyData)} : Rp K w H v b → RpK K w H es kvs → RpK K w H ((k, v) :: es) ((kvD k, b) :: kvs)
inductive RpKT (K : PySem.W.Frag) (w : World) (H : Hp) : List (List Key × V) → List (PyData × PyData) → Prop
  | nil : RpKT K w H [] []
  | cons {k : List Key} {v : V} {es : List (List Key × V)} {b : PyData} {kvs : List (PyData × PyData)} : Rp K w H v b → RpKT K w H es kvs → RpKT K w H ((k, v) :: es) ((.tuple (k.map kvD), b) :: kvs)
end
section
variable {K : PySem.W.Frag} {w : World} {H H' : Hp}
theorem FzL.mono (m : ∀ b o, Fz o → H b = some o → H' b = some o) {a : Addr} {vs : List V} (h : FzL K H a vs) : FzL K H' a vs := by
  rcases h with ⟨o, h⟩ | h
  · exact .inl ⟨o, m _ _ trivial h⟩
  · exact .inr h
theorem FzT.mono (m : ∀ b o, Fz o → H b = some o → H' b = some o) {a : Addr} {vs : List V} (h : FzT K H a vs) : FzT K H' a vs := m _ _ trivial h
theorem FzK.mono (m : ∀ b o, Fz o → H b = some o → H' b = some o) {a : Addr} {es : List (Key × V)} (h : FzK H a es) : FzK H' a es := by
  obtain ⟨o, h⟩ := h
  exact ⟨o, m _ _ trivial h⟩
theorem FzKT.mono (m : ∀ b o, Fz o → H b = some o → H' b = some o) {a : Addr} {es : List (List Key × V)} (h : FzKT H a es) : FzKT H' a es := by
  obtain ⟨o, h⟩ := h
  exact ⟨o, m _ _ trivial h⟩
theorem SysOk.mono (m : ∀ b o, Fz o → H b = some o → H' b = some o) (h : SysOk K H) : SysOk K H' := by
  rcases h with ⟨o, h⟩ | h
  · exact .inl ⟨o, m _ _ trivial h⟩
  · exact .inr h
mutual
theorem Rp.mono (m : ∀ b o, Fz o → H b = some o → H' b = some o) : ∀ {x : PyData} {v : V}, Rp K w H v x → Rp K w H' v x
  | .none, _, h => by cases h; exact .non
  | .bool b, _, h => by cases h; exact .bl b
  | .int i, _, h => by cases h; exact .int i
  | .str x, _, h => by cases h; exact .str x
  | .list xs, _, h => by cases h with | lst a b => exact .lst (a.mono m) (RpAll.mono m b)
  | .tuple xs, _, h => by cases h with | tup a b => exact .tup (a.mono m) (RpAll.mono m b)
  | .dict kvs, _, h => by
    cases h with
    | dct a b => exact .dct (a.mono m) (RpK.mono m b)
    | dctT a b => exact .dctT (a.mono m) (RpKT.mono m b)
theorem RpAll.mono (m : ∀ b o, Fz o → H b = some o → H' b = some o) : ∀ {xs : List PyData} {vs : List V}, RpAll K w H vs xs → RpAll K w H' vs xs
  | [], _, h => by cases h; exact .nil
  | x :: xs, _, h => by cases h with | cons a b => exact .cons (Rp.mono m a) (RpAll.mono m b)
theorem RpK.mono (m : ∀ b o, Fz o → H b = some o → H' b = some o) : ∀ {kvs : List (PyData × PyData)} {es : List (Key × V)}, RpK K w H es kvs → RpK K w H' es kvs
  | [], _, h => by cases h; exact .nil
  | (a, b) :: kvs, _, h => by cases h with | cons b c => exact .cons (Rp.mono m b) (RpK.mono m c)
theorem RpKT.mono (m : ∀ b o, Fz o → H b = some o → H' b = some o) : ∀ {kvs : List (PyData × PyData)} {es : List (List Key × V)}, RpKT K w H es kvs → RpKT K w H' es kvs
  | [], _, h => by cases h; exact .nil
  | (a, b) :: kvs, _, h => by cases h with | cons b c => exact .cons (Rp.mono m b) (RpKT.mono m c)
end
mutual
theorem Rp.dp : ∀ {x : PyData} {v : V}, x.canLay0 = true → Rp K w H v x → Dp K H v x
  | .none, _, _, h => by cases h; exact .non
  | .bool b, _, _, h => by cases h; exact .bl b
  | .int i, _, _, h => by cases h; exact .int i
  | .str x, _, _, h => by cases h; exact .str x
  | .list xs, _, c, h => by cases h with | lst a b => exact .lst a.sq (RpAll.dp (by simpa [PyData.canLay0] using c) b)
  | .tuple xs, _, c, h => by cases h with | tup a b => exact .tup a.sq (RpAll.dp (by simpa [PyData.canLay0] using c) b)
  | .dict kvs, _, c, h => by simp [PyData.canLay0] at c
theorem RpAll.dp : ∀ {xs : List PyData} {vs : List V}, PyData.canLayAll0 xs = true → RpAll K w H vs xs → DpAll K H vs xs
  | [], _, _, h => by cases h; exact .nil
  | x :: xs, _, c, h => by
    cases h with
    | cons a b =>
      have c' : x.canLay0 = true ∧ PyData.canLayAll0 xs = true := by simpa [PyData.canLayAll0] using c
      exact .cons (Rp.dp c'.1 a) (RpAll.dp c'.2 b)
end
theorem RpAll.length {xs : List PyData} : ∀ {vs : List V}, RpAll K w H vs xs → vs.length = xs.length := by
  induction xs with
  | nil => intro vs h; cases h; rfl
  | cons x r ih => intro vs h; cases h with | cons a b => simp [ih b]
theorem RpAll.paired : ∀ {xs : List PyData} {vs : List V}, RpAll K w H vs xs → Paired (Rp K w H) vs xs
  | [], _, h => by cases h; exact .nil
  | x :: xs, _, h => by cases h with | cons a b => exact .cons a b.paired
theorem RpAll.of : ∀ {vs : List V} {xs : List PyData}, Paired (Rp K w H) vs xs → RpAll K w H vs xs
  | _, _, .nil => .nil
  | _, _, .cons a b => .cons a (RpAll.of b)
end

/-- what stays through a law -/
structure Cc where
  prog : Program
  w : World
  K : PySem.W.Frag
  fa : Nat → Option Addr
  ca : Nat → Option Addr
  tb : List (Addr × Str)
structure SysT (C : Cc) (H : Hp) : Prop where
  sys : SysOk C.K H
  tab : LamX.Tabs C.tb H
theorem SysT.mono {C : Cc} {H H' : Hp} (h : SysT C H) (m : ∀ b o, Fz o → H b = some o → H' b = some o) (t : ∀ b ps, H b = some (.tbl ps) → H' b = some (.tbl ps)) : SysT C H' := ⟨h.sys.mono m, fun p hp => tabS_go (h.tab p hp) m t⟩

inductive RpU (C : Cc) (A : List Addr) (H : Hp) : V → U → Prop
  | d {v : V} {x : PyData} : Rp C.K C.w H v x → RpU C A H v (.d x)
  | cell {a : Addr} {n : Nat} : A[n]? = some a → RpU C A H (.ref a) (.cell n)
  | fn {a : Addr} {f : Nat} : C.fa f = some a → RpU C A H (.ref a) (.fn f)
  | exc {a b : Addr} {c : Nat} : C.ca c = some b → H a = some (ExK (.ref b) a) → RpU C A H (.ref a) (.exc c)
abbrev RpUs (C : Cc) (A : List Addr) (H : Hp) : List V → List U → Prop := Paired (RpU C A H)

def CellR (C : Cc) (A : List Addr) (H : Hp) (a : Addr) : Cont → Prop
  | .lst us => ∃ vs, H a = some (.lst vs) ∧ RpUs C A H vs us
  | .dct false kvs => ∃ es, H a = some (.dK es) ∧ Paired (fun (e : Key × V) (kv : PyData × U) => kv.1 = kvD e.1 ∧ RpU C A H e.2 kv.2) es kvs
  | .dct true kvs => ∃ es, H a = some (.dT es) ∧ Paired (fun (e : List Key × V) (kv : PyData × U) => kv.1 = .tuple (e.1.map kvD) ∧ RpU C A H e.2 kv.2) es kvs
  | .fdct false kvs => ∃ es o, H a = some (.frz o (.dK es)) ∧ Paired (fun (e : Key × V) (kv : PyData × U) => kv.1 = kvD e.1 ∧ RpU C A H e.2 kv.2) es kvs
  | .fdct true kvs => ∃ es o, H a = some (.frz o (.dT es)) ∧ Paired (fun (e : List Key × V) (kv : PyData × U) => kv.1 = .tuple (e.1.map kvD) ∧ RpU C A H e.2 kv.2) es kvs
  | .obj c fs => ∃ b dx gs, C.ca c = some b ∧ H a = some (.ins b dx gs) ∧ Paired (fun (e : Str × V) (kv : Str × U) => e.1 = kv.1 ∧ RpU C A H e.2 kv.2) gs fs
  | .dead => ∃ o, H a = some o ∧ NTbl o

structure Cn (C : Cc) (base : Nat) (A : List Addr) (τ : Vars) (st : Store) (σ : L2.St) (H : Hp) : Prop where
  len : A.length = st.length
  nd : A.Nodup
  le : base ≤ st.length
  cells : ∀ (n : Nat) (c : Cont), st[n]? = some c → ∃ a, A[n]? = some a ∧ CellR C (if n < base then A.take base else A) H a c
  vlen : τ.length = σ.length
  vars : ∀ (i : Nat) (u : U), τ[i]? = some (some u) → ∃ v, σ[i]? = some (some v) ∧ RpU C A H v u
  sys : SysT C H

/-- the heap goes on: what is frozen stays, what is no cell stays -/
structure Gr (A : List Addr) (H : Hp) (A' : List Addr) (H' : Hp) : Prop where
  pre : A <+: A'
  new : ∀ a ∈ A', a ∉ A → ∀ o, H a = some o → ¬ NTbl o
  ext : ∀ b o, H b = some o → NTbl o → (b ∉ A ∨ Fz o) → H' b = some o
  dom : ∀ b o, H b = some o → NTbl o → ∃ o', H' b = some o' ∧ NTbl o'

section
variable {C : Cc} {A A' A2 : List Addr} {H H' H2 : Hp} {a : Addr} {v : V} {u : U} {st : Store} {τ : Vars} {σ : L2.St} {base : Nat}
theorem Gr.refl : Gr A H A H := ⟨List.prefix_rfl, fun _ h n => (n h).elim, fun _ _ h _ _ => h, fun _ o h t => ⟨o, h, t⟩⟩
theorem Gr.fz (g : Gr A H A' H') : ∀ b o, Fz o → H b = some o → H' b = some o := fun b o f h => g.ext b o h f.nt (.inr f)
theorem Gr.trans (g : Gr A H A' H') (k : Gr A' H' A2 H2) : Gr A H A2 H2 := by
  refine ⟨g.pre.trans k.pre, fun a h n o e t => ?_, fun b o h t c => ?_, fun b o h t => ?_⟩
  · by_cases q : a ∈ A'
    · exact g.new a q n o e t
    · obtain ⟨o', e', t'⟩ := g.dom a o e t
      exact k.new a h q o' e' t'
  · refine k.ext b o (g.ext b o h t c) t ?_
    rcases c with c | c
    · by_cases q : b ∈ A'
      · exact absurd t (g.new b q c o h)
      · exact .inl q
    · exact .inr c
  · obtain ⟨o', h', t'⟩ := g.dom b o h t
    exact k.dom b o' h' t'
theorem RpU.mono (m : ∀ b o, Fz o → H b = some o → H' b = some o) (p : A <+: A') (h : RpU C A H v u) : RpU C A' H' v u := by
  cases h with
  | d h => exact .d (h.mono m)
  | cell h =>
    obtain ⟨t, rfl⟩ := p
    refine .cell ?_
    rw [List.getElem?_append_left (by exact (List.getElem?_eq_some_iff.mp h).1)]
    exact h
  | fn h => exact .fn h
  | exc h1 h2 => exact .exc h1 (m _ _ trivial h2)
theorem RpU.gr (g : Gr A H A' H') (h : RpU C A H v u) : RpU C A' H' v u := h.mono g.fz g.pre
theorem RpUs.mono (m : ∀ b o, Fz o → H b = some o → H' b = some o) (p : A <+: A') {vs : List V} {us : List U} (h : RpUs C A H vs us) : RpUs C A' H' vs us := Paired.mapP h fun _ _ q => q.mono m p
theorem RpUs.gr (g : Gr A H A' H') {vs : List V} {us : List U} (h : RpUs C A H vs us) : RpUs C A' H' vs us := RpUs.mono g.fz g.pre h
theorem RpUs.trees {us : List U} : ∀ {vs : List V} {xs : List PyData}, RpUs C A H vs us → Z.trees us = some xs → RpAll C.K C.w H vs xs := by
  induction us with
  | nil => intro vs xs h e; cases h; cases e; exact .nil
  | cons u r ih =>
    intro vs xs h e
    cases h with
    | cons a b =>
      cases u with
      | d x =>
        simp only [Z.trees, Option.map_eq_some_iff] at e
        obtain ⟨ys, e1, rfl⟩ := e
        cases a with
        | d a => exact .cons a (ih b e1)
      | cell n => cases e
      | fn f => cases e
      | exc c => cases e
theorem RpUs.ofD {xs : List PyData} : ∀ {vs : List V}, RpAll C.K C.w H vs xs → RpUs C A H vs (Z.ofD xs) := by
  induction xs with
  | nil => intro vs h; cases h; exact .nil
  | cons x r ih => intro vs h; cases h with | cons a b => exact .cons (.d a) (ih b)
theorem RpUs.get {us : List U} : ∀ {vs : List V} {i : Nat} {u : U}, RpUs C A H vs us → us[i]? = some u → ∃ v, vs[i]? = some v ∧ RpU C A H v u := by
  induction us with
  | nil => intro vs i u h e; simp at e
  | cons x r ih =>
    intro vs i u h e
    cases h with
    | cons a b =>
      cases i with
      | zero => simp at e; subst e; exact ⟨_, rfl, a⟩
      | succ i =>
        obtain ⟨v, h1, h2⟩ := ih b (by simpa using e)
        exact ⟨v, by simpa using h1, h2⟩

theorem CellR.mono (m : ∀ b o, Fz o → H b = some o → H' b = some o) (p : A <+: A') (k : ∀ o, H a = some o → NTbl o → H' a = some o) {c : Cont} (h : CellR C A H a c) : CellR C A' H' a c := by
  cases c with
  | lst us => obtain ⟨vs, h1, h2⟩ := h; exact ⟨vs, k _ h1 (fun _ e => nomatch e), RpUs.mono m p h2⟩
  | dct t kvs => cases t <;> (obtain ⟨es, h1, h2⟩ := h; exact ⟨es, k _ h1 (fun _ e => nomatch e), Paired.mapP h2 fun _ _ q => ⟨q.1, q.2.mono m p⟩⟩)
  | fdct t kvs => cases t <;> (obtain ⟨es, o, h1, h2⟩ := h; exact ⟨es, o, k _ h1 (fun _ e => nomatch e), Paired.mapP h2 fun _ _ q => ⟨q.1, q.2.mono m p⟩⟩)
  | obj c fs => obtain ⟨b, dx, gs, h1, h2, h3⟩ := h; exact ⟨b, dx, gs, h1, k _ h2 (fun _ e => nomatch e), Paired.mapP h3 fun _ _ q => ⟨q.1, q.2.mono m p⟩⟩
  | dead => obtain ⟨o, h1, h2⟩ := h; exact ⟨o, k o h1 h2, h2⟩
theorem CellR.ex {c : Cont} (h : CellR C A H a c) : ∃ o, H a = some o ∧ NTbl o := by
  cases c with
  | lst us => obtain ⟨vs, h1, h2⟩ := h; exact ⟨_, h1, (fun _ e => nomatch e)⟩
  | dct t kvs => cases t <;> (obtain ⟨es, h1, h2⟩ := h; exact ⟨_, h1, (fun _ e => nomatch e)⟩)
  | fdct t kvs => cases t <;> (obtain ⟨es, o, h1, h2⟩ := h; exact ⟨_, h1, (fun _ e => nomatch e)⟩)
  | obj c fs => obtain ⟨b, dx, gs, h1, h2, h3⟩ := h; exact ⟨_, h2, (fun _ e => nomatch e)⟩
  | dead => exact h
theorem Cn.at (c : Cn C base A τ st σ H) (h : a ∈ A) : ∃ n k, st[n]? = some k ∧ A[n]? = some a ∧ CellR C (if n < base then A.take base else A) H a k := by
  obtain ⟨n, h1, h2⟩ := List.mem_iff_getElem.mp h
  have h3 : n < st.length := by rw [← c.len]; exact h1
  obtain ⟨b, e1, e2⟩ := c.cells n st[n] (List.getElem?_eq_getElem h3)
  have e3 : A[n]? = some a := by rw [List.getElem?_eq_getElem h1, h2]
  rw [e3] at e1; cases e1
  exact ⟨n, st[n], List.getElem?_eq_getElem h3, e3, e2⟩
theorem Cn.ex (c : Cn C base A τ st σ H) (h : a ∈ A) : ∃ o, H a = some o ∧ NTbl o := by
  obtain ⟨n, k, _, _, r⟩ := c.at h
  exact r.ex
theorem Cn.fresh (c : Cn C base A τ st σ H) (h : H a = none) : a ∉ A := fun q => by
  obtain ⟨o, e, _⟩ := c.ex q; rw [h] at e; cases e
theorem ifpre {n base : Nat} {A A' : List Addr} (p : A <+: A') (hb : base ≤ A.length) : (if n < base then A.take base else A) <+: (if n < base then A'.take base else A') := by
  split
  · obtain ⟨t, rfl⟩ := p
    rw [List.take_append_of_le_length hb]
    exact List.prefix_rfl
  · exact p
/-- the heap grows beside the cells -/
theorem Cn.keep (c : Cn C base A τ st σ H) (g : Gr A H A H') (t : ∀ b ps, H b = some (.tbl ps) → H' b = some (.tbl ps)) (k : ∀ b ∈ A, ∀ o, H b = some o → NTbl o → H' b = some o) : Cn C base A τ st σ H' := by
  refine ⟨c.len, c.nd, c.le, fun n x e => ?_, c.vlen, fun i u e => ?_, c.sys.mono g.fz t⟩
  · obtain ⟨a, h1, h2⟩ := c.cells n x e
    exact ⟨a, h1, h2.mono g.fz List.prefix_rfl (k a (List.mem_of_getElem? h1))⟩
  · obtain ⟨v, h1, h2⟩ := c.vars i u e
    exact ⟨v, h1, h2.gr g⟩
/-- a new address beside the cells -/
theorem Gr.lay {p : Addr} {o : HO} (hn : H p = none) : Gr A H A (upd H p o) := by
  refine ⟨List.prefix_rfl, fun _ h n => (n h).elim, fun b x h _ _ => ?_, fun b x h t => ?_⟩
  · rw [upd_ne (ne_of_none h hn)]; exact h
  · exact ⟨x, by rw [upd_ne (ne_of_none h hn)]; exact h, t⟩
theorem Cn.beside {p : Addr} {o : HO} (c : Cn C base A τ st σ H) (hn : H p = none) : Cn C base A τ st σ (upd H p o) :=
  c.keep (Gr.lay hn) (fun b ps h => by rw [upd_ne (ne_of_none h hn)]; exact h) fun b _ x h _ => by rw [upd_ne (ne_of_none h hn)]; exact h
/-- a new cell -/
theorem Gr.newCell {p : Addr} {o : HO} (c : Cn C base A τ st σ H) (hn : H p = none) : Gr A H (A ++ [p]) (L2.upd H p o) := by
  refine ⟨List.prefix_append _ _, fun a h n => ?_, (Gr.lay (A := A) hn).ext, (Gr.lay (A := A) hn).dom⟩
  rcases List.mem_append.mp h with h | h
  · exact (n h).elim
  · rw [List.mem_singleton.mp h]; intro o e; rw [hn] at e; cases e
theorem Cn.newCell {p : Addr} {o : HO} {k : Cont} (c : Cn C base A τ st σ H) (hn : H p = none) (hk : CellR C (A ++ [p]) (L2.upd H p o) p k) :
    Cn C base (A ++ [p]) τ (st ++ [k]) σ (L2.upd H p o) := by
  have g := Gr.newCell (o := o) c hn
  have hp := c.fresh hn
  refine ⟨by simp [c.len], ?_, by have := c.le; simp; omega, fun n x e => ?_, c.vlen, fun i u e => ?_, c.sys.mono g.fz fun b ps h => by rw [upd_ne (ne_of_none h hn)]; exact h⟩
  · rw [List.nodup_append]
    refine ⟨c.nd, by simp, fun x hx y hy e => ?_⟩
    rw [List.mem_singleton.mp hy] at e
    exact hp (e ▸ hx)
  · by_cases hlt : n < st.length
    · rw [List.getElem?_append_left hlt] at e
      obtain ⟨a, h1, h2⟩ := c.cells n x e
      refine ⟨a, by rw [List.getElem?_append_left (by rw [c.len]; exact hlt)]; exact h1, h2.mono g.fz ?_ fun q h _ => by rw [upd_ne (ne_of_none h hn)]; exact h⟩
      exact ifpre (List.prefix_append _ _) (by rw [c.len]; exact c.le)
    · have e2 : n = st.length := by
        have := (List.getElem?_eq_some_iff.mp e).1
        simp at this; omega
      subst e2
      rw [List.getElem?_append_right (by omega)] at e
      simp at e
      subst e
      refine ⟨p, by rw [List.getElem?_append_right (by rw [c.len]; omega)]; simp [c.len], ?_⟩
      rw [if_neg (by have := c.le; omega)]
      exact hk
  · obtain ⟨v, h1, h2⟩ := c.vars i u e
    exact ⟨v, h1, h2.gr g⟩
theorem Cn.cellNew (c : Cn C base A τ st σ H) {p : Addr} {H' : Hp} : RpU C (A ++ [p]) H' (.ref p) (.cell st.length) :=
  .cell (by rw [List.getElem?_append_right (by rw [c.len]; omega)]; simp [c.len])
/-- a cell is written -/
theorem mutC_ne {x : HO} {b : Addr} (hm : MutC (H a)) (h : H b = some x) (q : Fz x ∨ ∃ ps, x = .tbl ps) : b ≠ a := by
  rintro rfl
  rw [h] at hm
  rcases q with q | ⟨ps, rfl⟩
  · cases x <;> first | exact hm | exact q
  · exact hm
theorem Gr.write {n : Nat} {o : HO} (hm : MutC (H a)) (hc : a ∈ A) (ht : NTbl o := by exact fun _ e => nomatch e) : Gr A H A (L2.upd H a o) := by
  refine ⟨List.prefix_rfl, fun _ h n => (n h).elim, fun b x h _ q => ?_, fun b x h t => ?_⟩
  · have : b ≠ a := by
      rcases q with q | q
      · exact fun z => q (z ▸ hc)
      · exact mutC_ne hm h (.inl q)
    rw [upd_ne this]; exact h
  · by_cases e : b = a
    · subst e; exact ⟨o, upd_same, ht⟩
    · exact ⟨x, by rw [upd_ne e]; exact h, t⟩
theorem Cn.write {n : Nat} {o : HO} {k : Cont} (c : Cn C base A τ st σ H) (ha : A[n]? = some a) (hm : MutC (H a))
    (hk : CellR C (if n < base then A.take base else A) (L2.upd H a o) a k) : Cn C base A τ (st.set n k) σ (L2.upd H a o) := by
  have hc : a ∈ A := List.mem_of_getElem? ha
  have ht : NTbl o := by
    obtain ⟨o', e, t⟩ := hk.ex
    rw [upd_same] at e; cases e; exact t
  have g : Gr A H A (L2.upd H a o) := Gr.write (n := n) hm hc ht
  refine ⟨by simp [c.len], c.nd, by simpa using c.le, fun m x e => ?_, c.vlen, fun i u e => ?_, c.sys.mono g.fz fun b ps h => by rw [upd_ne (mutC_ne hm h (.inr ⟨ps, rfl⟩))]; exact h⟩
  · by_cases hmn : n = m
    · subst hmn
      have hlt : n < st.length := by rw [← c.len]; exact (List.getElem?_eq_some_iff.mp ha).1
      rw [List.getElem?_set_self hlt] at e
      cases e
      exact ⟨a, ha, hk⟩
    · rw [List.getElem?_set_ne hmn] at e
      obtain ⟨b, h1, h2⟩ := c.cells m x e
      refine ⟨b, h1, h2.mono g.fz List.prefix_rfl fun q h _ => ?_⟩
      have : b ≠ a := by
        rintro rfl
        exact hmn ((List.getElem?_inj (List.getElem?_eq_some_iff.mp ha).1 c.nd).mp (ha.trans h1.symm))
      rw [upd_ne this]; exact h
  · obtain ⟨v, h1, h2⟩ := c.vars i u e
    exact ⟨v, h1, h2.gr g⟩
theorem Cn.setVar {i : Nat} (c : Cn C base A τ st σ H) (h : RpU C A H v u) : Cn C base A (τ.set i (some u)) st (σ.set i (some v)) H := by
  refine ⟨c.len, c.nd, c.le, c.cells, by simpa using c.vlen, fun j x e => ?_, c.sys⟩
  by_cases hij : i = j
  · subst hij
    have hl : i < τ.length := by have := (List.getElem?_eq_some_iff.mp e).1; simpa using this
    rw [List.getElem?_set_self hl] at e
    cases e
    exact ⟨v, by rw [List.getElem?_set_self (by rw [← c.vlen]; exact hl)], h⟩
  · rw [List.getElem?_set_ne hij] at e
    obtain ⟨y, h1, h2⟩ := c.vars j x e
    exact ⟨y, by rw [List.getElem?_set_ne hij]; exact h1, h2⟩
end
end Z
/-! Z3: readings by the small language's meaning; the operators and built-ins. -/
namespace Z
open PySem PySem.Spec PyProof.Rows L2

abbrev WX := Value → Option Addr → L2.St → Hp → Prop
section
variable {α β γ δ : Type}
/-- what follows an answer -/
def Aft (C : Cc) (base : Nat) (W : Z.WX) (R : List Addr → Hp → β → α → Prop) (A : List Addr) (H : Hp) (τ : Vars) (σ : L2.St) : Res α → (β → Hp → Prop) → Prop
  | .ok a st', Q => ∀ b H' A', Gr A H A' H' → Cn C base A' τ st' σ H' → R A' H' b a → Q b H'
  | .exc c st', _ => ∀ H' A' k, Gr A H A' H' → Cn C base A' τ st' σ H' → C.ca c = some k → W (.ref k) none σ H'
  | .bad, _ => False
def Rd (C : Cc) (base : Nat) (W : Z.WX) (R : List Addr → Hp → β → α → Prop) (f : Vars → Store → Res α) : L2.St → Hp → (β → Hp → Prop) → Prop := fun σ H Q =>
  ∃ A τ st, Cn C base A τ st σ H ∧ Aft C base W R A H τ σ (f τ st) Q
variable {C : Cc} {base : Nat} {W : Z.WX} {R1 : List Addr → Hp → β → α → Prop} {R2 : List Addr → Hp → δ → γ → Prop} {A A' : List Addr} {H H' : Hp} {τ : Vars} {σ : L2.St}
theorem Aft.gr {r : Res α} {Q : β → Hp → Prop} (h : Aft C base W R1 A H τ σ r Q) (g : Gr A H A' H') : Aft C base W R1 A' H' τ σ r Q := by
  cases r with
  | ok a st => exact fun b H2 A2 k => h b H2 A2 (g.trans k)
  | exc c st => exact fun H2 A2 b k => h H2 A2 b (g.trans k)
  | bad => exact h
theorem Aft.imp {r : Res α} {Q Q' : β → Hp → Prop} (h : Aft C base W R1 A H τ σ r Q) (i : ∀ b H, Q b H → Q' b H) : Aft C base W R1 A H τ σ r Q' := by
  cases r with
  | ok a st => exact fun b H2 A2 k c q => i _ _ (h b H2 A2 k c q)
  | exc c st => exact h
  | bad => exact h
/-- the first step -/
theorem Aft.bind {r : Res α} {g : α → Store → Res γ} {Q : δ → Hp → Prop} (h : Aft C base W R2 A H τ σ (r.bind g) Q) :
    Aft C base W R1 A H τ σ r (fun b H1 => ∃ A1 st1 a, Gr A H A1 H1 ∧ Cn C base A1 τ st1 σ H1 ∧ R1 A1 H1 b a ∧ Aft C base W R2 A1 H1 τ σ (g a st1) Q) := by
  cases r with
  | ok a st => exact fun b H2 A2 k c q => ⟨A2, st, a, k, c, q, Aft.gr h k⟩
  | exc c st => exact h
  | bad => exact h
theorem Rd.bind {f : Vars → Store → Res α} {g : Vars → α → Store → Res γ} {Q : δ → Hp → Prop} (h : Rd C base W R2 (fun τ st => (f τ st).bind (g τ)) σ H Q) :
    Rd C base W R1 f σ H (fun b H1 => ∃ A1 τ st1 a, Cn C base A1 τ st1 σ H1 ∧ R1 A1 H1 b a ∧ Aft C base W R2 A1 H1 τ σ (g τ a st1) Q) := by
  obtain ⟨A, τ, st, c, h⟩ := h
  exact ⟨A, τ, st, c, h.bind.imp fun b H1 ⟨A1, st1, a, _, c1, r, q⟩ => ⟨A1, τ, st1, a, c1, r, q⟩⟩
/-- a further step: what was there before is carried on -/
theorem Aft.next {f : Vars → Store → Res α} {g : α → Store → Res γ} {st : Store} {Q : δ → Hp → Prop} (c : Cn C base A τ st σ H) (h : Aft C base W R2 A H τ σ ((f τ st).bind g) Q) :
    Rd C base W R1 f σ H (fun b H1 => ∃ A1 st1 a, Gr A H A1 H1 ∧ Cn C base A1 τ st1 σ H1 ∧ R1 A1 H1 b a ∧ Aft C base W R2 A1 H1 τ σ (g a st1) Q) := ⟨A, τ, st, c, h.bind⟩
theorem Rd.imp {f : Vars → Store → Res α} {Q Q' : β → Hp → Prop} (h : Rd C base W R1 f σ H Q) (i : ∀ b H, Q b H → Q' b H) : Rd C base W R1 f σ H Q' := by
  obtain ⟨A, τ, st, c, h⟩ := h
  exact ⟨A, τ, st, c, h.imp i⟩
end
abbrev RU (C : Cc) : List Addr → Hp → V → U → Prop := RpU C
abbrev RUs (C : Cc) : List Addr → Hp → List V → List U → Prop := RpUs C
abbrev RB : List Addr → Hp → Bool → Bool → Prop := fun _ _ a b => a = b
abbrev RdU (C : Cc) (base : Nat) (W : Z.WX) (f : Vars → Store → Res U) : TE := Rd C base W (RU C) f
abbrev RdUs (C : Cc) (base : Nat) (W : Z.WX) (f : Vars → Store → Res (List U)) : TA := Rd C base W (RUs C) f
abbrev RdB (C : Cc) (base : Nat) (W : Z.WX) (f : Vars → Store → Res Bool) : TT := Rd C base W RB f

/-- the context that a body runs in -/
structure Okc (X : Cx) (C : Cc) (W : Z.WX) : Prop where
  prog : X.prog = C.prog
  w : X.w = C.w
  K : X.K = C.K
  nd : X.N.Nodup
  units : X.A.units + 100 < cLine
  guards : X.A.guards = some []
  calm : X.calm = true

/-! ### freezing a new list -/
def QF (Q : VK) : VK := fun v H => Q v H ∨ ∃ p u, v = .ref p ∧ H p = some u ∧ L2.Mut (some u) ∧ ∀ o, Q v (upd H p (.frz o u))
theorem ep_fz {X : Cx} {pins : List (Addr × Obj)} {σ : L2.St} {Q : VK} {u : Value} {s : Shared} (h : EP X pins σ (QF Q) u s) : EP X pins σ Q u s := by
  obtain ⟨v, H, I, r, q⟩ := h
  rcases q with q | ⟨p, w, rfl, e, mu, q⟩
  · exact ⟨v, H, I, r, q⟩
  · obtain ⟨o, J⟩ := I.lock e mu
    exact ⟨_, _, J, r, q o⟩
theorem pe_fz {X : Cx} {e : Expr} {t t' : TE} (h : PE X e t) (i : ∀ σ H Q, t' σ H Q → t σ H (QF Q)) : PE X e t' :=
  ⟨fun pins s σ H Q I q => thn (h.run pins s σ H _ I (i σ H Q q)) fun _ _ z => ep_fz z⟩
theorem pe_imp {X : Cx} {e : Expr} {t t' : TE} (h : PE X e t) (i : ∀ σ H Q, t' σ H Q → t σ H Q) : PE X e t' :=
  ⟨fun pins s σ H Q I q => h.run pins s σ H Q I (i σ H Q q)⟩
theorem pt_imp {X : Cx} {e : Expr} {t t' : TT} (h : PT X e t) (i : ∀ σ H Q, t' σ H Q → t σ H Q) : PT X e t' :=
  ⟨fun pins s σ H Q I q => h.run pins s σ H Q I (i σ H Q q)⟩
theorem pa_imp {X : Cx} {e : List Expr} {t t' : TA} (h : PA X e t) (i : ∀ σ H Q, t' σ H Q → t σ H Q) : PA X e t' :=
  ⟨fun pos pins s σ H Q I q => h.run pos pins s σ H Q I (i σ H Q q)⟩

/-- what a rule of the library hands on, by the small meaning -/
abbrev KvK (C : Cc) (A : List Addr) (H : Hp) : List (Key × V) → List (PyData × U) → Prop := Paired fun (e : Key × V) (kv : PyData × U) => kv.1 = kvD e.1 ∧ RpU C A H e.2 kv.2
abbrev KvT (C : Cc) (A : List Addr) (H : Hp) : List (List Key × V) → List (PyData × U) → Prop := Paired fun (e : List Key × V) (kv : PyData × U) => kv.1 = .tuple (e.1.map kvD) ∧ RpU C A H e.2 kv.2
theorem kvK_trees {C : Cc} {A : List Addr} {H : Hp} {es : List (Key × V)} {kvs : List (PyData × U)} (h : KvK C A H es kvs) : ∀ {xs : List (PyData × PyData)}, treesKv kvs = some xs → RpK C.K C.w H es xs := by
  induction h with
  | nil => intro xs e; cases e; exact .nil
  | @cons e kv es kvs a b ih =>
    intro xs eq
    obtain ⟨k, u⟩ := kv
    obtain ⟨k0, v0⟩ := e
    cases u with
    | d x =>
      simp only [treesKv, Option.map_eq_some_iff] at eq
      obtain ⟨ys, e1, rfl⟩ := eq
      obtain ⟨e2, a⟩ := a
      dsimp only at e2 a
      subst e2
      cases a with
      | d a => exact .cons a (ih e1)
    | cell n => cases eq
    | fn f => cases eq
    | exc c => cases eq
theorem kvT_trees {C : Cc} {A : List Addr} {H : Hp} {es : List (List Key × V)} {kvs : List (PyData × U)} (h : KvT C A H es kvs) : ∀ {xs : List (PyData × PyData)}, treesKv kvs = some xs → RpKT C.K C.w H es xs := by
  induction h with
  | nil => intro xs e; cases e; exact .nil
  | @cons e kv es kvs a b ih =>
    intro xs eq
    obtain ⟨k, u⟩ := kv
    obtain ⟨k0, v0⟩ := e
    cases u with
    | d x =>
      simp only [treesKv, Option.map_eq_some_iff] at eq
      obtain ⟨ys, e1, rfl⟩ := eq
      obtain ⟨e2, a⟩ := a
      dsimp only at e2 a
      subst e2
      cases a with
      | d a => exact .cons a (ih e1)
    | cell n => cases eq
    | fn f => cases eq
    | exc c => cases eq
theorem KvK.gr {C : Cc} {A A' : List Addr} {H H' : Hp} {es : List (Key × V)} {kvs : List (PyData × U)} (h : KvK C A H es kvs) (g : Gr A H A' H') : KvK C A' H' es kvs := Paired.mapP h fun _ _ q => ⟨q.1, q.2.gr g⟩
theorem KvT.gr {C : Cc} {A A' : List Addr} {H H' : Hp} {es : List (List Key × V)} {kvs : List (PyData × U)} (h : KvT C A H es kvs) (g : Gr A H A' H') : KvT C A' H' es kvs := Paired.mapP h fun _ _ q => ⟨q.1, q.2.gr g⟩
inductive MkR (C : Cc) (A : List Addr) (H : Hp) : Mk → V → Hp → Prop
  | u {x : U} {v : V} : RpU C A H v x → MkR C A H (.u x) v H
  | new {x : U} {v : V} {p : Addr} {o : HO} : H p = none → RpU C A (upd H p o) v x → MkR C A H (.u x) v (upd H p o)
  | lst {us : List U} {p : Addr} {vs : List V} : H p = none → RpUs C A H vs us → MkR C A H (.lst us) (.ref p) (upd H p (.lst vs))
  | dK {kvs : List (PyData × U)} {p : Addr} {es : List (Key × V)} : H p = none → KvK C A H es kvs → MkR C A H (.dct false kvs) (.ref p) (upd H p (.dK es))
  | dT {kvs : List (PyData × U)} {p : Addr} {es : List (List Key × V)} : H p = none → KvT C A H es kvs → MkR C A H (.dct true kvs) (.ref p) (upd H p (.dT es))
section
variable {C : Cc} {base : Nat} {W : Z.WX} {A : List Addr} {H H' : Hp} {τ : Vars} {σ : L2.St} {st : Store}
theorem upd2 {H : Hp} {p : Addr} {o o' : HO} : upd (upd H p o) p o' = upd H p o' := upd_upd
theorem fin_run {fr : Bool} {mk : Mk} {v : V} {Q : VK} (c : Cn C base A τ st σ H) (h : Aft C base W (RU C) A H τ σ (fin fr st mk) Q) (m : MkR C A H mk v H') : QF Q v H' := by
  cases m with
  | u r => exact .inl (h v H A .refl c r)
  | new hn r => exact .inl (h v _ A (Gr.lay hn) (c.beside hn) r)
  | @lst us p vs hn r =>
    by_cases hz : us.length ≤ sizeLine
    · cases fr with
      | true =>
        have e : fin true st (.lst us) = .ok (.cell st.length) (st ++ [.lst us]) := by simp only [fin]; rw [if_pos hz]; rfl
        rw [e] at h
        have g := Gr.newCell (o := .lst vs) c hn
        exact .inl (h (.ref p) _ _ g (c.newCell hn (show CellR C (A ++ [p]) (upd H p (.lst vs)) p (.lst us) from ⟨vs, upd_same, RpUs.gr g r⟩)) c.cellNew)
      | false =>
        have e : fin false st (.lst us) = Res.opt (trees us) fun xs => .ok (.d (.list xs)) st := by simp only [fin]; rw [if_pos hz]; rfl
        rw [e] at h
        refine .inr ⟨p, _, rfl, upd_same, trivial, fun o => ?_⟩
        cases e : trees us with
        | none => rw [e] at h; exact False.elim h
        | some xs =>
          rw [e] at h
          rw [upd2]
          refine h (.ref p) _ A (Gr.lay hn) (c.beside hn) (.d (.lst (.inl ⟨o, upd_same⟩) ?_))
          exact RpAll.mono (Gr.lay (A := A) hn).fz (r.trees e)
    · have e : fin fr st (.lst us) = .bad := by simp only [fin]; rw [if_neg hz]
      rw [e] at h
      exact False.elim h
  | @dK kvs p es hn r =>
    by_cases hz : kvs.length ≤ sizeLine
    · cases fr with
      | true =>
        have e : fin true st (.dct false kvs) = .ok (.cell st.length) (st ++ [.dct false kvs]) := by simp only [fin]; rw [if_pos hz]; rfl
        rw [e] at h
        have g := Gr.newCell (o := .dK es) c hn
        exact .inl (h (.ref p) _ _ g (c.newCell hn (show CellR C (A ++ [p]) (upd H p (.dK es)) p (.dct false kvs) from ⟨es, upd_same, r.gr g⟩)) c.cellNew)
      | false =>
        have e : fin false st (.dct false kvs) = Res.opt (treesKv kvs) fun xs => .ok (.d (.dict xs)) st := by simp only [fin]; rw [if_pos hz]; rfl
        rw [e] at h
        refine .inr ⟨p, _, rfl, upd_same, trivial, fun o => ?_⟩
        cases e : treesKv kvs with
        | none => rw [e] at h; exact False.elim h
        | some xs =>
          rw [e] at h
          rw [upd2]
          exact h (.ref p) _ A (Gr.lay hn) (c.beside hn) (.d (.dct ⟨o, upd_same⟩ (RpK.mono (Gr.lay (A := A) hn).fz (kvK_trees r e))))
    · have e : fin fr st (.dct false kvs) = .bad := by simp only [fin]; rw [if_neg hz]
      rw [e] at h
      exact False.elim h
  | @dT kvs p es hn r =>
    by_cases hz : kvs.length ≤ sizeLine
    · cases fr with
      | true =>
        have e : fin true st (.dct true kvs) = .ok (.cell st.length) (st ++ [.dct true kvs]) := by simp only [fin]; rw [if_pos hz]; rfl
        rw [e] at h
        have g := Gr.newCell (o := .dT es) c hn
        exact .inl (h (.ref p) _ _ g (c.newCell hn (show CellR C (A ++ [p]) (upd H p (.dT es)) p (.dct true kvs) from ⟨es, upd_same, r.gr g⟩)) c.cellNew)
      | false =>
        have e : fin false st (.dct true kvs) = Res.opt (treesKv kvs) fun xs => .ok (.d (.dict xs)) st := by simp only [fin]; rw [if_pos hz]; rfl
        rw [e] at h
        refine .inr ⟨p, _, rfl, upd_same, trivial, fun o => ?_⟩
        cases e : treesKv kvs with
        | none => rw [e] at h; exact False.elim h
        | some xs =>
          rw [e] at h
          rw [upd2]
          exact h (.ref p) _ A (Gr.lay hn) (c.beside hn) (.d (.dctT ⟨o, upd_same⟩ (RpKT.mono (Gr.lay (A := A) hn).fz (kvT_trees r e))))
    · have e : fin fr st (.dct true kvs) = .bad := by simp only [fin]; rw [if_neg hz]
      rw [e] at h
      exact False.elim h
theorem opt_run {α δ γ : Type} {R2 : List Addr → Hp → δ → γ → Prop} {o : Option α} {g : α → Res γ} {Q : δ → Hp → Prop} (h : Aft C base W R2 A H τ σ (Res.opt o g) Q) : ∃ a, o = some a ∧ Aft C base W R2 A H τ σ (g a) Q := by
  cases o with
  | none => exact h.elim
  | some a => exact ⟨a, rfl, h⟩
/-- a list in the abstract heap -/
theorem cell_lst {n : Nat} {us : List U} {v : V} (c : Cn C base A τ st σ H) (e : st[n]? = some (.lst us)) (r : RpU C A H v (.cell n)) :
    ∃ a vs, v = .ref a ∧ A[n]? = some a ∧ H a = some (.lst vs) ∧ RpUs C (if n < base then A.take base else A) H vs us := by
  cases r with
  | @cell a _ ha =>
    obtain ⟨b, h1, vs, h2, h3⟩ := c.cells n _ e
    rw [ha] at h1; cases h1
    exact ⟨a, vs, rfl, ha, h2, h3⟩
theorem pre_if {n : Nat} : (if n < base then A.take base else A) <+: A := by
  split
  · exact List.take_prefix _ _
  · exact List.prefix_rfl
theorem lst_run {u : U} {us : List U} {v : V} (c : Cn C base A τ st σ H) (e : lstOf st u = some us) (r : RpU C A H v u) : ∃ a vs, v = .ref a ∧ SqL C.K H a vs ∧ RpUs C A H vs us := by
  cases u with
  | d x =>
    cases x <;> try (cases e)
    rename_i xs
    cases r with
    | d r =>
      cases r with
      | lst a b => exact ⟨_, _, rfl, a.sq, .ofD b⟩
  | cell n =>
    have e' : (match st[n]? with | some (.lst us) => some us | _ => none) = some us := e
    split at e'
    · rename_i ws q
      cases e'
      obtain ⟨a, vs, rfl, _, h2, h3⟩ := cell_lst c q r
      exact ⟨a, vs, rfl, SqL.of h2, RpUs.mono (fun _ _ _ h => h) pre_if h3⟩
    · cases e'
  | fn f => cases e
  | exc f => cases e
/-- data in the abstract heap -/
theorem view_run {u : U} {x : PyData} {v : V} (c : Cn C base A τ st σ H) (e : view st u = some x) (l : x.canLay0 = true) (r : RpU C A H v u) : Dp C.K H v x := by
  cases u with
  | d y => cases e; cases r with | d r => exact r.dp l
  | cell n =>
    have e' : (match st[n]? with | some (.lst us) => (trees us).map PyData.list | _ => none) = some x := e
    split at e'
    · rename_i ws q
      rw [Option.map_eq_some_iff] at e'
      obtain ⟨xs, e1, rfl⟩ := e'
      obtain ⟨a, vs, rfl, _, h2, h3⟩ := cell_lst c q r
      exact .lst (SqL.of h2) (RpAll.dp (by simpa [PyData.canLay0] using l) (h3.trees e1))
    · cases e'
  | fn f => cases e
  | exc f => cases e
theorem viewAll_run {us : List U} : ∀ {vs : List V} {xs : List PyData}, Cn C base A τ st σ H → viewAll st us = some xs → PyData.canLayAll0 xs = true → RpUs C A H vs us → DpAll C.K H vs xs := by
  induction us with
  | nil => intro vs xs c e l r; cases r; cases e; exact .nil
  | cons u us ih =>
    intro vs xs c e l r
    cases r with
    | cons a b =>
      have e' : ((view st u).bind fun x => (viewAll st us).map (x :: ·)) = some xs := e
      rw [Option.bind_eq_some_iff] at e'
      obtain ⟨x, e1, e2⟩ := e'
      rw [Option.map_eq_some_iff] at e2
      obtain ⟨ys, e3, rfl⟩ := e2
      have l' : x.canLay0 = true ∧ PyData.canLayAll0 ys = true := by simpa [PyData.canLayAll0] using l
      exact .cons (view_run c e1 l'.1 a) (ih c e3 l'.2 b)
theorem viewAll_len {us : List U} : ∀ {xs : List PyData}, viewAll st us = some xs → us.length = xs.length := by
  induction us with
  | nil => intro xs e; cases e; rfl
  | cons u us ih =>
    intro xs e
    have e' : ((view st u).bind fun x => (viewAll st us).map (x :: ·)) = some xs := e
    rw [Option.bind_eq_some_iff] at e'
    obtain ⟨x, e1, e2⟩ := e'
    rw [Option.map_eq_some_iff] at e2
    obtain ⟨ys, e3, rfl⟩ := e2
    simp [ih e3]
theorem view2_run {u : U} {x : PyData} {v : V} (c : Cn C base A τ st σ H) (e : view2 st u = some x) (l : x.canLay0 = true) (r : RpU C A H v u) : Dp C.K H v x := by
  cases u with
  | d y => cases e; cases r with | d r => exact r.dp l
  | cell n =>
    have e' : (match st[n]? with | some (.lst us) => (viewAll st us).map PyData.list | _ => none) = some x := e
    split at e'
    · rename_i ws q
      rw [Option.map_eq_some_iff] at e'
      obtain ⟨xs, e1, rfl⟩ := e'
      obtain ⟨a, vs, rfl, _, h2, h3⟩ := cell_lst c q r
      exact .lst (SqL.of h2) (viewAll_run c e1 (by simpa [PyData.canLay0] using l) (RpUs.mono (fun _ _ _ h => h) pre_if h3))
    · cases e'
  | fn f => cases e
  | exc f => cases e
end

/-! ### operators -/
theorem pair_app {α β : Type} {F : α → β → Prop} : ∀ {xs ys : List α} {us ws : List β}, Paired F xs us → Paired F ys ws → Paired F (xs ++ ys) (us ++ ws)
  | _, _, _, _, .nil, h => h
  | _, _, _, _, .cons a b, h => .cons a (pair_app b h)
theorem chk_run {p : Prop} [Decidable p] {α : Type} {a b : α} (h : chk p a = some b) : p ∧ a = b := by
  unfold chk at h
  split at h
  · cases h; exact ⟨by assumption, rfl⟩
  · cases h
section
variable {X : Cx} {C : Cc} {W : Z.WX} {base : Nat}
/-- lists of any standing -/
theorem cat_lists (k : Okc X C W) {pins : List (Addr × Obj)} {s : Shared} {σ : L2.St} {H : Hp} {a b : Addr} {xs ys : List V} {Q : VK} (I : Inv X pins σ H s) (ha : SqL C.K H a xs) (hb : SqL C.K H b ys) (hz : xs.length + ys.length ≤ sizeLine)
    (q : ∀ p, H p = none → Q (.ref p) (upd H p (.lst (xs ++ ys)))) : wpAny (model X.prog X.w) X.A (binaryOp .Add (.ref a) (.ref b)) (EP X pins σ Q) X.xe s := by
  rw [← k.K] at ha hb
  obtain ⟨is, r1, p1, _⟩ := I.list ha
  obtain ⟨js, r2, p2, _⟩ := I.list hb
  obtain ⟨⟨c1, d1, e1, s1⟩, n1, g1, rfl, _, h1⟩ := p1
  obtain ⟨⟨c2, d2, e2, s2⟩, n2, g2, rfl, _, h2⟩ := p2
  simp only at h1 h2
  subst h1 h2
  have l1 := r1.length
  have l2 := r2.length
  refine concat_meets ⟨_, g1, rfl⟩ ⟨_, g2, rfl⟩ noFill_list_add seq_list_add PySem.F.slot_list_add PySem.F.entry_list_add (PySem.F.args_list_add_2 _ _) (list_addW a b is.toArray js.toArray n1 n2 d1 d2 s1 s2 (by simp; omega)) ⟨g1, g2, ?_⟩
  have hc : is.toArray ++ js.toArray = (is ++ js).toArray := by simp
  rw [hc]
  exact ⟨.ref _, _, I.lnew (t' := s.toks) (r1.append r2) (by rw [List.length_append]; omega), rfl, q _ I.fresh⟩
def rBin (C : Cc) (base : Nat) (op : Operator) : R2 := fun x y H Q => ∃ A τ σ st u w mk, Cn C base A τ st σ H ∧ RpU C A H x u ∧ RpU C A H y w ∧ binop op st u w = some mk ∧ ∀ v H', MkR C A H mk v H' → Q v H'
theorem rint {A : List Addr} {H : Hp} {v : V} {i : Int} (r : RpU C A H v (.d (.int i))) : v = .int i := by cases r with | d r => cases r; rfl
theorem rstr {A : List Addr} {H : Hp} {v : V} {i : Str} (r : RpU C A H v (.d (.str i))) : v = .str i := by cases r with | d r => cases r; rfl
theorem mkInt {A : List Addr} {H : Hp} (i : Int) : MkR C A H (.u (.d (.int i))) (.int i) H := .u (.d (.int i))
theorem mkStr {A : List Addr} {H : Hp} (i : Str) : MkR C A H (.u (.d (.str i))) (.str i) H := .u (.d (.str i))
theorem mkBl {A : List Addr} {H : Hp} (i : Bool) : MkR C A H (.u (.d (.bool i))) (.bl i) H := .u (.d (.bl i))
theorem opr_imp {f : Value → Value → Sem Value} {r r' : R2} (h : OpR X f r) (i : ∀ x y H Q, r' x y H Q → r x y H Q) : OpR X f r' := fun pins s σ H x y v u Q I rx ry q => h pins s σ H x y v u Q I rx ry (i _ _ _ _ q)
theorem int_op (op : Operator) : OpR X (binaryOp op) (fun x y H Q => ∃ i j k, x = .int i ∧ y = .int j ∧ intOp op i j = some k ∧ Q (.int k) H) := by
  by_cases h1 : op = .Add
  · subst h1
    exact opr_imp op_add fun x y H Q ⟨i, j, k, e1, e2, e3, q⟩ => ⟨i, j, e1, e2, by cases e3; exact q⟩
  by_cases h2 : op = .Sub
  · subst h2
    exact opr_imp op_sub fun x y H Q ⟨i, j, k, e1, e2, e3, q⟩ => ⟨i, j, e1, e2, by cases e3; exact q⟩
  by_cases h3 : op = .Mult
  · subst h3
    refine opr_imp (op_mul.or op_mulW) fun x y H Q ⟨i, j, k, e1, e2, e3, q⟩ => ?_
    obtain ⟨h, rfl⟩ := chk_run e3
    rcases h with h | h
    · exact .inl ⟨i, j, e1, e2, h, q⟩
    · exact .inr ⟨i, j, e1, e2, h, q⟩
  by_cases h4 : op = .FloorDiv
  · subst h4
    refine opr_imp op_fdivW fun x y H Q ⟨i, j, k, e1, e2, e3, q⟩ => ?_
    obtain ⟨h, rfl⟩ := chk_run e3
    exact ⟨i, j, e1, e2, h, q⟩
  by_cases h5 : op = .Mod
  · subst h5
    refine opr_imp op_mod fun x y H Q ⟨i, j, k, e1, e2, e3, q⟩ => ?_
    obtain ⟨h, rfl⟩ := chk_run e3
    exact ⟨i, j, e1, e2, h, q⟩
  by_cases h6 : op = .Pow
  · subst h6
    refine opr_imp op_pow fun x y H Q ⟨i, j, k, e1, e2, e3, q⟩ => ?_
    obtain ⟨h, rfl⟩ := chk_run e3
    exact ⟨i, j, e1, e2, h, q⟩
  intro pins s σ H x y v u Q I rx ry ⟨i, j, k, e1, e2, e3, q⟩
  cases op <;> first | exact absurd rfl h1 | exact absurd rfl h2 | exact absurd rfl h3 | exact absurd rfl h4 | exact absurd rfl h5 | exact absurd rfl h6 | exact nomatch e3
theorem bin_op (k : Okc X C W) (op : Operator) : OpR X (binaryOp op) (rBin C base op) := by
  intro pins s σ H x y v u Q I rx ry h
  obtain ⟨A, τ, σ', st, a, b, mk, c, ra, rb, e, q⟩ := h
  unfold binop at e
  split at e
  · rw [Option.map_eq_some_iff] at e
    obtain ⟨j, e, rfl⟩ := e
    exact int_op op pins s σ H x y v u Q I rx ry ⟨_, _, j, rint ra, rint rb, e, q _ _ (mkInt j)⟩
  · split at e
    · rename_i hop
      subst hop
      obtain ⟨h, rfl⟩ := chk_run e
      exact op_add_str pins s σ H x y v u Q I rx ry ⟨_, _, rstr ra, rstr rb, h, q _ _ (mkStr _)⟩
    · cases e
  · split at e
    · rename_i hop
      subst hop
      obtain ⟨⟨h0, h⟩, rfl⟩ := chk_run e
      rename_i xs ys
      cases ra with
      | d ra => cases ra with
        | @tup a vs _ s1 r1 =>
          cases rb with
          | d rb => cases rb with
            | @tup b ws _ s2 r2 =>
              refine op_catT pins s σ H _ _ v u Q I rx ry ⟨a, b, vs, ws, rfl, rfl, k.K ▸ s1.sq, k.K ▸ s2.sq, fun z => h0 ?_, by rw [r1.length, r2.length]; exact h, fun z => ?_, fun _ p hp => ?_⟩
              · have := r1.length
                rw [z] at this
                exact List.length_eq_zero_iff.mp this.symm
              · have e0 : ys = [] := by
                  have := r2.length
                  rw [z] at this
                  exact List.length_eq_zero_iff.mp this.symm
                subst e0
                rw [List.append_nil] at q
                exact q _ _ (.u (.d (.tup s1 r1)))
              · exact q _ _ (.new hp (.d (.tup upd_same (RpAll.of (pair_app (RpAll.paired (RpAll.mono (Gr.lay (A := A) hp).fz r1)) (RpAll.paired (RpAll.mono (Gr.lay (A := A) hp).fz r2)))))))
    · cases e
  · split at e
    · rename_i us ws e1 e2
      obtain ⟨h, rfl⟩ := chk_run e
      obtain ⟨p1, xs, rfl, s1, r1⟩ := lst_run c e1 ra
      obtain ⟨p2, ys, rfl, s2, r2⟩ := lst_run c e2 rb
      cases rx
      cases ry
      have l1 := Paired.length r1
      have l2 := Paired.length r2
      exact cat_lists k I s1 s2 (by omega) fun p hp => q _ _ (.lst hp (pair_app r1 r2))
    · cases e
end
end Z
/-! ZH: dicts that are read: keys, items, len, in, get. -/
namespace Z
open PySem PySem.Spec PyProof.Rows L2
def kDs (k : List Key) : PyData := .tuple (k.map kvD)
theorem unK_kvD (k : Key) : unK (kvD k) = some k := by cases k <;> rfl
theorem unKs_map : ∀ k : List Key, unKs (k.map kvD) = some k
  | [] => rfl
  | a :: r => by simp only [List.map_cons, unKs, unK_kvD, unKs_map r]; rfl
theorem unT_kDs (k : List Key) : unT (.tuple (k.map kvD)) = some k := unKs_map k
theorem unK_inv {x : PyData} {k : Key} (h : unK x = some k) : x = kvD k := by
  cases x <;> simp only [unK, reduceCtorEq] at h <;> (cases h; rfl)
theorem unKs_inv : ∀ {xs : List PyData} {k : List Key}, unKs xs = some k → xs = k.map kvD
  | [], k, h => by cases h; rfl
  | x :: r, k, h => by
    simp only [unKs] at h
    rw [Option.bind_eq_some_iff] at h
    obtain ⟨a, h1, h2⟩ := h
    rw [Option.map_eq_some_iff] at h2
    obtain ⟨b, h3, rfl⟩ := h2
    rw [unK_inv h1, unKs_inv h3]
    rfl
theorem unT_inv {x : PyData} {k : List Key} (h : unT x = some k) : x = .tuple (k.map kvD) := by
  cases x <;> simp only [unT, reduceCtorEq] at h
  rw [unKs_inv h]
section
variable {κ : Type} [DecidableEq κ]
/-- a dict's entries, key by key -/
abbrev KvG (C : Cc) (A : List Addr) (H : Hp) (sh : κ → PyData) : List (κ × V) → List (PyData × U) → Prop := Paired fun (e : κ × V) (kv : PyData × U) => kv.1 = sh e.1 ∧ RpU C A H e.2 kv.2
theorem get_rel {C : Cc} {A : List Addr} {H : Hp} {sh : κ → PyData} {un : PyData → Option κ} (hu : ∀ k, un (sh k) = some k) {es : List (κ × V)} {kvs : List (PyData × U)} (h : KvG C A H sh es kvs) (k : κ) :
    (∀ u, getG un k kvs = some u → ∃ v, valV es k = some v ∧ RpU C A H v u) ∧ (getG un k kvs = none → valV es k = none) := by
  induction h with
  | nil => exact ⟨fun u e => by simp [getG] at e, fun _ => rfl⟩
  | @cons e kv es kvs a b ih =>
    have e1 : un kv.1 = some e.1 := by rw [a.1, hu]
    by_cases hk : e.1 = k
    · have e2 : getG un k (kv :: kvs) = some kv.2 := by simp [getG, List.find?_cons, e1, hk]
      rw [e2, valV_pos hk]
      exact ⟨fun u q => by cases q; exact ⟨e.2, rfl, a.2⟩, fun q => nomatch q⟩
    · have e2 : getG un k (kv :: kvs) = getG un k kvs := by simp [getG, List.find?_cons, e1, hk]
      rw [e2, valV_neg hk]
      exact ih
end
theorem keys_eq {K : PySem.W.Frag} {w : World} {H : Hp} : ∀ {kk : List Key} {ws : List V}, RpAll K w H ws (kk.map kvD) → ws = kk.map kV
  | [], _, .nil => rfl
  | .inl i :: r, _, .cons p q => by cases p; rw [keys_eq q]; rfl
  | .inr s :: r, _, .cons p q => by cases p; rw [keys_eq q]; rfl
theorem pair_app0 {α β : Type} {F : α → β → Prop} : ∀ {xs ys : List α} {us ws : List β}, Paired F xs us → Paired F ys ws → Paired F (xs ++ ys) (us ++ ws)
  | _, _, _, _, .nil, h => h
  | _, _, _, _, .cons a b, h => .cons a (pair_app0 b h)
section
variable {κ : Type} [DecidableEq κ]
theorem put_rel {C : Cc} {A : List Addr} {H : Hp} {sh : κ → PyData} {un : PyData → Option κ} (hu : ∀ k, un (sh k) = some k) {es : List (κ × V)} {kvs : List (PyData × U)} (h : KvG C A H sh es kvs) {k : κ} {v : V} {u : U} (r : RpU C A H v u) :
    KvG C A H sh (putK es k v) (putD un (sh k) k u kvs) := by
  have any : (kvs.any fun kv => decide (un kv.1 = some k)) = es.any fun kv => decide (kv.1 = k) := by
    clear r
    induction h with
    | nil => rfl
    | @cons e kv es kvs a b ih =>
      rw [List.any_cons, List.any_cons, ih, a.1, hu]
      simp
  have mp : KvG C A H sh (es.map fun kv => if kv.1 = k then (kv.1, v) else kv) (kvs.map fun kv => if un kv.1 = some k then (kv.1, u) else kv) := by
    clear any
    induction h with
    | nil => exact .nil
    | @cons e kv es kvs a b ih =>
      rw [List.map_cons, List.map_cons]
      refine .cons ?_ ih
      have e1 : un kv.1 = some e.1 := by rw [a.1, hu]
      by_cases hk : e.1 = k
      · rw [if_pos hk, if_pos (by rw [e1, hk])]; exact ⟨a.1, r⟩
      · rw [if_neg hk, if_neg (fun z => hk (Option.some.inj (e1.symm.trans z)))]; exact a
  unfold putK putD
  rw [any]
  by_cases hb : (es.any fun kv => decide (kv.1 = k)) = true
  · rw [if_pos hb, if_pos hb]; exact mp
  · rw [if_neg hb, if_neg hb]; exact pair_app0 h (.cons ⟨rfl, r⟩ .nil)
end
theorem kvg_mono {κ : Type} {C : Cc} {A A' : List Addr} {H : Hp} {sh : κ → PyData} {es : List (κ × V)} {kvs : List (PyData × U)} (p : A <+: A') (h : KvG C A H sh es kvs) : KvG C A' H sh es kvs :=
  Paired.mapP h fun _ _ q => ⟨q.1, q.2.mono (fun _ _ _ h => h) p⟩
theorem kvg_ofK {C : Cc} {A : List Addr} {H : Hp} : ∀ {kvs : List (PyData × PyData)} {es : List (Key × V)}, RpK C.K C.w H es kvs → KvG C A H kvD es (kvs.map fun kv => (kv.1, U.d kv.2))
  | [], _, h => by cases h; exact .nil
  | _ :: _, _, h => by cases h with | cons a b => exact .cons ⟨rfl, .d a⟩ (kvg_ofK b)
theorem kvg_ofT {C : Cc} {A : List Addr} {H : Hp} : ∀ {kvs : List (PyData × PyData)} {es : List (List Key × V)}, RpKT C.K C.w H es kvs → KvG C A H kDs es (kvs.map fun kv => (kv.1, U.d kv.2))
  | [], _, h => by cases h; exact .nil
  | _ :: _, _, h => by cases h with | cons a b => exact .cons ⟨rfl, .d a⟩ (kvg_ofT b)
section
variable {C : Cc} {base : Nat} {A : List Addr} {τ : Vars} {σ : L2.St} {st : Store} {H : Hp}
/-- a dict at an address -/
def DctA (C : Cc) (A : List Addr) (H : Hp) (a : Addr) (t : Bool) (kvs : List (PyData × U)) : Prop := match t with
  | false => ∃ es, L2.Rd H a (.dK es) ∧ KvG C A H kvD es kvs
  | true => ∃ es, L2.Rd H a (.dT es) ∧ KvG C A H kDs es kvs
theorem dct_cell {n : Nat} {t : Bool} {kvs : List (PyData × U)} {v : V} (c : Cn C base A τ st σ H) (e : st[n]? = some (.dct t kvs) ∨ st[n]? = some (.fdct t kvs)) (r : RpU C A H v (.cell n)) : ∃ a, v = .ref a ∧ DctA C A H a t kvs := by
  cases r with
  | @cell a _ ha =>
    rcases e with e | e
    · obtain ⟨b, h1, h2⟩ := c.cells n _ e
      rw [ha] at h1; cases h1
      refine ⟨a, rfl, ?_⟩
      cases t with
      | false => obtain ⟨es, h3, h4⟩ := h2; exact ⟨es, .inl h3, kvg_mono pre_if h4⟩
      | true => obtain ⟨es, h3, h4⟩ := h2; exact ⟨es, .inl h3, kvg_mono pre_if h4⟩
    · obtain ⟨b, h1, h2⟩ := c.cells n _ e
      rw [ha] at h1; cases h1
      refine ⟨a, rfl, ?_⟩
      cases t with
      | false => obtain ⟨es, o, h3, h4⟩ := h2; exact ⟨es, .inr ⟨o, h3⟩, kvg_mono pre_if h4⟩
      | true => obtain ⟨es, o, h3, h4⟩ := h2; exact ⟨es, .inr ⟨o, h3⟩, kvg_mono pre_if h4⟩
theorem dct_tree {kvs : List (PyData × PyData)} {v : V} (r : RpU C A H v (.d (.dict kvs))) : ∃ a t, v = .ref a ∧ DctA C A H a t (kvs.map fun kv => (kv.1, U.d kv.2)) := by
  cases r with
  | d r =>
    cases r with
    | @dct a es _ h1 h2 => obtain ⟨o, h1⟩ := h1; exact ⟨a, false, rfl, es, .inr ⟨o, h1⟩, kvg_ofK h2⟩
    | @dctT a es _ h1 h2 => obtain ⟨o, h1⟩ := h1; exact ⟨a, true, rfl, es, .inr ⟨o, h1⟩, kvg_ofT h2⟩
theorem dctOf_run {u : U} {kvs : List (PyData × U)} {v : V} (c : Cn C base A τ st σ H) (e : dctOf st u = some kvs) (r : RpU C A H v u) : ∃ a t, v = .ref a ∧ DctA C A H a t kvs := by
  unfold dctOf at e
  split at e
  · cases e; exact dct_tree r
  · split at e
    · rename_i q
      cases e
      obtain ⟨a, h1, h2⟩ := dct_cell c (.inl q) r
      exact ⟨a, _, h1, h2⟩
    · rename_i q
      cases e
      obtain ⟨a, h1, h2⟩ := dct_cell c (.inr q) r
      exact ⟨a, _, h1, h2⟩
    · cases e
  · cases e
/-- looked up -/
def GetR (C : Cc) (A : List Addr) (H : Hp) (r : Option U) (rv : Option V) : Prop := (∀ u, r = some u → ∃ x, rv = some x ∧ RpU C A H x u) ∧ (r = none → rv = none)
theorem getB_run {a : Addr} {t : Bool} {kvs : List (PyData × U)} {y : PyData} {w : V} {r : Option U} (h : DctA C A H a t kvs) (e : getB t y kvs = some r) (ry : RpU C A H w (.d y)) : ∃ rv, DGet H a w rv ∧ GetR C A H r rv := by
  cases t with
  | false =>
    obtain ⟨es, h1, h2⟩ := h
    have e' : (unK y).map (fun k => getG unK k kvs) = some r := e
    rw [Option.map_eq_some_iff] at e'
    obtain ⟨k, e1, rfl⟩ := e'
    have ex := unK_inv e1
    subst ex
    have ez : w = kV k := by
      cases ry with
      | d ry => cases k with
        | inl i => cases ry; rfl
        | inr s => cases ry; rfl
    obtain ⟨g1, g2⟩ := get_rel (un := unK) (sh := kvD) unK_kvD h2 k
    exact ⟨valV es k, .inl ⟨es, k, h1, ez, rfl⟩, g1, g2⟩
  | true =>
    obtain ⟨es, h1, h2⟩ := h
    have e' : (unT y).map (fun k => getG unT k kvs) = some r := e
    rw [Option.map_eq_some_iff] at e'
    obtain ⟨k, e1, rfl⟩ := e'
    have ex := unT_inv e1
    subst ex
    obtain ⟨b, ws, rfl, f1, rw1⟩ : ∃ b ws, w = .ref b ∧ H b = some (.tup ws) ∧ RpAll C.K C.w H ws (k.map kvD) := by
      cases ry with
      | d r3 => cases r3 with | tup f1 r => exact ⟨_, _, rfl, f1, r⟩
    have ew := keys_eq rw1
    subst ew
    obtain ⟨g1, g2⟩ := get_rel (un := unT) (sh := kDs) unT_kDs h2 k
    exact ⟨valV es k, .inr ⟨es, k, b, h1, rfl, f1, rfl⟩, g1, g2⟩
theorem tree_tup {kvs : List (PyData × PyData)} {xs : List PyData} {x : PyData} {v : V} (r : RpU C A H v (.d (.dict ((.tuple xs, x) :: kvs)))) : ∃ a, v = .ref a ∧ DctA C A H a true (((.tuple xs, x) :: kvs).map fun kv => (kv.1, U.d kv.2)) := by
  obtain ⟨a, t, e, h⟩ := dct_tree r
  refine ⟨a, e, ?_⟩
  cases t with
  | true => exact h
  | false =>
    obtain ⟨es, h1, h2⟩ := h
    cases h2 with
    | @cons e _ _ _ h3 _ => obtain ⟨h3, _⟩ := h3; obtain ⟨k, v⟩ := e; cases k <;> cases h3
theorem tree_key {kvs : List (PyData × PyData)} {y x : PyData} (hy : ∀ xs, y ≠ .tuple xs) {v : V} (r : RpU C A H v (.d (.dict ((y, x) :: kvs)))) : ∃ a, v = .ref a ∧ DctA C A H a false (((y, x) :: kvs).map fun kv => (kv.1, U.d kv.2)) := by
  obtain ⟨a, t, e, h⟩ := dct_tree r
  refine ⟨a, e, ?_⟩
  cases t with
  | false => exact h
  | true =>
    obtain ⟨es, h1, h2⟩ := h
    cases h2 with
    | @cons e _ _ _ h3 _ => obtain ⟨h3, _⟩ := h3; exact absurd h3 (hy _)
theorem dctGet_run {y : PyData} {o : U} {r : Option U} {v w : V} (c : Cn C base A τ st σ H) (e : dctGet st y o = some r) (ro : RpU C A H v o) (ry : RpU C A H w (.d y)) :
    ∃ a rv, v = .ref a ∧ DGet H a w rv ∧ GetR C A H r rv := by
  unfold dctGet at e
  split at e
  · split at e
    · obtain ⟨a, rfl, h⟩ := tree_tup ro
      obtain ⟨rv, h1, h2⟩ := getB_run h e ry
      exact ⟨a, rv, rfl, h1, h2⟩
    · obtain ⟨a, rfl, h⟩ := tree_key (fun _ z => by cases z) ro
      obtain ⟨rv, h1, h2⟩ := getB_run h e ry
      exact ⟨a, rv, rfl, h1, h2⟩
    · obtain ⟨a, rfl, h⟩ := tree_key (fun _ z => by cases z) ro
      obtain ⟨rv, h1, h2⟩ := getB_run h e ry
      exact ⟨a, rv, rfl, h1, h2⟩
    · cases e
  · split at e
    · rename_i q
      obtain ⟨a, rfl, h⟩ := dct_cell c (.inl q) ro
      obtain ⟨rv, h1, h2⟩ := getB_run h e ry
      exact ⟨a, rv, rfl, h1, h2⟩
    · rename_i q
      obtain ⟨a, rfl, h⟩ := dct_cell c (.inr q) ro
      obtain ⟨rv, h1, h2⟩ := getB_run h e ry
      exact ⟨a, rv, rfl, h1, h2⟩
    · cases e
  · cases e
end
/-! ### rules by values -/
section
variable {X : Cx} {C : Cc} {W : Z.WX}
def rIxDct : R2 := fun x y H Q => ∃ a v, x = .ref a ∧ DGet H a y (some v) ∧ Q v H
theorem dget_type {a : Addr} {y : V} {o : Option V} {pins : List (Addr × Obj)} {σ : L2.St} {H : Hp} {s : Shared} (I : Inv X pins σ H s) (g : DGet H a y o) : s.TypeIs (.ref a) "dict" := by
  rcases g with ⟨kvs, k, e, ey, l⟩ | ⟨kvs, k, b, e, ey, eb, l⟩
  · obtain ⟨z, hd, vs, rel, dd⟩ := dk_rd I.hok e; exact dd.typeIs
  · obtain ⟨z, hd, xs, rel, dd⟩ := dt_rd I.hok e; exact dd.typeIs
theorem ix_dct (k : Okc X C W) : IxR X rIxDct := by
  intro value slice pins s σ H x y v u Q I rx ry h hs
  obtain ⟨a, z, rfl, g, q⟩ := h
  cases (show v = Value.ref a from rx)
  exact tail_any (dget_type I g) PySem.F.slot_dict_getitem.lookup (d_getItem (by have := k.units; omega) I g ry fun w' s' I' r' => ⟨z, H, I', r', q⟩) hs
def rInDct (neg : Bool) : R2 := fun x y H Q => ∃ a o, y = .ref a ∧ DGet H a x o ∧ Q (.bl (if neg then !o.isSome else o.isSome)) H
theorem op_inDct (k : Okc X C W) (neg : Bool) : OpR X (compareOp (if neg then .NotIn else .In)) (rInDct neg) := by
  intro pins s σ H x y v u Q I rx ry h
  obtain ⟨a, o, rfl, g, q⟩ := h
  cases (show u = Value.ref a from ry)
  cases neg with
  | false => exact d_in (by have := k.units; omega) I g rx fun s' I' => ⟨.bl o.isSome, H, I', rfl, q⟩
  | true => exact d_notIn (by have := k.units; omega) I g rx fun s' I' => ⟨.bl (!o.isSome), H, I', rfl, q⟩
theorem call_len_dct {C : Cc} {A : List Addr} : CallR X (.builtin "len") (fun xs H Q => ∃ a t kvs, xs = [.ref a] ∧ DctA C A H a t kvs ∧ Q (.int ((kvs.length : Nat) : Int)) H) := by
  intro pins s σ H xs us Q I r h
  obtain ⟨a, t, kvs, rfl, d, q⟩ := h
  obtain ⟨u, rfl, rx⟩ := vals1 r
  obtain rfl : u = .ref a := rx
  cases t with
  | true =>
    obtain ⟨es, e, kv⟩ := d
    obtain ⟨z, hd, ys, rel, dd⟩ := dt_rd I.hok e
    have hl : kvs.length = ys.length := (Paired.length kv).symm.trans (Paired.length rel)
    have hl2 := Paired.length rel
    refine call_len_dictH hd dd (by rw [← hl2]; rw [sizeLine_eq] at z; omega) ?_
    rw [← hl]
    exact ⟨.int ((kvs.length : Nat) : Int), H, I.tok _, ⟨_, rfl⟩, q⟩
  | false =>
    obtain ⟨es, e, kv⟩ := d
    obtain ⟨z, hd, ys, rel, dd⟩ := dk_rd I.hok e
    have hl : kvs.length = ys.length := (Paired.length kv).symm.trans (Paired.length rel)
    have hl3 : kvs.length = es.length := (Paired.length kv).symm
    rw [hl3] at q
    exact d_len I e fun t s' I' => ⟨.int ((es.length : Nat) : Int), H, I', ⟨_, rfl⟩, q⟩
theorem vals_int_of : ∀ {ns : List Int} {us : List Value}, ns.length = us.length → (∀ (j : Nat) (i : Int), ns[j]? = some i → ∃ t, us[j]? = some (Value.int i t)) → Vals (ns.map V.int) us
  | [], [], _, _ => .nil
  | [], _ :: _, h, _ => by simp at h
  | _ :: _, [], h, _ => by simp at h
  | n :: ns, u :: us, h, g => by
    obtain ⟨t, e⟩ := g 0 n rfl
    have e' : u = Value.int n t := by simpa using e
    exact .cons ⟨t, e'⟩ (vals_int_of (by simpa using h) fun j i q => by
      have := g (j + 1) i (by simpa using q)
      simpa using this)
/-- sorted(d), keys numbers -/
theorem cr_sortedDct (hc : X.calm = true) : CallR X (.builtin "sorted") (fun vs H Q => ∃ (a : Addr) (es : List (Key × V)) (ns : List Int), vs = [V.ref a] ∧ L2.Rd H a (.dK es) ∧ es.map (·.1) = ns.map .inl ∧
    ∀ (ns' : List Int) (p : Addr), ns'.Perm ns → ns'.Pairwise (· ≤ ·) → H p = none → Q (.ref p) (upd H p (.lst (ns'.map V.int)))) := by
  intro pins s σ H vs us Q I r h
  obtain ⟨a, es, ns, rfl, e, ek, q⟩ := h
  rw [Vals.ref1 r]
  obtain ⟨z, hd, ks, rel, dd⟩ := dk_rd I.hok e
  obtain ⟨o, en, ep, d1, d2, d3, d4, d5, d6⟩ := dd
  have hm : s.heap.DictAt (mixKind X.prog X.w) a ks ep := ⟨o, en, d1, d2, d3, d4, d5, d6⟩
  have hh : X.A.in1.handled = none := I.ok.hd hc
  have hl : es.length = ks.length := Paired.length rel
  have hk : ks.map (·.1) = ns.map .inl := rel.keys.symm.trans ek
  refine Calls.call_function_entry kind_sorted plain_sorted entry_sorted (args_sorted1 _) ?_
  unfold Builtin.«sorted»
  refine wpAny_bind (m := checkCount "sorted" 1 1 _) (wpAny_pure ?_)
  refine wpAny_bind (PySem.W.kdu_collect (A := X.A.in1) (PySem.W.kdl_dict (prog := X.prog) (w := X.w) (kvs := ks) (ep := ep) hd) hh hm (by omega) fun h' tk acc keep hacc => ?_)
  have hal : acc.toList.length = ks.length := by rw [Array.length_toList]; exact hacc.1
  have hz : acc.toList.length ≤ sizeLine := by omega
  have hv : Vals (ns.map V.int) acc.toList := by
    have nl : ns.length = ks.length := by have := congrArg List.length hk; simpa using this.symm
    refine vals_int_of (by omega) fun j i hj => ?_
    have hj2 : j < acc.toList.length := by have := (List.getElem?_eq_some_iff.mp hj).1; omega
    obtain ⟨k, x, h1, h2⟩ := hacc.2 j acc.toList[j] (by rw [← Array.getElem?_toList]; exact List.getElem?_eq_getElem hj2)
    have h3 : (ks.map (·.1))[j]? = some k := by rw [List.getElem?_map, h1]; rfl
    rw [hk, List.getElem?_map, hj] at h3
    cases h3
    obtain ⟨t, ht⟩ : ∃ t, acc.toList[j] = Value.int i t := by
      have h4 : RelV (kV (.inl i)) acc.toList[j] := relV_key h2
      exact h4
    exact ⟨t, by rw [List.getElem?_eq_getElem hj2, ht]⟩
  refine wpAny_bind (wpAny_newList ?_ hz)
  have hob : (h'.push { cls := .type "list", data := .seq acc.toList.toArray }).get? h'.objs.size = some (seqObj "list" acc.toList.toArray 0) := Heap.get?_push_size _ rfl
  have hi := hv.ints
  refine wpAny_bind (wpAny_holding (wpAny_call_entry PyProof.Rows.slot_list_sort ⟨_, hob, rfl⟩ PyProof.Rows.entry_list_sort
    (SrtO.list_sort_ord SrtO.swo_int hob hz (fun h2 => SrtO.ints_sortable hi h2) fun out h1 h2 => ⟨.none, rfl, ?_⟩) (PyProof.Rows.args_list_sort _)))
  obtain ⟨k1, k2, k3⟩ := SrtO.ints_out hi h1 h2
  obtain ⟨ep', he'⟩ := PyProof.Rows.sortedHeap_at (vs := acc.toList) (out := out.toArray) hob
  have hlen : ((out.map SrtO.iv).map V.int).length ≤ sizeLine := by
    rw [List.length_map, k2.length_eq, ← List.length_map (f := V.int), hv.length]
    exact hz
  have hno : s.heap.get? h'.objs.size = none := by
    cases e : s.heap.get? h'.objs.size with
    | none => rfl
    | some ob => exact absurd (Heap.lt_size (keep _ _ e)) (Nat.lt_irrefl _)
  have hH : H h'.objs.size = none := I.hok.gone hno
  refine wpAny_pure ⟨_, rfl, .ref _, upd H h'.objs.size (.lst ((out.map SrtO.iv).map V.int)), I.laidN (t' := tk) (fun b u hu => ?_) hno hH ⟨hlen, out, ep', vals_of_ints k1, he'⟩, rfl, q _ _ k2 k3 hH⟩
  have hb := Heap.lt_size (keep _ _ hu)
  rw [PyProof.Rows.sortedHeap_old (Nat.ne_of_lt hb) (by rw [Heap.size_push]; exact Nat.lt_succ_of_lt hb)]
  exact Heap.get?_push_of_some _ (keep _ _ hu)
theorem call_len_dct2 {C : Cc} : CallR X (.builtin "len") (fun xs H Q => ∃ A a t kvs, xs = [.ref a] ∧ DctA C A H a t kvs ∧ Q (.int ((kvs.length : Nat) : Int)) H) :=
  fun pins s σ H xs us Q I r ⟨A, a, t, kvs, h⟩ => call_len_dct (A := A) pins s σ H xs us Q I r ⟨a, t, kvs, h⟩
def rGetDct : V → List V → Hp → VK → Prop := fun x xs H Q => (∃ a y d o, x = .ref a ∧ xs = [y, d] ∧ DGet H a y o ∧ Q (o.getD d) H) ∨ ∃ a y o, x = .ref a ∧ xs = [y] ∧ DGet H a y o ∧ Q (o.getD .non) H
theorem mt_get (k : Okc X C W) : MtR X "dict.get" rGetDct := by
  intro pins s σ H x xs v us Q I rx rs h
  rcases h with ⟨a, y, d, o, rfl, rfl, g, q⟩ | ⟨a, y, o, rfl, rfl, g, q⟩
  · cases (show v = Value.ref a from rx)
    cases rs with
    | cons r1 rs =>
      cases rs with
      | cons r2 rs =>
        cases rs
        exact d_get2 (by have := k.units; omega) I g r1 r2 fun w' s' I' r' => ⟨_, H, I', r', q⟩
  · cases (show v = Value.ref a from rx)
    cases rs with
    | cons r1 rs =>
      cases rs
      exact d_get1 (by have := k.units; omega) I g r1 fun w' s' I' r' => ⟨_, H, I', r', q⟩
end
end Z
/-! ZT: sorted(d), its keys pairs of numbers. -/
namespace Z
open PySem PySem.Spec PyProof.Rows L2
/-- the two numbers of a pair -/
noncomputable def keyP (H : Hp) (v : V) : Int × Int := open Classical in if h : ∃ p : Int × Int, ∃ t, v = .ref t ∧ H t = some (.tup [.int p.1, .int p.2]) then h.choose else (0, 0)
theorem keyP_of {H : Hp} {t : Addr} {i j : Int} (h : H t = some (.tup [.int i, .int j])) : keyP H (.ref t) = (i, j) := by
  have hx : ∃ p : Int × Int, ∃ t', V.ref t = .ref t' ∧ H t' = some (.tup [.int p.1, .int p.2]) := ⟨(i, j), t, rfl, h⟩
  unfold keyP
  rw [dif_pos hx]
  obtain ⟨t', e1, e2⟩ := hx.choose_spec
  cases e1
  rw [h] at e2
  cases e : hx.choose with
  | mk a b =>
    rw [e] at e2
    injection e2 with e2
    injection e2 with e2
    injection e2 with h1 h2
    injection h1 with h1
    injection h2 with h2 _
    injection h2 with h2
    rw [h1, h2]
section
variable {X : Cx}
def PairV (H : Hp) (v : V) (p : Int × Int) : Prop := ∃ t, v = V.ref t ∧ H t = some (.tup [.int p.1, .int p.2])
theorem pairs_from {α : Type} {R : α → V → Prop} : ∀ {l : List α} {m : List V}, l.length = m.length → (∀ (j : Nat) (x : α), l[j]? = some x → ∃ v, m[j]? = some v ∧ R x v) → Paired (fun v x => R x v) m l
  | [], [], _, _ => .nil
  | [], _ :: _, h, _ => by simp at h
  | _ :: _, [], h, _ => by simp at h
  | x :: l, v :: m, h, g => by
    obtain ⟨w, h1, h2⟩ := g 0 x rfl
    cases (show v = w by simpa using h1)
    exact .cons h2 (pairs_from (by simpa using h) fun j y q => by
      have := g (j + 1) y (by simpa using q)
      simpa using this)
/-- sorted(d), keys pairs of numbers -/
theorem cr_sortedDctT (hc : X.calm = true) : CallR X (.builtin "sorted") (fun vs H Q => ∃ (a : Addr) (es : List (List Key × V)) (ps : List (Int × Int)), vs = [V.ref a] ∧ L2.Rd H a (.dT es) ∧ es.map (·.1) = ps.map (fun p => [.inl p.1, .inl p.2]) ∧
    ∀ (ys qs : List V) (p : Addr), SrtO.Srtd (ltP (keyP H)) ys → SrtO.Stb (ltP (keyP H)) ys qs → Paired (PairV H) qs ps → H p = none → Q (.ref p) (upd H p (.lst ys))) := by
  intro pins s σ H vs us Q I r h
  obtain ⟨a, es, ps, rfl, e, ek, q⟩ := h
  rw [Vals.ref1 r]
  obtain ⟨z, hs, xs, rel, dd⟩ := dt_rd I.hok e
  obtain ⟨en, ep, hraw, hsz, hat⟩ := dd.raw
  have hh : X.A.in1.handled = none := I.ok.hd hc
  have hl : es.length = xs.length := Paired.length rel
  refine Calls.call_function_entry kind_sorted plain_sorted entry_sorted (args_sorted1 _) ?_
  unfold Builtin.«sorted»
  refine wpAny_bind (m := checkCount "sorted" 1 1 _) (wpAny_pure ?_)
  refine wpAny_bind (PySem.W.kdu_collect (A := X.A.in1) (KdlSrc.rawDict hs) hh hraw (by omega) fun h' tk acc keep hacc => ?_)
  have hal : acc.toList.length = xs.length := by rw [Array.length_toList, ← hsz]; exact hacc.1
  have hz : acc.toList.length ≤ sizeLine := by omega
  have pl : ps.length = es.length := by have := congrArg List.length ek; simpa using this.symm
  have key : ∀ (j : Nat) (p : Int × Int), ps[j]? = some p → ∃ t, acc.toList[j]? = some (Value.ref t) ∧ H t = some (.tup [.int p.1, .int p.2]) := fun j p hj => by
    have hj1 : j < ps.length := (List.getElem?_eq_some_iff.mp hj).1
    have hj2 : j < acc.toList.length := by omega
    obtain ⟨hi, hv⟩ := hacc.2 j acc.toList[j] (by rw [← Array.getElem?_toList]; exact List.getElem?_eq_getElem hj2)
    obtain ⟨y, hy, hk, _, _⟩ := hat j hi
    have he : es[j]? = some es[j] := List.getElem?_eq_getElem (by omega)
    obtain ⟨y', hy', e1, e2, e3⟩ := paired_get rel he
    rw [hy] at hy'
    cases hy'
    have hkk : (es.map (·.1))[j]? = some es[j].1 := by rw [List.getElem?_map, he]; rfl
    rw [ek, List.getElem?_map, hj] at hkk
    have hkk' : es[j].1 = [.inl p.1, .inl p.2] := (Option.some.inj hkk).symm
    refine ⟨y.2.1, by rw [List.getElem?_eq_getElem hj2, hv, hk], ?_⟩
    rw [hkk'] at e2
    exact e2
  obtain ⟨qs, hqs⟩ : ∃ qs, qs = acc.toList.map backV := ⟨_, rfl⟩
  have pq : Paired (PairV H) qs ps := by
    refine pairs_from (R := fun p v => PairV H v p) (by rw [hqs, List.length_map]; omega) fun j p hj => ?_
    obtain ⟨t, h1, h2⟩ := key j p hj
    exact ⟨V.ref t, by rw [hqs, List.getElem?_map, h1]; rfl, t, rfl, h2⟩
  have ref : ∀ v ∈ acc.toList, ∃ t, v = Value.ref t ∧ ∃ p : Int × Int, H t = some (.tup [.int p.1, .int p.2]) := fun v hv => by
    obtain ⟨j, hj, ej⟩ := List.mem_iff_getElem.mp hv
    obtain ⟨t, h1, h2⟩ := key j ps[j] (List.getElem?_eq_getElem (by omega))
    rw [List.getElem?_eq_getElem hj, ej] at h1
    exact ⟨t, Option.some.inj h1, _, h2⟩
  refine wpAny_bind (wpAny_newList ?_ hz)
  have hob : (h'.push { cls := .type "list", data := .seq acc.toList.toArray }).get? h'.objs.size = some (seqObj "list" acc.toList.toArray 0) := Heap.get?_push_size _ rfl
  have hp : ∀ v ∈ acc.toList, Srt.IsPair (h'.push { cls := .type "list", data := .seq acc.toList.toArray }) v (keyP H (backV v)).1 (keyP H (backV v)).2 := fun v hv => by
    obtain ⟨t, rfl, p, ht⟩ := ref v hv
    obtain ⟨_, its2, r2, o, ho, hc', n, hd⟩ := I.hok _ _ ht
    obtain ⟨u1, u2, rfl, ri, rj⟩ := vals2 r2
    obtain ⟨t1, rfl⟩ := ri
    obtain ⟨t2, rfl⟩ := rj
    rw [show backV (Value.ref t) = V.ref t from rfl, keyP_of (i := p.1) (j := p.2) ht]
    exact ⟨t, o, t1, t2, n, rfl, Heap.get?_push_of_some _ (keep _ _ ho), hc', hd⟩
  refine wpAny_bind (wpAny_holding (wpAny_call_entry PyProof.Rows.slot_list_sort ⟨_, hob, rfl⟩ PyProof.Rows.entry_list_sort
    (SrtO.list_sort_ord (SrtO.swo_lex fun u => keyP H (backV u)) hob hz (fun h2 => SrtO.pairs_sortableO (by omega) hp fun o e => by
      have e' : some o = some (seqObj "list" acc.toList.toArray 0) := e.symm.trans hob
      cases e'
      intro c
      exact absurd (Value.type.inj c) (by decide)) fun out h1 h2 => ⟨.none, rfl, ?_⟩) (PyProof.Rows.args_list_sort _)))
  have h3 : ∀ u ∈ out, ∃ a, u = Value.ref a := fun u hu => by
    obtain ⟨t, ht, _⟩ := ref u (h2.perm.mem_iff.mp hu)
    exact ⟨t, ht⟩
  obtain ⟨ep', he'⟩ := PyProof.Rows.sortedHeap_at (vs := acc.toList) (out := out.toArray) hob
  have hb : SrtO.Stb (ltP (keyP H)) (out.map backV) qs := by
    rw [hqs]
    exact SrtO.Stb.map (ltP_swo _) backV h2
  have hlen : (out.map backV).length ≤ sizeLine := by rw [hb.len, hqs, List.length_map]; exact hz
  have hno : s.heap.get? h'.objs.size = none := by
    cases e : s.heap.get? h'.objs.size with
    | none => rfl
    | some ob => exact absurd (Heap.lt_size (keep _ _ e)) (Nat.lt_irrefl _)
  have hH : H h'.objs.size = none := I.hok.gone hno
  refine wpAny_pure ⟨_, rfl, .ref _, upd H h'.objs.size (.lst (out.map backV)), I.laidN (t' := tk) (fun b u hu => ?_) hno hH ⟨hlen, out, ep', vals_back h3, he'⟩, rfl, q _ _ _ (SrtO.srtd_map h1) hb pq hH⟩
  have hb2 := Heap.lt_size (keep _ _ hu)
  rw [PyProof.Rows.sortedHeap_old (Nat.ne_of_lt hb2) (by rw [Heap.size_push]; exact Nat.lt_succ_of_lt hb2)]
  exact Heap.get?_push_of_some _ (keep _ _ hu)
end
end Z
/-! Z4: comparisons, truth, built-in functions. -/
namespace Z
open PySem PySem.Spec PyProof.Rows L2
section
variable {X : Cx} {C : Cc} {W : Z.WX} {base : Nat}
def rCmp (C : Cc) (base : Nat) (op : CmpOp) : R2 := fun x y H Q => ∃ A τ σ st u w b, Cn C base A τ st σ H ∧ RpU C A H x u ∧ RpU C A H y w ∧ cmpop op st u w = some b ∧ Q (.bl b) H
theorem shaped_lay {x : PyData} (h : SeqAt.shaped x = true) : x.canLay0 = true := SeqAt.canLay_of_shaped h
theorem len_run {A : List Addr} {τ : Vars} {σ : L2.St} {st : Store} {H : Hp} {x : V} {u : U} {xs : List PyData} (c : Cn C base A τ st σ H) (ra : RpU C A H x u) (e : view2 st u = some (.list xs)) : ∃ a vs, x = .ref a ∧ SqL C.K H a vs ∧ vs.length = xs.length := by
  cases u with
  | d y =>
    cases e
    cases ra with
    | d r => cases r with | lst r1 r2 => exact ⟨_, _, rfl, r1.sq, r2.length⟩
  | cell n =>
    have e' : (match st[n]? with | some (.lst us) => (viewAll st us).map PyData.list | _ => none) = some (.list xs) := e
    split at e'
    · rename_i ws q
      rw [Option.map_eq_some_iff] at e'
      obtain ⟨xs', e1, e2⟩ := e'
      cases e2
      obtain ⟨a, vs, rfl, _, h2, h3⟩ := cell_lst c q ra
      exact ⟨a, vs, rfl, SqL.of h2, (RpUs.mono (fun _ _ _ h => h) pre_if h3 |> Paired.length).trans (viewAll_len e1)⟩
    · cases e'
  | fn f => cases e
  | exc f => cases e
/-- two lists of unlike lengths -/
theorem op_len (k : Okc X C W) (neg : Bool) : OpR X (compareOp (if neg then .NotEq else .Eq)) (fun x y H Q => ∃ a b xs ys, x = .ref a ∧ y = .ref b ∧ SqL X.K H a xs ∧ SqL X.K H b ys ∧ xs.length ≠ ys.length ∧ Q (.bl neg) H) := by
  intro pins s σ H x y v u Q I rx ry h
  obtain ⟨a, b, xs, ys, rfl, rfl, ha, hb, hl, q⟩ := h
  cases (show v = Value.ref a from rx)
  cases (show u = Value.ref b from ry)
  obtain ⟨us, r1, p1, _⟩ := I.list ha
  obtain ⟨ws, r2, p2, _⟩ := I.list hb
  have hu : X.A.units < cLine := by have := k.units; omega
  have hne : (us.toArray.size != ws.toArray.size) = true := by
    rw [List.size_toArray, List.size_toArray, ← r1.length, ← r2.length]
    simpa using hl
  cases neg with
  | false => exact SeqAt.eq_list_lengthsAt p1.isList p2.isList hne hu ⟨.bl false, H, I, rfl, q⟩
  | true =>
    obtain ⟨⟨cls, dd, data, sl⟩, ho, hc, n, hd⟩ := id p1.isList
    obtain ⟨⟨cls2, dd2, data2, sl2⟩, ho2, hc2, n2, hd2⟩ := id p2.isList
    simp only at hc hd hc2 hd2
    subst hc hd hc2 hd2
    exact richCompare_meets_room (op := .NotEq) ⟨_, ho, rfl⟩ ⟨_, ho2, rfl⟩ F.slot_list_ne F.entry_list_ne (F.args_list_ne_2 _ _) (SeqAt.list_ne_lengthsAt a b us.toArray ws.toArray n n2 dd dd2 sl sl2 hne)
      ⟨ho, ho2, show Value.bool true ≠ Value.notImplemented ∧ EP X pins σ Q (.bool true) s from ⟨(fun x => nomatch x), ⟨.bl true, H, I, rfl, q⟩⟩⟩ hu
theorem diff_lists {x y : PyData} (h : diffLen x y = true) : ∃ xs ys, x = .list xs ∧ y = .list ys ∧ xs.length ≠ ys.length := by
  unfold diffLen at h
  split at h
  · exact ⟨_, _, rfl, rfl, by simpa using h⟩
  · cases h
theorem view_str {A : List Addr} {st : Store} {H : Hp} {x : V} {u : U} {t : Str} (e1 : view2 st u = some (.str t)) (ra : RpU C A H x u) : x = .str t := by
  cases u with
  | d a => cases e1; exact rstr ra
  | cell n =>
    have e1' : (match st[n]? with | some (.lst us) => (viewAll st us).map PyData.list | _ => none) = some (.str t) := e1
    split at e1'
    · rw [Option.map_eq_some_iff] at e1'
      obtain ⟨_, _, z⟩ := e1'; cases z
    · cases e1'
  | fn f => cases e1
  | exc f => cases e1
theorem vstr_dec (p q : Str) : decide (V.str p = V.str q) = decide (p = q) := by
  by_cases h : p = q
  · subst h; simp
  · simp [h]
theorem deq_run {A : List Addr} {τ : Vars} {σ : L2.St} {st : Store} {H : Hp} {x y : V} {u w : U} {b : Bool} (c : Cn C base A τ st σ H) (ra : RpU C A H x u) (rb : RpU C A H y w)
    (e : ((view2 st u).bind fun x => (view2 st w).bind fun y => deq x y) = some b) : (b = false ∧ ∃ a b xs ys, x = .ref a ∧ y = .ref b ∧ SqL C.K H a xs ∧ SqL C.K H b ys ∧ xs.length ≠ ys.length) ∨
      (∃ p q, x = .str p ∧ y = .str q ∧ b = decide (p = q)) ∨ ∃ d f, Dp C.K H x d ∧ Dp C.K H y f ∧ SeqAt.shaped d = true ∧ SeqAt.shaped f = true ∧ b = d.eqv f := by
  rw [Option.bind_eq_some_iff] at e
  obtain ⟨d, e1, e⟩ := e
  rw [Option.bind_eq_some_iff] at e
  obtain ⟨f, e2, e⟩ := e
  unfold deq at e
  split at e
  · rename_i hd
    cases e
    obtain ⟨xs, ys, rfl, rfl, hl⟩ := diff_lists hd
    obtain ⟨a, vs, rfl, h1, h2⟩ := len_run c ra e1
    obtain ⟨b, ws, rfl, h3, h4⟩ := len_run c rb e2
    exact .inl ⟨rfl, a, b, vs, ws, rfl, rfl, h1, h3, by omega⟩
  · split at e
    · rename_i hd hs
      obtain ⟨p, rfl⟩ : ∃ p, d = .str p := by cases d <;> first | exact ⟨_, rfl⟩ | cases hs
      obtain ⟨q, rfl⟩ : ∃ q, f = .str q := by cases f <;> first | exact ⟨_, rfl⟩ | cases hs
      cases e
      refine .inr (.inl ⟨p, q, view_str e1 ra, view_str e2 rb, ?_⟩)
      show (p == q) = decide (p = q)
      by_cases h : p = q
      · subst h; simp
      · simp [h]
    · obtain ⟨⟨h1, h2⟩, rfl⟩ := chk_run e
      exact .inr (.inr ⟨d, f, view2_run c e1 (shaped_lay h1) ra, view2_run c e2 (shaped_lay h2) rb, h1, h2, rfl⟩)
theorem in_tup (k : Okc X C W) (neg : Bool) : OpR X (compareOp (if neg then .NotIn else .In)) (fun x y H Q => ∃ d ds, Dp X.K H x d ∧ Dp X.K H y (.tuple ds) ∧ SeqAt.shaped d = true ∧ SeqAt.shaped (.tuple ds) = true ∧ Q (.bl (if neg then !ds.any fun z => PyData.eqv z d else ds.any fun z => PyData.eqv z d)) H) := by
  intro pins s σ H x y v u Q I rx ry h
  obtain ⟨d, ds, hd, he, sd, se, q⟩ := h
  obtain ⟨as, r1⟩ := Dp.reads I d x v hd rx
  obtain ⟨bs, r2⟩ := Dp.reads I (.tuple ds) y u he ry
  have hu : X.A.units + 1 + min (PyData.depthAll ds) d.depth < cLine := by
    have e := k.units
    have e2 : d.depth ≤ 64 := by
      have h : (d.canLay0 && decide (d.depth ≤ 64)) = true := sd
      simp only [Bool.and_eq_true, decide_eq_true_eq] at h
      exact h.2
    omega
  cases neg with
  | true => exact SeqAt.notIn_tuple_reads r2 r1 (SeqAt.canLay_of_shaped se) (SeqAt.canLay_of_shaped sd) hu ⟨.bl _, H, I, rfl, q⟩
  | false => exact SeqAt.in_tuple_reads r2 r1 (SeqAt.canLay_of_shaped se) (SeqAt.canLay_of_shaped sd) hu ⟨.bl _, H, I, rfl, q⟩
theorem isn {A : List Addr} {H : Hp} {x : V} {u : U} (r : RpU C A H x u) : decide (x = .non) = isNone u := by
  cases r with
  | d r => cases r <;> rfl
  | cell => rfl
  | fn => rfl
  | exc => rfl
theorem in_run (k : Okc X C W) (neg : Bool) : OpR X (compareOp (if neg then .NotIn else .In)) (fun x y H Q => ∃ A τ σ st u w b, Cn C base A τ st σ H ∧ RpU C A H x u ∧ RpU C A H y w ∧
    inOf st u w = some b ∧ Q (.bl (if neg then !b else b)) H) := by
  intro pins s σ H x y v u Q I rx ry h
  obtain ⟨A, τ, σ', st, a, w, b, c, ra, rb, e, q⟩ := h
  unfold inOf at e
  split at e
  · rename_i o e0
    rw [Option.bind_eq_some_iff] at e0
    obtain ⟨yd, e1, e2⟩ := e0
    cases a with
    | cell => cases e1
    | fn => cases e1
    | exc => cases e1
    | d yd' =>
      cases e1
      obtain ⟨p, rv, rfl, g, g1, g2⟩ := dctGet_run c e2 rb ra
      refine op_inDct k neg pins s σ H x _ v u Q I rx ry ⟨p, rv, rfl, g, ?_⟩
      have hb : rv.isSome = b := by
        cases o with
        | none => cases e; rw [g2 rfl]; rfl
        | some z => cases e; obtain ⟨x', h1, _⟩ := g1 z rfl; rw [h1]; rfl
      rw [hb]; exact q
  rw [Option.bind_eq_some_iff] at e
  obtain ⟨d, e1, e⟩ := e
  rw [Option.bind_eq_some_iff] at e
  obtain ⟨f, e2, e⟩ := e
  have hu : X.A.units + 65 < cLine := by have := k.units; omega
  cases f with
  | list ys =>
    obtain ⟨⟨h1, h2⟩, rfl⟩ := chk_run e
    have p1 := view_run c e1 (shaped_lay h1) ra
    have p2 := view_run c e2 (shaped_lay h2) rb
    rw [← k.K] at p1 p2
    cases neg with
    | true => exact op_notInD hu pins s σ H x y v u Q I rx ry ⟨d, ys, p1, p2, h1, h2, q⟩
    | false => exact op_inD hu pins s σ H x y v u Q I rx ry ⟨d, ys, p1, p2, h1, h2, q⟩
  | tuple ys =>
    obtain ⟨⟨h1, h2⟩, rfl⟩ := chk_run e
    have p1 := view_run c e1 (shaped_lay h1) ra
    have p2 := view_run c e2 (shaped_lay h2) rb
    rw [← k.K] at p1 p2
    exact in_tup k neg pins s σ H x y v u Q I rx ry ⟨d, ys, p1, p2, h1, h2, q⟩
  | str z =>
    cases d with
    | str t =>
      have e' : some (!(Builtin.Str.occurrences z t 0 z.length 1).isEmpty) = some b := e
      cases e'
      have ea : x = .str t := by
        cases a with
        | d a => cases e1; exact rstr ra
        | cell n =>
          have e1' : (match st[n]? with | some (.lst us) => (trees us).map PyData.list | _ => none) = some (.str t) := e1
          split at e1'
          · rw [Option.map_eq_some_iff] at e1'
            obtain ⟨_, _, z⟩ := e1'; cases z
          · cases e1'
        | fn f => cases e1
        | exc f => cases e1
      have eb : y = .str z := by
        cases w with
        | d a => cases e2; exact rstr rb
        | cell n =>
          have e1' : (match st[n]? with | some (.lst us) => (trees us).map PyData.list | _ => none) = some (.str z) := e2
          split at e1'
          · rw [Option.map_eq_some_iff] at e1'
            obtain ⟨_, _, z⟩ := e1'; cases z
          · cases e1'
        | fn f => cases e2
        | exc f => cases e2
      cases neg with
      | true => exact op_notIn_str pins s σ H x y v u Q I rx ry ⟨t, z, ea, eb, q⟩
      | false => exact op_in_str pins s σ H x y v u Q I rx ry ⟨t, z, ea, eb, q⟩
    | _ => cases e
  | _ => cases e
theorem cmp_op (k : Okc X C W) (op : CmpOp) : OpR X (compareOp op) (rCmp C base op) := by
  have hu : X.A.units + 64 < cLine := by have := k.units; omega
  intro pins s σ H x y v u Q I rx ry h
  obtain ⟨A, τ, σ', st, a, w, b, c, ra, rb, e, q⟩ := h
  have hI : ∀ (hop : op ≠ .Eq ∧ op ≠ .NotEq ∧ op ≠ .In ∧ op ≠ .NotIn ∧ op ≠ .Is ∧ op ≠ .IsNot), wpAny (model X.prog X.w) X.A (compareOp op v u) (EP X pins σ Q) X.xe s := by
    rintro ⟨h1, h2, h3, h4, h5, h6⟩
    have e' : cmpU op a w = some b := by
      cases op <;> first | exact absurd rfl h1 | exact absurd rfl h2 | exact absurd rfl h3 | exact absurd rfl h4 | exact absurd rfl h5 | exact absurd rfl h6 | exact e
    unfold cmpU at e'
    split at e'
    · rename_i i j
      have ea := rint ra
      have eb := rint rb
      cases op with
      | Lt => cases e'; exact op_lt pins s σ H x y v u Q I rx ry ⟨i, j, ea, eb, q⟩
      | LtE => cases e'; exact op_le pins s σ H x y v u Q I rx ry ⟨i, j, ea, eb, q⟩
      | Gt => cases e'; exact op_gt pins s σ H x y v u Q I rx ry ⟨i, j, ea, eb, q⟩
      | GtE => cases e'; exact op_ge pins s σ H x y v u Q I rx ry ⟨i, j, ea, eb, q⟩
      | _ => cases e'
    · rename_i d f _
      unfold ltD at e'
      split at e'
      · obtain ⟨⟨q1, q2, q3, q4, q5⟩, rfl⟩ := chk_run e'
        cases ra with
        | d ra => cases rb with
          | d rb =>
            have ra' : Rp X.K C.w H x d := by rw [k.K]; exact ra
            have rb' : Rp X.K C.w H y f := by rw [k.K]; exact rb
            obtain ⟨as, r1⟩ := Dp.reads I d x v (Rp.dp q4 ra') rx
            obtain ⟨bs, r2⟩ := Dp.reads I f y u (Rp.dp q5 rb') ry
            refine PySem.W.lt_data r1 r2 q1 (fun z => by rw [z] at q2; cases q2) ?_ ⟨.bl _, H, I, rfl, q⟩
            have := k.units
            have : min d.depth f.depth ≤ d.depth := Nat.min_le_left _ _
            omega
      · cases e'
    · cases e'
  by_cases h1 : op = .Eq
  · subst h1
    rcases deq_run c ra rb e with ⟨rfl, z⟩ | ⟨p0, q0, rfl, rfl, rfl⟩ | ⟨d, f, p1, p2, s1, s2, rfl⟩
    · rw [← k.K] at z
      obtain ⟨a, b, xs, ys, h1, h2, h3, h4, h5⟩ := z
      exact op_len k false pins s σ H x y v u Q I rx ry ⟨a, b, xs, ys, h1, h2, h3, h4, h5, q⟩
    · exact op_eq pins s σ H _ _ v u Q I rx ry ⟨rfl, by rw [vstr_dec]; exact q⟩
    rw [← k.K] at p1 p2
    exact op_eqD hu pins s σ H x y v u Q I rx ry ⟨d, f, p1, p2, s1, s2, q⟩
  by_cases h2 : op = .NotEq
  · subst h2
    have e' : ((view2 st a).bind fun x => (view2 st w).bind fun y => (deq x y).map (!·)) = some b := e
    have e2 : ((view2 st a).bind fun x => (view2 st w).bind fun y => deq x y) = some (!b) := by
      cases q1 : view2 st a with
      | none => rw [q1] at e'; cases e'
      | some x1 =>
        rw [q1] at e'
        cases q2 : view2 st w with
        | none => rw [q2] at e'; cases e'
        | some y1 =>
          rw [q2] at e'
          have e3 : (deq x1 y1).map (!·) = some b := e'
          show deq x1 y1 = some (!b)
          rw [Option.map_eq_some_iff] at e3
          obtain ⟨b0, h, rfl⟩ := e3
          rw [h]; simp
    rcases deq_run c ra rb e2 with ⟨e3, z⟩ | ⟨p0, q0, rfl, rfl, e3⟩ | ⟨d, f, p1, p2, s1, s2, e3⟩
    · rw [← k.K] at z
      obtain ⟨a, b', xs, ys, h1, h2, h3, h4, h5⟩ := z
      have hb : b = true := by cases b <;> simp at e3 ⊢
      subst hb
      exact op_len k true pins s σ H x y v u Q I rx ry ⟨a, b', xs, ys, h1, h2, h3, h4, h5, q⟩
    · refine op_ne pins s σ H _ _ v u Q I rx ry ⟨rfl, ?_⟩
      rw [vstr_dec, ← e3, Bool.not_not]; exact q
    rw [← k.K] at p1 p2
    refine op_neD hu pins s σ H x y v u Q I rx ry ⟨d, f, p1, p2, s1, s2, ?_⟩
    rw [← e3, Bool.not_not]; exact q
  by_cases h3 : op = .In
  · subst h3
    exact in_run (base := base) k false pins s σ H x y v u Q I rx ry ⟨A, τ, σ', st, a, w, b, c, ra, rb, e, q⟩
  by_cases h4 : op = .NotIn
  · subst h4
    have e' : (inOf st a w).map (!·) = some b := e
    have e2 : inOf st a w = some (!b) := by
      rw [Option.map_eq_some_iff] at e'
      obtain ⟨b0, h, rfl⟩ := e'
      rw [h]; simp
    exact in_run (base := base) k true pins s σ H x y v u Q I rx ry ⟨A, τ, σ', st, a, w, !b, c, ra, rb, e2, by simpa using q⟩
  have nn : isNone w = true → y = .non := fun h => by
    have := isn rb
    rw [h] at this
    exact of_decide_eq_true this
  have bb : ∀ t, isBB a w = some t → ∃ p q : Bool, x = .bl p ∧ y = .bl q ∧ t = decide (p = q) := fun t h => by
    unfold isBB at h
    split at h
    · cases ra with | d ra => cases ra with | bl p =>
        cases rb with | d rb => cases rb with | bl q => exact ⟨_, _, rfl, rfl, (Option.some.inj h).symm⟩
    · cases h
  by_cases h5 : op = .Is
  · subst h5
    have e' : (if isNone w then some (isNone a) else isBB a w) = some b := e
    split at e'
    · rename_i hw
      refine op_isN pins s σ H x y v u Q I rx ry ⟨nn hw, ?_⟩
      rw [isn ra, Option.some.inj e']; exact q
    · obtain ⟨p, r, rfl, rfl, rfl⟩ := bb _ e'
      exact op_isBl pins s σ H _ _ v u Q I rx ry ⟨p, r, rfl, rfl, q⟩
  by_cases h6 : op = .IsNot
  · subst h6
    have e' : (if isNone w then some (!isNone a) else (isBB a w).map (!·)) = some b := e
    split at e'
    · rename_i hw
      refine op_notN pins s σ H x y v u Q I rx ry ⟨nn hw, ?_⟩
      rw [isn ra, Option.some.inj e']; exact q
    · rw [Option.map_eq_some_iff] at e'
      obtain ⟨t, h, rfl⟩ := e'
      obtain ⟨p, r, rfl, rfl, rfl⟩ := bb _ h
      exact op_notBl pins s σ H _ _ v u Q I rx ry ⟨p, r, rfl, rfl, q⟩
  exact hI ⟨h1, h2, h3, h4, h5, h6⟩

theorem truth_run {A : List Addr} {τ : Vars} {σ : L2.St} {st : Store} {H : Hp} {x : V} {u : U} {b : Bool} (c : Cn C base A τ st σ H) (r : RpU C A H x u) (e : truth st u = some b) : TruV C.K x H b := by
  have lst : (lstOf st u).map (!·.isEmpty) = some b → TruV C.K x H b := by
    intro e0
    rw [Option.map_eq_some_iff] at e0
    obtain ⟨us, e1, e2⟩ := e0
    obtain ⟨a, vs, rfl, s1, r1⟩ := lst_run c e1 r
    refine .inl ⟨vs, s1, ?_⟩
    rw [← e2]
    cases r1 <;> rfl
  cases u with
  | d y =>
    cases y with
    | none => cases r with | d r => cases r; cases e; rfl
    | bool => cases r with | d r => cases r; cases e; rfl
    | int => cases r with | d r => cases r; cases e; rfl
    | str z =>
      cases r with
      | d r => cases r; obtain ⟨h, rfl⟩ := chk_run e; exact ⟨h, rfl⟩
    | list => exact lst e
    | tuple xs =>
      cases e
      cases r with
      | d r =>
        cases r with
        | tup a q =>
          refine .inr (.inl ⟨_, a.sq, ?_⟩)
          cases q <;> rfl
    | dict => exact lst e
  | cell => exact lst e
  | fn => exact lst e
  | exc => exact lst e
end
end Z
/-! Z5: built-in functions. -/
namespace Z
open PySem PySem.Spec PyProof.Rows L2
section
variable {X : Cx} {C : Cc} {W : Z.WX} {base : Nat}
def rPrim (C : Cc) (base : Nat) (p : Prim) : List V → Hp → VK → Prop := fun vs H Q => ∃ A τ σ st us mk, Cn C base A τ st σ H ∧ RpUs C A H vs us ∧ prim p st us = some mk ∧ ∀ v H', MkR C A H mk v H' → Q v H'
theorem callr_imp {f : Value} {r r' : List V → Hp → VK → Prop} (h : CallR X f r) (i : ∀ vs H Q, r' vs H Q → r vs H Q) : CallR X f r' := fun pins s σ H vs us Q I rv q => h pins s σ H vs us Q I rv (i _ _ _ q)
theorem us1 {A : List Addr} {H : Hp} {vs : List V} {u : U} (r : RpUs C A H vs [u]) : ∃ v, vs = [v] ∧ RpU C A H v u := by
  cases r with
  | cons a b => cases b; exact ⟨_, rfl, a⟩
theorem us2 {A : List Addr} {H : Hp} {vs : List V} {u w : U} (r : RpUs C A H vs [u, w]) : ∃ v x, vs = [v, x] ∧ RpU C A H v u ∧ RpU C A H x w := by
  cases r with
  | cons a b => obtain ⟨x, rfl, q⟩ := us1 b; exact ⟨_, _, rfl, a, q⟩
theorem rtup {A : List Addr} {H : Hp} {v : V} {xs : List PyData} (r : RpU C A H v (.d (.tuple xs))) : ∃ a vs, v = .ref a ∧ SqT C.K H a vs ∧ RpAll C.K C.w H vs xs := by
  cases r with
  | d r => cases r with | tup a q => exact ⟨_, _, rfl, a.sq, q⟩
theorem rbool {A : List Addr} {H : Hp} {v : V} {i : Bool} (r : RpU C A H v (.d (.bool i))) : v = .bl i := by cases r with | d r => cases r; rfl

theorem p_len (k : Okc X C W) : CallR X (.builtin "len") (rPrim C base .len) := by
  refine callr_imp (((call_len_seq (X := X)).or call_len_str).or (call_len_dct2 (C := C))) fun vs H Q h => ?_
  obtain ⟨A, τ, σ', st, as, mk, c, ra, e, q⟩ := h
  match as, ra, e with
  | [u], ra, e =>
    obtain ⟨v, rfl, r⟩ := us1 ra
    have e0 : (lenOf st u).map (fun (n : Nat) => Mk.u (.d (.int (n : Int)))) = some mk := e
    rw [Option.map_eq_some_iff] at e0
    obtain ⟨n, e1, rfl⟩ := e0
    have lst : (match lstOf st u with | some us => some us.length | none => (dctOf st u).map (·.length)) = some n → ((∃ p ys, [v] = [V.ref p] ∧ (SqL X.K H p ys ∨ SqT X.K H p ys) ∧ Q (.int (ys.length : Int)) H) ∨ (∃ (z : Str), [v] = [V.str z] ∧ z.length ≤ sizeLine ∧ Q (.int (z.length : Int)) H)) ∨
        ∃ A a t kvs, [v] = [V.ref a] ∧ DctA C A H a t kvs ∧ Q (.int ((kvs.length : Nat) : Int)) H := by
      intro e2
      split at e2
      · rename_i us e3
        cases e2
        obtain ⟨a, ws, rfl, s1, r1⟩ := lst_run c e3 r
        refine .inl (.inl ⟨a, ws, rfl, .inl (k.K ▸ s1), ?_⟩)
        rw [Paired.length r1]
        exact q _ _ (mkInt _)
      · rw [Option.map_eq_some_iff] at e2
        obtain ⟨kvs, e3, rfl⟩ := e2
        obtain ⟨a, t, rfl, d⟩ := dctOf_run c e3 r
        exact .inr ⟨A, a, t, kvs, rfl, d, q _ _ (mkInt _)⟩
    cases u with
    | d y =>
      cases y with
      | str z =>
        obtain ⟨hz, rfl⟩ := chk_run e1
        exact .inl (.inr ⟨z, by rw [rstr r], hz, q _ _ (mkInt _)⟩)
      | tuple xs =>
        cases e1
        obtain ⟨a, ws, rfl, s1, r1⟩ := rtup r
        refine .inl (.inl ⟨a, ws, rfl, .inr (k.K ▸ s1), ?_⟩)
        rw [r1.length]
        exact q _ _ (mkInt _)
      | _ => exact lst e1
    | _ => exact lst e1

def tyName : Ty → String
  | .int => "int" | .bool => "bool" | .str => "str" | .list => "list" | .tuple => "tuple" | .dict => "dict"
def dName : PyData → String
  | .none => "NoneType" | .bool _ => "bool" | .int _ => "int" | .str _ => "str" | .list _ => "list" | .tuple _ => "tuple" | .dict _ => "dict"
theorem kit_d (t : Ty) (x : PyData) : kitB (dName x) (tyName t) = some (tyIs t x) := by
  cases t <;> cases x <;> simp only [dName, tyName, tyIs] <;> decide +kernel
theorem kit_l (t : Ty) : kitB "list" (tyName t) = some (t == .list) := by cases t <;> decide +kernel
theorem kit_dd (t : Ty) : kitB "dict" (tyName t) = some (t == .dict) := by cases t <;> decide +kernel
/-- the type of a value -/
theorem ty_atG {pins : List (Addr × Obj)} {s : Shared} {σ σ' : L2.St} {A : List Addr} {τ : Vars} {st : Store} {H : Hp} {t : Ty} {u : U} {v : V} {w : Value} {b : Bool} (k : Okc X C W) (I : Inv X pins σ H s) (c : Cn C base A τ st σ' H) (r : RpU C A H v u) (rv : RelV v w) (e : isTy st t u = some b) :
    ∃ n P, PySem.W.KitX X.K w (.type n) P ∧ P s.heap ∧ (∀ t b, isTy st t u = some b → kitB n (tyName t) = some b) ∧ w ≠ .builtin "__main__.__loader__#opaque" := by
  have ofX : ∀ n, TyX X.K H v (.type n) → (∀ t b, isTy st t u = some b → kitB n (tyName t) = some b) → ∃ n P, PySem.W.KitX X.K w (.type n) P ∧ P s.heap ∧ (∀ t b, isTy st t u = some b → kitB n (tyName t) = some b) ∧ w ≠ .builtin "__main__.__loader__#opaque" := fun n h hb => by
    obtain ⟨P, Z, p, hx⟩ := kit_of I rv h
    exact ⟨n, P, Z, p, hb, hx⟩
  have lst : ∀ a vs, v = .ref a → SqL X.K H a vs → (∀ t b, isTy st t u = some b → kitB "list" (tyName t) = some b) → ∃ n P, PySem.W.KitX X.K w (.type n) P ∧ P s.heap ∧ (∀ t b, isTy st t u = some b → kitB n (tyName t) = some b) ∧ w ≠ .builtin "__main__.__loader__#opaque" := fun a vs ev h hb => by
    subst ev
    obtain ⟨its, _, ⟨o, n, ho, hc, _⟩, _⟩ := I.list h
    cases (show w = .ref a from rv)
    exact ⟨"list", _, PySem.W.kitx_list, ⟨o, ho, hc⟩, hb, fun z => nomatch z⟩
  have dct : ∀ a, v = .ref a → (∃ o, s.heap.get? a = some o ∧ o.ExactDict) → (∀ t b, isTy st t u = some b → kitB "dict" (tyName t) = some b) → ∃ n P, PySem.W.KitX X.K w (.type n) P ∧ P s.heap ∧ (∀ t b, isTy st t u = some b → kitB n (tyName t) = some b) ∧ w ≠ .builtin "__main__.__loader__#opaque" := fun a ev h hb => by
    subst ev
    obtain ⟨o, ho, hx⟩ := h
    cases (show w = .ref a from rv)
    exact ⟨"dict", _, PySem.W.kitx_dict, ⟨o, ho, hx.1⟩, hb, fun z => nomatch z⟩
  have dK : ∀ a es, ObjOk X.prog X.w H s.heap a (.dK es) → ∃ o, s.heap.get? a = some o ∧ o.ExactDict := fun a es h => by
    obtain ⟨_, _, vs, _, o, es', ep, ho, hx, _⟩ := h
    exact ⟨o, ho, hx⟩
  have dT : ∀ a es, ObjOk X.prog X.w H s.heap a (.dT es) → ∃ o, s.heap.get? a = some o ∧ o.ExactDict := fun a es h => by
    obtain ⟨_, _, xs, _, o, es', ep, ho, hx, _⟩ := h
    exact ⟨o, ho, hx⟩
  cases u with
  | d x =>
    have hb : ∀ t b, isTy st t (.d x) = some b → kitB (dName x) (tyName t) = some b := fun t b e => by rw [kit_d]; exact e
    cases r with
    | d r =>
      cases r with
      | non => exact ofX _ (.base .non) hb
      | bl y => exact ofX _ (.base (.bl y)) hb
      | int y => exact ofX _ (.base (.int y)) hb
      | str y => exact ofX _ (.base (.str y)) hb
      | lst a q => exact lst _ _ rfl (k.K ▸ a.sq) hb
      | @tup a vs xs q q2 =>
        have h : SqT X.K H a vs := k.K ▸ q.sq
        obtain ⟨its, _, ⟨o, ho, hc, _⟩, _⟩ := I.tuple h
        cases (show w = .ref a from rv)
        exact ⟨"tuple", _, PySem.W.kitx_tuple, ⟨o, ho, hc⟩, hb, fun z => nomatch z⟩
      | dct q q2 =>
        obtain ⟨o, q⟩ := q
        exact dct _ rfl (dK _ _ (I.hok _ _ q).2) hb
      | dctT q q2 =>
        obtain ⟨o, q⟩ := q
        exact dct _ rfl (dT _ _ (I.hok _ _ q).2) hb
  | cell n =>
    have e' : (match st[n]? with | some (.lst _) => some (t == Ty.list) | some (.dct _ _) => some (t == Ty.dict) | some (.fdct _ _) => some (t == Ty.dict) | _ => none) = some b := e
    split at e'
    · rename_i us q
      obtain ⟨a, vs, rfl, _, h, _⟩ := cell_lst c q r
      exact lst a vs rfl (SqL.of h) (fun t b e2 => by rw [kit_l]; simpa [isTy, q] using e2)
    · rename_i tt kvs q
      cases r with
      | @cell a _ ha =>
        obtain ⟨b', h1, h0⟩ := c.cells n _ q
        rw [ha] at h1; cases h1
        cases tt with
        | false =>
          obtain ⟨es, h2, _⟩ := h0
          exact dct a rfl (dK _ _ (I.hok _ _ h2)) (fun t b e2 => by rw [kit_dd]; simpa [isTy, q] using e2)
        | true =>
          obtain ⟨es, h2, _⟩ := h0
          exact dct a rfl (dT _ _ (I.hok _ _ h2)) (fun t b e2 => by rw [kit_dd]; simpa [isTy, q] using e2)
    · rename_i tt kvs q
      cases r with
      | @cell a _ ha =>
        obtain ⟨b', h1, h0⟩ := c.cells n _ q
        rw [ha] at h1; cases h1
        cases tt with
        | false =>
          obtain ⟨es, o, h2, _⟩ := h0
          exact dct a rfl (dK _ _ (I.hok _ _ h2).2) (fun t b e2 => by rw [kit_dd]; simpa [isTy, q] using e2)
        | true =>
          obtain ⟨es, o, h2, _⟩ := h0
          exact dct a rfl (dT _ _ (I.hok _ _ h2).2) (fun t b e2 => by rw [kit_dd]; simpa [isTy, q] using e2)
    · cases e'
  | fn f => cases e
  | exc f => cases e
theorem ty_at {pins : List (Addr × Obj)} {s : Shared} {σ σ' : L2.St} {A : List Addr} {τ : Vars} {st : Store} {H : Hp} {t : Ty} {u : U} {v : V} {w : Value} {b : Bool} (k : Okc X C W) (I : Inv X pins σ H s) (c : Cn C base A τ st σ' H) (r : RpU C A H v u) (rv : RelV v w) (e : isTy st t u = some b) :
    ∃ n P, PySem.W.KitX X.K w (.type n) P ∧ P s.heap ∧ kitB n (tyName t) = some b ∧ w ≠ .builtin "__main__.__loader__#opaque" := by
  obtain ⟨n, P, h1, h2, h3, h4⟩ := ty_atG k I c r rv e
  exact ⟨n, P, h1, h2, h3 t b e, h4⟩
theorem p_isT (k : Okc X C W) (t : Ty) : CallR X (.builtin "isinstance") (fun vs H Q => ∃ x, vs = [x, .ty (tyName t)] ∧ rPrim C base (.isT t) [x] H Q) := by
  intro pins s σ H vs us Q I rv h
  obtain ⟨x, rfl, A, τ, σ', st, as, mk, c, ra, e, q⟩ := h
  obtain ⟨u1, u2, rfl, r1, r2⟩ := vals2 rv
  match as, ra, e with
  | [u], ra, e =>
    obtain ⟨v, ev, r⟩ := us1 ra
    cases ev
    have e0 : (isTy st t u).map (fun b => Mk.u (.d (.bool b))) = some mk := e
    rw [Option.map_eq_some_iff] at e0
    obtain ⟨b, e1, rfl⟩ := e0
    obtain ⟨n, P, Z, p, hb, hx⟩ := ty_at k I c r r1 e1
    cases (show u2 = .type (tyName t) from r2)
    exact PySem.W.kia_one Z I.kIn p (kit_ty hb) hx fun tk => ⟨.bl b, H, I.tok tk, rfl, q _ _ (mkBl b)⟩

theorem p_int : CallR X (.type "int") (rPrim C base .int) := by
  refine callr_imp call_int1 fun vs H Q h => ?_
  obtain ⟨A, τ, σ', st, as, mk, c, ra, e, q⟩ := h
  match as, ra, e with
  | [.d (.bool b)], ra, e =>
    obtain ⟨v, rfl, r⟩ := us1 ra
    cases e
    exact .inr ⟨b, by rw [rbool r], q _ _ (mkInt _)⟩
  | [.d (.int b)], ra, e =>
    obtain ⟨v, rfl, r⟩ := us1 ra
    cases e
    exact .inl ⟨b, by rw [rint r], q _ _ (mkInt _)⟩
theorem p_min2 (k : Okc X C W) : CallR X (.builtin "min") (rPrim C base .min2) := by
  refine callr_imp (call_min2 k.calm) fun vs H Q h => ?_
  obtain ⟨A, τ, σ', st, as, mk, c, ra, e, q⟩ := h
  match as, ra, e with
  | [.d (.int i), .d (.int j)], ra, e =>
    obtain ⟨v, w, rfl, r, r2⟩ := us2 ra
    cases e
    exact ⟨i, j, by rw [rint r, rint r2], q _ _ (mkInt _)⟩
theorem p_max2 (k : Okc X C W) : CallR X (.builtin "max") (rPrim C base .max2) := by
  refine callr_imp (call_max2 k.calm) fun vs H Q h => ?_
  obtain ⟨A, τ, σ', st, as, mk, c, ra, e, q⟩ := h
  match as, ra, e with
  | [.d (.int i), .d (.int j)], ra, e =>
    obtain ⟨v, w, rfl, r, r2⟩ := us2 ra
    cases e
    exact ⟨i, j, by rw [rint r, rint r2], q _ _ (mkInt _)⟩
theorem p_abs : CallR X (.builtin "abs") (rPrim C base .abs) := by
  refine callr_imp call_abs fun vs H Q h => ?_
  obtain ⟨A, τ, σ', st, as, mk, c, ra, e, q⟩ := h
  match as, ra, e with
  | [.d (.int i)], ra, e =>
    obtain ⟨v, rfl, r⟩ := us1 ra
    cases e
    exact ⟨i, by rw [rint r], q _ _ (mkInt _)⟩

theorem sys_dict {pins : List (Addr × Obj)} {s : Shared} {σ : L2.St} {H : Hp} (I : Inv X pins σ H s) (h : SysOk X.K H) : ∃ o es ep, s.heap.get? sysModules = some o ∧ o.data = .dict es ep := by
  rcases h with ⟨o, h⟩ | ⟨o, es, ep, h1, h2⟩
  · obtain ⟨_, q, _⟩ := I.hok _ _ h
    exact q
  · exact ⟨o, es, ep, I.kIn _ _ h1, h2⟩
theorem not_sys {pins : List (Addr × Obj)} {s : Shared} {σ : L2.St} {H : Hp} {a : Addr} {o : Obj} {vs : Array Value} {n : Nat} (I : Inv X pins σ H s) (h : SysOk X.K H) (ho : s.heap.get? a = some o) (hd : o.data = .seq vs n) : a ≠ sysModules := by
  rintro rfl
  obtain ⟨o', es, ep, h1, h2⟩ := sys_dict I h
  rw [ho] at h1
  cases h1
  rw [hd] at h2
  cases h2
theorem key_reads {h : Heap} {k : Key} {v : Value} (e : keyIs k v = true) : Reads h v (kvD k) [] := by
  rcases keyIs_shape e with ⟨i, t, rfl, rfl⟩ | ⟨x, t, rfl, rfl⟩
  · exact .int i t
  · exact .str x t
theorem keys_reads {h : Heap} : ∀ {ks : List Key} {us : List Value}, Vals (ks.map kV) us → ReadsAll h us (ks.map kvD) []
  | [], us, r => by cases r; exact .nil
  | k :: ks, us, r => by
    cases r with
    | cons a b =>
      cases k with
      | inl i => obtain ⟨t, rfl⟩ := a; exact .cons (as := []) (.int i t) (keys_reads b)
      | inr x => obtain ⟨t, rfl⟩ := a; exact .cons (as := []) (.str x t) (keys_reads b)
section
variable {pins : List (Addr × Obj)} {s : Shared} {σ : L2.St} {H : Hp}
mutual
theorem Rp.reads (I : Inv X pins σ H s) (hs : SysOk X.K H) : ∀ (x : PyData) (v : V) (u : Value), Rp X.K X.w H v x → RelV v u → ∃ as, Reads s.heap u x as ∧ sysModules ∉ as
  | .none, _, _, h, r => by cases h; cases r; exact ⟨_, Reads.none, by simp⟩
  | .bool b, _, _, h, r => by cases h; cases r; exact ⟨_, Reads.bool b, by simp⟩
  | .int i, _, _, h, r => by cases h; obtain ⟨t, rfl⟩ := r; exact ⟨_, Reads.int i t, by simp⟩
  | .str x, _, _, h, r => by cases h; obtain ⟨t, rfl⟩ := r; exact ⟨_, Reads.str x t, by simp⟩
  | .list ds, _, _, h, r => by
    cases h with
    | lst a b =>
      cases r
      obtain ⟨its, rv, ⟨o, n, ho, hc, _, hd⟩, _⟩ := I.list a.sq
      obtain ⟨as, hr, hn⟩ := RpAll.reads I hs ds _ its b rv
      exact ⟨_, Reads.list ho hc hd (by simpa using hr), by simp only [List.mem_cons, not_or]; exact ⟨(not_sys I hs ho hd).symm, hn⟩⟩
  | .tuple ds, _, _, h, r => by
    cases h with
    | tup a b =>
      cases r
      obtain ⟨its, rv, ⟨o, ho, hc, n, hd⟩, _⟩ := I.tuple a.sq
      obtain ⟨as, hr, hn⟩ := RpAll.reads I hs ds _ its b rv
      exact ⟨_, Reads.tuple ho hc hd (by simpa using hr), hn⟩
  | .dict kvs, _, _, h, r => by
    cases h with
    | dct a b =>
      cases r
      obtain ⟨o, a⟩ := a
      obtain ⟨ho, _, hsys, vs, kv, o', es, ep, ho', hx, hd, hk, hp, hnd⟩ := I.hok _ _ a
      obtain ⟨bs, h1, h2, h3⟩ := RpK.reads I hs kvs _ vs es.toList b kv hp
      refine ⟨_, Reads.dict ho' hx.1 hd h1 h2, ?_⟩
      simp only [List.cons_append, List.nil_append, List.mem_cons, not_or]
      exact ⟨fun e => by rw [← e] at hsys; simp at hsys, h3⟩
    | dctT a b =>
      cases r
      obtain ⟨o, a⟩ := a
      obtain ⟨ho, _, hsys, xs, hp, o', es, ep, ho', hx, hd, he, hnd⟩ := I.hok _ _ a
      obtain ⟨bs, h1, h2, h3⟩ := RpKT.reads I hs kvs _ xs b hp
      refine ⟨_, Reads.dict ho' hx.1 hd (as := []) (bs := bs) (by rw [he, List.map_map]; exact h1) (by rw [he, List.map_map]; exact h2), ?_⟩
      simp only [List.cons_append, List.nil_append, List.mem_cons, not_or]
      exact ⟨fun e => by rw [← e] at hsys; simp at hsys, h3⟩
theorem RpAll.reads (I : Inv X pins σ H s) (hs : SysOk X.K H) : ∀ (ds : List PyData) (vs : List V) (us : List Value), RpAll X.K X.w H vs ds → Vals vs us → ∃ as, ReadsAll s.heap us ds as ∧ sysModules ∉ as
  | [], _, _, h, r => by cases h; cases r; exact ⟨_, ReadsAll.nil, by simp⟩
  | d :: ds, _, _, h, r => by
    cases h with
    | cons h1 h2 =>
      cases r with
      | cons r1 r2 =>
        obtain ⟨as, q1, n1⟩ := Rp.reads I hs d _ _ h1 r1
        obtain ⟨bs, q2, n2⟩ := RpAll.reads I hs ds _ _ h2 r2
        exact ⟨_, ReadsAll.cons q1 q2, by simp only [List.mem_append, not_or]; exact ⟨n1, n2⟩⟩
theorem RpK.reads (I : Inv X pins σ H s) (hs : SysOk X.K H) : ∀ (kvs : List (PyData × PyData)) (es : List (Key × V)) (vs : List (Key × Value)) (en : List DictEntry), RpK X.K X.w H es kvs → KV es vs → PySem.Pairs (mixKind X.prog X.w) en vs →
    ∃ bs, ReadsAll s.heap (en.map (·.key)) (kvs.map (·.1)) [] ∧ ReadsAll s.heap (en.map (·.val)) (kvs.map (·.2)) bs ∧ sysModules ∉ bs
  | [], _, _, _, h, r, p => by
    cases h
    cases r
    cases p
    exact ⟨[], .nil, .nil, by simp⟩
  | (a, b) :: kvs, _, _, _, h, r, p => by
    cases h with
    | cons h1 h2 =>
      cases r with
      | cons r1 r2 =>
        cases p with
        | cons p1 p2 p3 =>
          obtain ⟨bs, q1, q2, q3⟩ := RpK.reads I hs kvs _ _ _ h2 r2 p3
          obtain ⟨cs, q4, q5⟩ := Rp.reads I hs b _ _ h1 r1.2
          rw [← p2] at q4
          rename_i k v es kv' l2 e en
          have p4 : keyIs k e.key = true := by rw [show k = kv'.1 from r1.1]; exact p1
          exact ⟨cs ++ bs, .cons (as := []) (key_reads p4) q1, .cons q4 q2, by simp only [List.mem_append, not_or]; exact ⟨q5, q3⟩⟩
theorem RpKT.reads (I : Inv X pins σ H s) (hs : SysOk X.K H) : ∀ (kvs : List (PyData × PyData)) (es : List (List Key × V)) (xs : List (List Key × Addr × Value)), RpKT X.K X.w H es kvs →
    Paired (fun (p : List Key × V) (q : List Key × Addr × Value) => p.1 = q.1 ∧ H q.2.1 = some (.tup (p.1.map kV)) ∧ RelV p.2 q.2.2) es xs →
    ∃ bs, ReadsAll s.heap (xs.map (DictEntry.key ∘ entryOfKey (tupleKind (mixKind X.prog X.w)))) (kvs.map (·.1)) [] ∧ ReadsAll s.heap (xs.map (DictEntry.val ∘ entryOfKey (tupleKind (mixKind X.prog X.w)))) (kvs.map (·.2)) bs ∧ sysModules ∉ bs
  | [], _, _, h, r => by
    cases h
    cases r
    exact ⟨[], .nil, .nil, by simp⟩
  | (a, b) :: kvs, _, _, h, r => by
    cases h with
    | cons h1 h2 =>
      cases r with
      | cons r1 r2 =>
        obtain ⟨bs, q1, q2, q3⟩ := RpKT.reads I hs kvs _ _ h2 r2
        obtain ⟨cs, q4, q5⟩ := Rp.reads I hs b _ _ h1 r1.2.2
        obtain ⟨_, its, rv, ⟨o, ho, hc, n, hd⟩⟩ := (show ObjOk X.prog X.w H s.heap _ (.tup _) from I.hok _ _ r1.2.1)
        exact ⟨cs ++ bs, .cons (as := []) (Reads.tuple ho hc hd (by simpa using keys_reads rv)) q1, .cons q4 q2, by simp only [List.mem_append, not_or]; exact ⟨q5, q3⟩⟩
end
end
theorem p_repr (k : Okc X C W) : CallR X (.builtin "repr") (rPrim C base .repr) := by
  intro pins s σ H vs us Q I rv h
  obtain ⟨A, τ, σ', st, as, mk, c, ra, e, q⟩ := h
  match as, ra, e with
  | [u], ra, e =>
    obtain ⟨v, rfl, r⟩ := us1 ra
    obtain ⟨w, rfl, r1⟩ := vals1 rv
    have e0 : ((view st u).bind fun x => chk (x.showable = true ∧ x.depth ≤ 64 ∧ x.shown.length ≤ sizeLine) (Mk.u (.d (.str x.shown)))) = some mk := e
    rw [Option.bind_eq_some_iff] at e0
    obtain ⟨x, e1, e2⟩ := e0
    obtain ⟨⟨h1, dep, h3⟩, rfl⟩ := chk_run e2
    have hs : SysOk X.K H := by rw [k.K]; exact c.sys.sys
    have fin : ∀ (u : Tok) (s' : Shared), Inv X pins σ H s' → EP X pins σ Q (.str x.shown u) s' := fun u s' J => ⟨.str x.shown, H, J, ⟨u, rfl⟩, q _ _ (mkStr _)⟩
    have big : ∀ a as, Reads s.heap (.ref a) x as → sysModules ∉ as → w = .ref a → wpAny (model X.prog X.w) X.A (call (.builtin "repr") [w]) (EP X pins σ Q) X.xe s := by
      rintro a as rd hn rfl
      exact repr_of_reads' rd h1 (fun _ => hn) k.guards (by have := k.units; omega) (fun _ _ e => e) (fun h' u tk hk => fin u _ (I.kept (t' := tk) hk)) h3
    cases u with
    | d y =>
      cases e1
      cases r with
      | d r =>
        obtain ⟨as, rd, hn⟩ := Rp.reads I hs x v w (by rw [k.K, k.w]; exact r) r1
        cases r with
        | non => cases (show w = Value.none from r1); exact P.repr_of_none (fin _ _ (I.tok _))
        | bl b => cases (show w = Value.bool b from r1); exact P.repr_of_bool (fin _ _ (I.tok _))
        | int i =>
          obtain ⟨t, rfl⟩ := r1
          exact P.repr_of_int (by simpa [PyData.showable] using h1) (fin _ _ (I.tok _))
        | str z =>
          obtain ⟨t, rfl⟩ := r1
          exact P.repr_of_str (fin _ _ (I.tok _)) h3
        | lst => cases (show w = .ref _ from r1); exact big _ as rd hn rfl
        | tup => cases (show w = .ref _ from r1); exact big _ as rd hn rfl
        | dct => cases (show w = .ref _ from r1); exact big _ as rd hn rfl
        | dctT => cases (show w = .ref _ from r1); exact big _ as rd hn rfl
    | cell n =>
      have e' : (match st[n]? with | some (.lst us) => (trees us).map PyData.list | _ => none) = some x := e1
      split at e'
      · rename_i ws q1
        rw [Option.map_eq_some_iff] at e'
        obtain ⟨xs, e3, rfl⟩ := e'
        obtain ⟨a, vs, rfl, _, h5, h6⟩ := cell_lst c q1 r
        cases (show w = .ref a from r1)
        obtain ⟨its, rv, ⟨o, m, ho, hc, _, hd⟩, _⟩ := I.list (SqL.of h5)
        obtain ⟨as, hr, hn⟩ := RpAll.reads I hs xs _ its (by rw [k.K, k.w]; exact h6.trees e3) rv
        exact big a _ (Reads.list ho hc hd (by simpa using hr)) (by simp only [List.mem_cons, not_or]; exact ⟨(not_sys I hs ho hd).symm, hn⟩) rfl
      · cases e'
    | fn f => cases e1
    | exc f => cases e1

theorem signs_rel (z : Str) : ∀ (l : List Nat) (us : List Value), us.length = l.length → (∀ (i : Nat) (c : Nat), l[i]? = some c → ∃ t, us[i]? = some (Value.str ⟨#[c]⟩ t)) → Vals (l.map fun c => V.str ⟨#[c]⟩) us
  | [], us, h, _ => by
    have : us = [] := List.eq_nil_of_length_eq_zero h
    subst this; exact .nil
  | c :: l, us, h, hi => by
    cases us with
    | nil => cases h
    | cons u us =>
      obtain ⟨t, e⟩ := hi 0 c rfl
      cases (Option.some.inj (show some u = some _ from e))
      exact .cons ⟨t, rfl⟩ (signs_rel z l us (by simpa using h) fun i c e => hi (i + 1) c (by simpa using e))
theorem p_list (k : Okc X C W) : CallR X (.type "list") (rPrim C base .list) := by
  intro pins s σ H vs us Q I rv h
  obtain ⟨A, τ, σ', st, as, mk, c, ra, e, q⟩ := h
  have seq : ∀ {u : U} {v : V} {ws : List U}, as = [u] → RpU C A H v u → vs = [v] → lstOf st u = some ws → mk = .lst ws → wpAny (model X.prog X.w) X.A (call (.type "list") us) (EP X pins σ Q) X.xe s := by
    rintro u v ws rfl r rfl e1 rfl
    obtain ⟨a, xs, rfl, s1, r1⟩ := lst_run c e1 r
    rw [← k.K] at s1
    exact call_list_of pins s σ H _ us Q I rv ⟨a, xs, rfl, .inl s1, fun l hl => q _ _ (.lst hl r1)⟩
  match as, ra, e with
  | [u], ra, e =>
    obtain ⟨v, rfl, r⟩ := us1 ra
    have e0 : listP st u = some mk := e
    unfold listP at e0
    split at e0
    · rename_i z
      obtain ⟨hz, rfl⟩ := chk_run e0
      have hz2 : z.cps.size ≤ sizeLine := hz
      rw [rstr r] at rv
      obtain ⟨w, rfl, t, rfl⟩ := vals1 rv
      refine call_list_str (I.ok.hd k.calm) z t (fun h' tk acc' c' hk hn hi => ?_) hz
      have hl : acc'.toList.length = z.cps.toList.length := by simpa using hi.1
      have hs : Vals ((z.cps.toList).map fun c => V.str ⟨#[c]⟩) acc'.toList := by
        refine signs_rel z _ _ hl fun i c e => ?_
        have h1 : i < acc'.size := by
          have := (List.getElem?_eq_some_iff.mp e).1
          rw [← hl] at this
          simpa using this
        obtain ⟨c', t', h2, h3⟩ := hi.2 i acc'[i] (by simp [h1])
        have e2 : z.cps[i]? = some c := by simpa using e
        rw [h2] at e2; cases e2
        refine ⟨t', ?_⟩
        rw [← h3]
        simp [h1]
      refine ⟨.ref s.heap.objs.size, _, I.laid (t' := tk) hk (Nat.le_refl _) (show ObjOk X.prog X.w _ _ _ (.lst ((z.cps.toList).map fun c => V.str ⟨#[c]⟩)) from ⟨by simpa using hz2, acc'.toList, c', hs, by simpa using hn⟩), rfl, q _ _ (.lst I.fresh ?_)⟩
      unfold signs ofD
      rw [List.map_map]
      generalize z.cps.toList = l
      induction l with
      | nil => exact .nil
      | cons a l ih => exact .cons (.d (.str _)) ih
    · rename_i xs
      cases e0
      obtain ⟨a, ws, rfl, s1, r1⟩ := rtup r
      rw [← k.K] at s1
      exact call_list_of pins s σ H _ us Q I rv ⟨a, ws, rfl, .inr s1, fun l hl => q _ _ (.lst hl (RpUs.ofD r1))⟩
    · rw [Option.map_eq_some_iff] at e0
      obtain ⟨ws, e1, e2⟩ := e0
      exact seq rfl r rfl e1 e2.symm
theorem p_tuple (k : Okc X C W) : CallR X (.type "tuple") (rPrim C base .tuple) := by
  intro pins s σ H vs us Q I rv h
  obtain ⟨A, τ, σ', st, as, mk, c, ra, e, q⟩ := h
  have seq : ∀ {u : U} {v : V} {ws : List U} {y : U}, as = [u] → RpU C A H v u → vs = [v] → lstOf st u = some ws → tupOf ws = some y → mk = .u y → wpAny (model X.prog X.w) X.A (call (.type "tuple") us) (EP X pins σ Q) X.xe s := by
    rintro u v ws y rfl r rfl e1 e2 rfl
    obtain ⟨a, xs, rfl, s1, r1⟩ := lst_run c e1 r
    rw [← k.K] at s1
    unfold tupOf at e2
    split at e2
    · rw [Option.map_eq_some_iff] at e2
      obtain ⟨zs, e3, rfl⟩ := e2
      refine call_tuple_of pins s σ H _ us Q I rv ⟨a, xs, rfl, .inl ⟨s1, fun l hl => q _ _ (.new hl (.d (.tup upd_same ?_)))⟩⟩
      exact RpAll.mono (Gr.lay (A := A) hl).fz (r1.trees e3)
    · cases e2
  match as, ra, e with
  | [u], ra, e =>
    obtain ⟨v, rfl, r⟩ := us1 ra
    have e0 : tupleP st u = some mk := e
    unfold tupleP at e0
    split at e0
    · rename_i xs
      cases e0
      have r0 := r
      obtain ⟨a, ws, rfl, s1, r1⟩ := rtup r
      rw [← k.K] at s1
      exact call_tuple_of pins s σ H _ us Q I rv ⟨a, ws, rfl, .inr ⟨s1, q _ _ (.u r0)⟩⟩
    · rw [Option.bind_eq_some_iff] at e0
      obtain ⟨ws, e1, e2⟩ := e0
      rw [Option.map_eq_some_iff] at e2
      obtain ⟨y, e3, e4⟩ := e2
      exact seq rfl r rfl e1 e3 e4.symm
/-! ### sorted -/
theorem insD_perm (x : PyData) : ∀ l : List PyData, (insD x l).Perm (x :: l)
  | [] => .refl _
  | y :: r => by
    unfold insD
    split
    · exact .refl _
    · exact (List.Perm.cons y (insD_perm x r)).trans (List.Perm.swap x y r)
theorem srtD_perm : ∀ l : List PyData, (srtD l).Perm l
  | [] => .refl _
  | x :: r => (insD_perm x (srtD r)).trans (List.Perm.cons x (srtD_perm r))
/-- a good order -/
structure LeOk (P : PyData → Prop) : Prop where
  tot : ∀ x y, P x → P y → leD x y = true ∨ leD y x = true
  tr : ∀ x y z, P x → P y → P z → leD x y = true → leD y z = true → leD x z = true
  anti : ∀ x y, P x → P y → leD x y = true → leD y x = true → x = y
theorem insD_sorted {P : PyData → Prop} (O : LeOk P) {x : PyData} (hx : P x) : ∀ {l : List PyData}, (∀ y ∈ l, P y) → l.Pairwise (fun a b => leD a b = true) → (insD x l).Pairwise (fun a b => leD a b = true)
  | [], _, _ => by simp [insD]
  | y :: r, hP, hs => by
    have hy := hP y (by simp)
    have hr : ∀ z ∈ r, P z := fun z hz => hP z (List.mem_cons_of_mem _ hz)
    obtain ⟨h1, h2⟩ := List.pairwise_cons.mp hs
    unfold insD
    by_cases h : leD x y = true
    · rw [if_pos h]
      refine List.pairwise_cons.mpr ⟨fun z hz => ?_, hs⟩
      rcases List.mem_cons.mp hz with e | e
      · rw [e]; exact h
      · exact O.tr x y z hx hy (hr z e) h (h1 z e)
    · rw [if_neg h]
      have h' : leD y x = true := (O.tot x y hx hy).resolve_left h
      refine List.pairwise_cons.mpr ⟨fun z hz => ?_, insD_sorted O hx hr h2⟩
      rcases List.mem_cons.mp ((insD_perm x r).mem_iff.mp hz) with e | e
      · rw [e]; exact h'
      · exact h1 z e
theorem srtD_sorted {P : PyData → Prop} (O : LeOk P) : ∀ {l : List PyData}, (∀ y ∈ l, P y) → (srtD l).Pairwise (fun a b => leD a b = true)
  | [], _ => List.Pairwise.nil
  | x :: r, h => insD_sorted O (h x (by simp)) (fun y hy => h y (List.mem_cons_of_mem _ ((srtD_perm r).mem_iff.mp hy))) (srtD_sorted O fun y hy => h y (List.mem_cons_of_mem _ hy))
theorem sorted_eq {P : PyData → Prop} (O : LeOk P) : ∀ {l m : List PyData}, (∀ y ∈ l, P y) → l.Perm m → l.Pairwise (fun a b => leD a b = true) → m.Pairwise (fun a b => leD a b = true) → l = m
  | [], m, _, hp, _, _ => (List.Perm.nil_eq hp)
  | x :: r, [], _, hp, _, _ => absurd hp.length_eq (by simp)
  | x :: r, y :: q, hP, hp, h1, h2 => by
    obtain ⟨a1, a2⟩ := List.pairwise_cons.mp h1
    obtain ⟨b1, b2⟩ := List.pairwise_cons.mp h2
    have hx := hP x (by simp)
    have hy : P y := hP y (hp.mem_iff.mpr (by simp))
    have e : x = y := by
      have m1 : x ∈ y :: q := hp.mem_iff.mp (by simp)
      have m2 : y ∈ x :: r := hp.mem_iff.mpr (by simp)
      rcases List.mem_cons.mp m1 with e | e
      · exact e
      · rcases List.mem_cons.mp m2 with e' | e'
        · exact e'.symm
        · exact O.anti x y hx hy (a1 y e') (b1 x e)
    subst e
    rw [sorted_eq O (fun z hz => hP z (List.mem_cons_of_mem _ hz)) (List.Perm.cons_inv hp) a2 b2]
theorem leI : LeOk (fun x => isI x = true) := by
  refine ⟨fun x y hx hy => ?_, fun x y z hx hy hz => ?_, fun x y hx hy => ?_⟩
  · cases x <;> cases y <;> simp [isI] at hx hy
    simp only [leD, decide_eq_true_eq]; omega
  · cases x <;> cases y <;> cases z <;> simp [isI] at hx hy hz
    simp only [leD, decide_eq_true_eq]; omega
  · cases x <;> cases y <;> simp [isI] at hx hy
    simp only [leD, decide_eq_true_eq]
    intro a b
    congr 1
    omega
theorem isP_ex {x : PyData} (h : isP x = true) : ∃ a b, x = .tuple [.int a, .int b] := by
  unfold isP at h
  split at h
  · exact ⟨_, _, rfl⟩
  · cases h
theorem leP_iff {a b c d : Int} : leD (.tuple [.int a, .int b]) (.tuple [.int c, .int d]) = true ↔ a < c ∨ (a = c ∧ b ≤ d) := by
  simp [leD]
theorem leP : LeOk (fun x => isP x = true) := by
  refine ⟨fun x y hx hy => ?_, fun x y z hx hy hz => ?_, fun x y hx hy => ?_⟩
  · obtain ⟨a, b, rfl⟩ := isP_ex hx
    obtain ⟨c, d, rfl⟩ := isP_ex hy
    rw [leP_iff, leP_iff]; omega
  · obtain ⟨a, b, rfl⟩ := isP_ex hx
    obtain ⟨c, d, rfl⟩ := isP_ex hy
    obtain ⟨e, f, rfl⟩ := isP_ex hz
    rw [leP_iff, leP_iff, leP_iff]; omega
  · obtain ⟨a, b, rfl⟩ := isP_ex hx
    obtain ⟨c, d, rfl⟩ := isP_ex hy
    rw [leP_iff, leP_iff]
    intro h1 h2
    have e1 : a = c := by omega
    have e2 : b = d := by omega
    rw [e1, e2]
theorem ints_of {A : List Addr} {H : Hp} : ∀ {xs : List PyData} {vs : List V}, xs.all isI = true → RpAll C.K C.w H vs xs → ∃ ns : List Int, xs = ns.map .int ∧ vs = ns.map V.int
  | [], _, _, r => by cases r; exact ⟨[], rfl, rfl⟩
  | x :: xs, _, h, r => by
    cases r with
    | cons a b =>
      simp only [List.all_cons, Bool.and_eq_true] at h
      obtain ⟨ns, rfl, rfl⟩ := ints_of (A := A) h.2 b
      cases x <;> simp [isI] at h
      rename_i i
      cases a
      exact ⟨i :: ns, rfl, rfl⟩
theorem perm_paired {α β : Type} {F : α → β → Prop} {xs ys : List α} (hp : xs.Perm ys) : ∀ {us : List β}, Paired F xs us → ∃ ws, us.Perm ws ∧ Paired F ys ws := by
  induction hp with
  | nil => intro us h; cases h; exact ⟨[], .refl _, .nil⟩
  | cons x _ ih =>
    intro us h
    cases h with
    | cons a b =>
      obtain ⟨ws, h1, h2⟩ := ih b
      exact ⟨_ :: ws, .cons _ h1, .cons a h2⟩
  | swap x y l =>
    intro us h
    cases h with
    | cons a b =>
      cases b with
      | cons b c => exact ⟨_, .swap _ _ _, .cons b (.cons a c)⟩
  | trans _ _ ih1 ih2 =>
    intro us h
    obtain ⟨ws, h1, h2⟩ := ih1 h
    obtain ⟨zs, h3, h4⟩ := ih2 h2
    exact ⟨zs, h1.trans h3, h4⟩
theorem rpall_paired {H : Hp} : ∀ {vs : List V} {xs : List PyData}, RpAll C.K C.w H vs xs → Paired (Rp C.K C.w H) vs xs := fun h => h.paired
theorem pair_at {H : Hp} {v : V} {x : PyData} (r : Rp C.K C.w H v x) (h : isP x = true) : ∃ t, v = .ref t ∧ H t = some (.tup [.int (keyP H v).1, .int (keyP H v).2]) ∧ x = .tuple [.int (keyP H v).1, .int (keyP H v).2] := by
  obtain ⟨a, b, rfl⟩ := isP_ex h
  cases r with
  | @tup t vs _ r1 r2 =>
    cases r2 with
    | cons q1 q2 =>
      cases q2 with
      | cons q2 q3 =>
        cases q3
        cases q1
        cases q2
        have r1' : H t = some (.tup [.int a, .int b]) := r1
        exact ⟨t, rfl, by rw [keyP_of r1']; exact r1', by rw [keyP_of r1']⟩
theorem p_sorted (k : Okc X C W) : CallR X (.builtin "sorted") (rPrim C base .sorted) := by
  intro pins s σ H vs us Q I rv h
  obtain ⟨A, τ, σ', st, as, mk, c, ra, e, q⟩ := h
  match as, ra, e with
  | [u], ra, e =>
    obtain ⟨v, rfl, r⟩ := us1 ra
    have e0 : ((sortSrc st u).bind fun us => (trees us).bind fun xs => if xs.all isI || xs.all isP then some (Mk.lst (ofD (srtD xs))) else none) = some mk := e
    rw [Option.bind_eq_some_iff] at e0
    obtain ⟨ws, e1, e0⟩ := e0
    rw [Option.bind_eq_some_iff] at e0
    obtain ⟨xs, e2, e0⟩ := e0
    unfold sortSrc at e1
    split at e1
    rotate_left
    · -- a dict
      rw [Option.bind_eq_some_iff] at e1
      obtain ⟨kvs, e3, e1⟩ := e1
      split at e1
      · rename_i hkk
        cases e1
        simp only [Bool.and_eq_true, Bool.or_eq_true, Bool.not_eq_true', List.all_eq_true] at hkk
        obtain ⟨hk1, hk2⟩ := hkk
        obtain ⟨a, t, rfl, d⟩ := dctOf_run c e3 r
        have tr : xs = kvs.map (·.1) := by
          have : trees (kvs.map fun kv => U.d kv.1) = some (kvs.map (·.1)) := by
            have := trees_ofD (kvs.map (·.1))
            rw [ofD, List.map_map] at this
            exact this
          rw [this] at e2
          exact (Option.some.inj e2).symm
        rcases hk2 with hk2 | hk2
        rotate_left
        · -- keys are pairs
          have hxp : ∀ x ∈ xs, isP x = true := fun x hx => by
            rw [tr] at hx
            obtain ⟨kv, h1, rfl⟩ := List.mem_map.mp hx
            exact hk2 kv h1
          cases t with
          | false =>
            obtain ⟨es, _, hkv⟩ := d
            cases hkv with
            | nil => cases hk1
            | @cons e kv es kvs a b =>
              have h1 := hk2 kv (by simp)
              rw [a.1] at h1
              cases hq : e.1 <;> (rw [hq] at h1; cases h1)
          | true =>
            obtain ⟨es, hrd, hkv⟩ := d
            obtain ⟨ps, hps, hes⟩ : ∃ ps : List (Int × Int), kvs.map (·.1) = ps.map (fun p => PyData.tuple [.int p.1, .int p.2]) ∧ es.map (·.1) = ps.map (fun p => [.inl p.1, .inl p.2]) := by
              clear hrd tr e2 e3 hk1 e0 hxp
              induction hkv with
              | nil => exact ⟨[], rfl, rfl⟩
              | @cons e kv es kvs a b ih =>
                obtain ⟨ps, h1, h2⟩ := ih fun x hx => hk2 x (List.mem_cons_of_mem _ hx)
                have h3 := hk2 kv (by simp)
                obtain ⟨i, j, hij⟩ := isP_ex h3
                have h4 : PyData.tuple (e.1.map kvD) = .tuple [.int i, .int j] := a.1.symm.trans hij
                have h5 : e.1 = [.inl i, .inl j] := by
                  obtain ⟨ks, v⟩ := e
                  match ks, h4 with
                  | [.inl x, .inl y], h4 => cases h4; rfl
                  | [.inl x, .inr y], h4 => cases h4
                  | [.inr x, _], h4 => cases h4
                exact ⟨(i, j) :: ps, by rw [List.map_cons, h1, hij]; rfl, by rw [List.map_cons, h2, h5]; rfl⟩
            rw [hps] at tr
            split at e0
            rotate_left
            · cases e0
            cases e0
            refine cr_sortedDctT k.calm pins s σ H _ us Q I rv ⟨a, es, ps, rfl, hrd, hes, fun ys qs p hs hb pq hn => ?_⟩
            have prs : Paired (Rp C.K C.w H) qs xs := by
              rw [tr]
              clear hs hb q hps hes hxp tr e2
              induction pq with
              | nil => exact .nil
              | cons a b ih =>
                obtain ⟨t, rfl, ht⟩ := a
                exact .cons (.tup ht (.cons (.int _) (.cons (.int _) .nil))) ih
            have both : ∀ {ys : List V} {ts : List PyData}, Paired (Rp C.K C.w H) ys ts → (∀ x ∈ ts, isP x = true) → (∀ y ∈ ys, ∃ t, y = V.ref t ∧ H t = some (.tup [.int (keyP H y).1, .int (keyP H y).2])) ∧ ts = ys.map fun y => PyData.tuple [.int (keyP H y).1, .int (keyP H y).2] := by
              intro ys ts h
              induction h with
              | nil => intro _; exact ⟨fun _ h => by simp at h, rfl⟩
              | cons a b ih =>
                intro hP
                obtain ⟨i1, i2⟩ := ih fun x hx => hP x (List.mem_cons_of_mem _ hx)
                obtain ⟨t, h1, h2, h3⟩ := pair_at a (hP _ (by simp))
                refine ⟨fun y hy => ?_, by rw [List.map_cons, ← i2, ← h3]⟩
                rcases List.mem_cons.mp hy with e | e
                · rw [e]; exact ⟨t, h1, h2⟩
                · exact i1 y e
            obtain ⟨ts, tp, pr2⟩ := perm_paired hb.perm.symm prs
            have hp2 : ∀ x ∈ ts, isP x = true := fun x hx => hxp x (tp.mem_iff.mpr hx)
            have e3 : srtD xs = ts := by
              refine sorted_eq leP (fun y hy => hxp y ((srtD_perm _).mem_iff.mp hy)) ((srtD_perm _).trans tp) (srtD_sorted leP hxp) ?_
              rw [(both pr2 hp2).2]
              refine List.pairwise_map.mpr (hs.imp fun {x y} h => ?_)
              rw [leP_iff]
              have := SrtO.lexB_no.mp h
              omega
            rw [e3] at q
            exact q _ _ (.lst hn (.ofD (RpAll.of pr2)))
        obtain ⟨ns, hns⟩ : ∃ ns : List Int, kvs.map (·.1) = ns.map .int := by
          clear e3 d tr e2 hk1 e0
          induction kvs with
          | nil => exact ⟨[], rfl⟩
          | cons kv r ih =>
            obtain ⟨ns, h⟩ := ih fun x hx => hk2 x (List.mem_cons_of_mem _ hx)
            have h1 := hk2 kv (by simp)
            obtain ⟨k0, u0⟩ := kv
            cases k0 <;> first | cases h1 | skip
            rename_i i
            exact ⟨i :: ns, by rw [List.map_cons, h]; rfl⟩
        cases t with
        | true =>
          obtain ⟨es, _, hkv⟩ := d
          cases hkv with
          | nil => cases hk1
          | @cons e kv es kvs a b =>
            have h1 := hk2 kv (by simp)
            rw [a.1] at h1
            cases h1
        | false =>
          obtain ⟨es, hrd, hkv⟩ := d
          have hes : es.map (·.1) = ns.map .inl := by
            have hm : (es.map fun e => kvD e.1) = kvs.map (·.1) := by
              clear hrd hns tr e2 e3 hk1 hk2 e0
              induction hkv with
              | nil => rfl
              | cons a b ih => rw [List.map_cons, List.map_cons, ih, a.1]
            rw [hns] at hm
            clear hrd hns tr e2 e3 hk1 hk2 hkv e0
            induction es generalizing ns with
            | nil => cases ns with
              | nil => rfl
              | cons _ _ => cases hm
            | cons e es ih =>
              cases ns with
              | nil => cases hm
              | cons i ns =>
                rw [List.map_cons, List.map_cons] at hm
                injection hm with h1 h2
                rw [List.map_cons, List.map_cons, ih _ h2]
                obtain ⟨k0, v0⟩ := e
                cases k0 with
                | inl j => cases h1; rfl
                | inr z => cases h1
          split at e0
          · cases e0
            refine cr_sortedDct k.calm pins s σ H _ us Q I rv ⟨a, es, ns, rfl, hrd, hes, fun ns' p hp hs hn => ?_⟩
            have e4 : srtD xs = ns'.map .int := by
              rw [tr, hns]
              refine sorted_eq leI (fun y hy => ?_) ((srtD_perm _).trans (hp.symm.map _)) (srtD_sorted leI fun y hy => ?_) (List.pairwise_map.mpr (hs.imp fun h => by simp only [leD, decide_eq_true_eq]; exact h))
              · obtain ⟨i, _, rfl⟩ := List.mem_map.mp ((srtD_perm _).mem_iff.mp hy); rfl
              · obtain ⟨i, _, rfl⟩ := List.mem_map.mp hy; rfl
            rw [e4] at q
            refine q _ _ (.lst hn (.ofD ?_))
            clear e4 hs hp q
            induction ns' with
            | nil => exact .nil
            | cons i r ih => exact .cons (.int i) ih
          · cases e0
      · cases e1
    rename_i ws' e1'
    cases e1
    have e1 := e1'
    split at e0
    · rename_i hk
      cases e0
      obtain ⟨a, zs, rfl, sq, rz⟩ := lst_run c e1 r
      have rt := rz.trees e2
      rw [← k.K] at sq
      by_cases hi : xs.all isI = true
      · obtain ⟨ns, rfl, rfl⟩ := ints_of (A := A) hi rt
        refine cr_sortedI pins s σ H _ us Q I rv ⟨a, ns, rfl, sq, fun ns' p hp hs hn => ?_⟩
        have e3 : srtD (ns.map .int) = ns'.map .int := by
          refine sorted_eq leI (fun y hy => ?_) ((srtD_perm _).trans (hp.symm.map _)) (srtD_sorted leI fun y hy => ?_) (List.pairwise_map.mpr (hs.imp fun h => by simp only [leD, decide_eq_true_eq]; exact h))
          · obtain ⟨i, _, rfl⟩ := List.mem_map.mp ((srtD_perm _).mem_iff.mp hy); rfl
          · obtain ⟨i, _, rfl⟩ := List.mem_map.mp hy; rfl
        rw [e3] at q
        refine q _ _ (.lst hn (.ofD ?_))
        clear e3 hs hp q
        induction ns' with
        | nil => exact .nil
        | cons i r ih => exact .cons (.int i) ih
      · have hp : ∀ x ∈ xs, isP x = true := by
          have : xs.all isP = true := by
            cases h1 : xs.all isI with
            | true => exact absurd h1 hi
            | false => rw [h1] at hk; simpa using hk
          exact List.all_eq_true.mp this
        have prs := rt.paired
        have both : ∀ {ys : List V} {ts : List PyData}, Paired (Rp C.K C.w H) ys ts → (∀ x ∈ ts, isP x = true) → (∀ y ∈ ys, ∃ t, y = V.ref t ∧ H t = some (.tup [.int (keyP H y).1, .int (keyP H y).2])) ∧ ts = ys.map fun y => PyData.tuple [.int (keyP H y).1, .int (keyP H y).2] := by
          intro ys ts h
          induction h with
          | nil => intro _; exact ⟨fun _ h => by simp at h, rfl⟩
          | cons a b ih =>
            intro hP
            obtain ⟨i1, i2⟩ := ih fun x hx => hP x (List.mem_cons_of_mem _ hx)
            obtain ⟨t, h1, h2, h3⟩ := pair_at a (hP _ (by simp))
            refine ⟨fun y hy => ?_, by rw [List.map_cons, ← i2, ← h3]⟩
            rcases List.mem_cons.mp hy with e | e
            · rw [e]; exact ⟨t, h1, h2⟩
            · exact i1 y e
        refine cr_sortedPO pins s σ H _ us Q I rv ⟨a, zs, keyP H, rfl, sq, (both prs hp).1, fun ys p hs hb hn => ?_⟩
        obtain ⟨ts, tp, pr2⟩ := perm_paired hb.perm.symm prs
        have hp2 : ∀ x ∈ ts, isP x = true := fun x hx => hp x (tp.mem_iff.mpr hx)
        have e3 : srtD xs = ts := by
          refine sorted_eq leP (fun y hy => hp y ((srtD_perm _).mem_iff.mp hy)) ((srtD_perm _).trans tp) (srtD_sorted leP hp) ?_
          rw [(both pr2 hp2).2]
          refine List.pairwise_map.mpr (hs.imp fun {x y} h => ?_)
          rw [leP_iff]
          have := SrtO.lexB_no.mp h
          omega
        rw [e3] at q
        exact q _ _ (.lst hn (.ofD (RpAll.of pr2)))
    · cases e0
/-! ### sum, max, min of lists of numbers -/
theorem intsOf_run {H : Hp} : ∀ {xs : List PyData} {vs : List V} {ns : List Int}, intsOf xs = some ns → RpAll C.K C.w H vs xs → vs = ns.map V.int
  | [], _, _, h, r => by cases r; cases h; rfl
  | .int i :: xs, _, ns, h, r => by
    cases r with
    | cons a b =>
      simp only [intsOf, Option.map_eq_some_iff] at h
      obtain ⟨ms, h1, rfl⟩ := h
      rw [intsOf_run h1 b]
      cases a
      rfl
  | .none :: _, _, _, h, _ => by cases h
  | .bool _ :: _, _, _, h, _ => by cases h
  | .str _ :: _, _, _, h, _ => by cases h
  | .list _ :: _, _, _, h, _ => by cases h
  | .tuple _ :: _, _, _, h, _ => by cases h
  | .dict _ :: _, _, _, h, _ => by cases h
theorem p_sum (k : Okc X C W) : CallR X (.builtin "sum") (rPrim C base .sum) := by
  refine callr_imp (cr_sum k.calm) fun vs H Q h => ?_
  obtain ⟨A, τ, σ', st, as, mk, c, ra, e, q⟩ := h
  match as, ra, e with
  | [u], ra, e =>
    obtain ⟨v, rfl, r⟩ := us1 ra
    have e0 : ((lstOf st u).bind fun us => (trees us).bind fun xs => (intsOf xs).map fun ns => Mk.u (.d (.int ns.sum))) = some mk := e
    rw [Option.bind_eq_some_iff] at e0
    obtain ⟨ws, e1, e0⟩ := e0
    rw [Option.bind_eq_some_iff] at e0
    obtain ⟨xs, e2, e0⟩ := e0
    rw [Option.map_eq_some_iff] at e0
    obtain ⟨ns, e3, rfl⟩ := e0
    obtain ⟨a, zs, rfl, sq, rz⟩ := lst_run c e1 r
    have rt := rz.trees e2
    rw [← k.K] at sq
    rw [intsOf_run e3 rt] at sq
    exact ⟨a, ns, rfl, sq, q _ _ (mkInt _)⟩
theorem p_maxL (k : Okc X C W) : CallR X (.builtin "max") (rPrim C base .maxL) := by
  refine callr_imp (cr_max k.calm) fun vs H Q h => ?_
  obtain ⟨A, τ, σ', st, as, mk, c, ra, e, q⟩ := h
  match as, ra, e with
  | [u], ra, e =>
    obtain ⟨v, rfl, r⟩ := us1 ra
    have e0 : ((lstOf st u).bind fun us => (trees us).bind fun xs => (intsOf xs).bind fun ns => ns.max?.map fun m => Mk.u (.d (.int m))) = some mk := e
    rw [Option.bind_eq_some_iff] at e0
    obtain ⟨ws, e1, e0⟩ := e0
    rw [Option.bind_eq_some_iff] at e0
    obtain ⟨xs, e2, e0⟩ := e0
    rw [Option.bind_eq_some_iff] at e0
    obtain ⟨ns, e3, e0⟩ := e0
    rw [Option.map_eq_some_iff] at e0
    obtain ⟨m, e4, rfl⟩ := e0
    obtain ⟨a, zs, rfl, sq, rz⟩ := lst_run c e1 r
    have rt := rz.trees e2
    rw [← k.K] at sq
    rw [intsOf_run e3 rt] at sq
    obtain ⟨g1, g2⟩ := List.max?_eq_some_iff.mp e4
    refine ⟨a, ns, rfl, sq, List.length_pos_of_mem g1, fun m' h1 h2 => ?_⟩
    have : m' = m := Int.le_antisymm (g2 _ h1) (h2 _ g1)
    rw [this]
    exact q _ _ (mkInt _)
theorem p_minL (k : Okc X C W) : CallR X (.builtin "min") (rPrim C base .minL) := by
  refine callr_imp (cr_min k.calm) fun vs H Q h => ?_
  obtain ⟨A, τ, σ', st, as, mk, c, ra, e, q⟩ := h
  match as, ra, e with
  | [u], ra, e =>
    obtain ⟨v, rfl, r⟩ := us1 ra
    have e0 : ((lstOf st u).bind fun us => (trees us).bind fun xs => (intsOf xs).bind fun ns => ns.min?.map fun m => Mk.u (.d (.int m))) = some mk := e
    rw [Option.bind_eq_some_iff] at e0
    obtain ⟨ws, e1, e0⟩ := e0
    rw [Option.bind_eq_some_iff] at e0
    obtain ⟨xs, e2, e0⟩ := e0
    rw [Option.bind_eq_some_iff] at e0
    obtain ⟨ns, e3, e0⟩ := e0
    rw [Option.map_eq_some_iff] at e0
    obtain ⟨m, e4, rfl⟩ := e0
    obtain ⟨a, zs, rfl, sq, rz⟩ := lst_run c e1 r
    have rt := rz.trees e2
    rw [← k.K] at sq
    rw [intsOf_run e3 rt] at sq
    obtain ⟨g1, g2⟩ := List.min?_eq_some_iff.mp e4
    refine ⟨a, ns, rfl, sq, List.length_pos_of_mem g1, fun m' h1 h2 => ?_⟩
    have : m' = m := Int.le_antisymm (h2 _ g1) (g2 _ h1)
    rw [this]
    exact q _ _ (mkInt _)
end
end Z
/-! Z6: syntax and meaning. -/
namespace Z
open PySem
inductive Tg where
  | v (i : Nat)
  | t (ts : List Tg)
inductive Meth where
  | append | extend | join | popL | sindex | count | lindex | get | sfind | clear
  deriving DecidableEq
mutual
inductive LE where
  | lit (x : PyData)
  | var (i : Nat)
  | gco (k : Nat)
  | gfn (f : Nat)
  | tup (es : LEs)
  | lst (fr : Bool) (es : LEs)
  | rept (fr : Bool) (es : LEs) (k : LE)
  | dct0 (t fr : Bool)
  | dct1 (fr : Bool) (k v : Int)
  | dctE (fr : Bool) (a : LE)
  | dctP (fr : Bool) (a : LE)
  | bop (op : Operator) (fr : Bool) (a b : LE)
  | neg (a : LE)
  | nt (a : LE)
  | bl (op : BoolOp) (es : LEs)
  | cmp (a : LE) (cs : LCs)
  | ife (c a b : LE)
  | idx (a i : LE)
  | slc (fr : Bool) (a lo hi : LE)
  | revs (fr : Bool) (a : LE)
  | frz (a : LE)
  | lock (a : LE)
  | lku (i : Nat) (a : LE)
  | disp (fr : Bool) (es : LEs)
  | dispT (fr : Bool) (es : LEs)
  | deq (neg : Bool) (a b : LE)
  | lval (fr : Bool) (a : LE)
  | kget (k : Nat) (i : LE)
  | abs
  | call (f : Nat) (es : LEs)
  | callv (e : LE) (es : LEs)
  | isE (c : Option Nat) (a : LE)
  | isEs (cs : List Nat) (a : LE)
  | isTs (ts : List Ty) (a : LE)
  | sset (fr : Bool) (a : LE)
  | minK (ky : Ky) (a : LE)
  | lrng (fr : Bool) (es : LEs)
  | pr (p : Prim) (fr : Bool) (es : LEs)
  | me (m : Meth) (fr : Bool) (o : LE) (es : LEs)
  | cp (fr : Bool) (own : List Nat) (elt : LE) (tg : Tg) (it : LI) (cs : LEs)
inductive LEs where
  | nil
  | cons (e : LE) (es : LEs)
inductive LCs where
  | nil
  | cons (op : CmpOp) (e : LE) (cs : LCs)
inductive LI where
  | val (e : LE)
  | rng (es : LEs)
  | enum (e : LE)
  | rev (e : LE)
  | zip (es : LEs)
  | items (e : LE)
end
mutual
inductive LS where
  | pass
  | never
  | cont
  | expr (e : LE)
  | ret (e : LE)
  | retn
  | set (tg : Tg) (e : LE)
  | setl (ts : List Tg) (e : LE)
  | aug (i : Nat) (op : Operator) (e : LE)
  | sub (o i e : LE)
  | ife (c : LE) (a b : LSs)
  | forr (tg : Tg) (it : LI) (body : LSs)
  | whil (c : LE) (body : LSs)
  | raise (c : Nat)
  | tryp (i n : Nat) (body : LSs)
  | lks (i : Nat) (s : LS)
inductive LSs where
  | nil
  | cons (s : LS) (ss : LSs)
end

structure Mach where
  con : Nat → Option PyData
  call : Nat → List U → Store → Res U
  fuel : Nat
def U.below (base : Nat) : U → Bool
  | .cell n => decide (n < base)
  | _ => true
/-- may u be put into the cell n -/
def okIn (base n : Nat) (u : U) : Prop := n < base → u.below base = true
instance (base n : Nat) (u : U) : Decidable (okIn base n u) := by unfold okIn; infer_instance
def okIns (base n : Nat) (us : List U) : Prop := n < base → us.all (U.below base) = true
instance (base n : Nat) (us : List U) : Decidable (okIns base n us) := by unfold okIns; infer_instance

def lstAt (st : Store) : U → Option (Nat × List U)
  | .cell n => match st[n]? with
    | some (.lst us) => some (n, us)
    | _ => none
  | _ => none
def joinU (st : Store) (o u : U) : Option U := match o with
  | .d (.str s) => (lstOf st u).bind fun us => (trees us).bind fun xs => (strsOf xs).bind fun zs =>
      chk ((zs.map (·.length)).sum + zs.length * s.length ≤ 16777216) (.d (.str (Txt.join s zs)))
  | _ => none
def sindexU (o u : U) : Option U := match o, u with
  | .d (.str a), .d (.str b) => match Builtin.Str.occurrences a b 0 a.length 1 with
    | i :: _ => some (.d (.int (i : Int)))
    | [] => none
  | _, _ => none
def sfindU (o u : U) : Option U := match o, u with
  | .d (.str a), .d (.str b) => some (.d (.int (Txt.find a b)))
  | _, _ => none
/-- flat values alone are counted, or looked for -/
def flatD : PyData → Bool
  | .none => true
  | .bool _ => true
  | .int _ => true
  | .str _ => true
  | _ => false
def eqF : PyData → PyData → Bool
  | .none, .none => true
  | .bool a, .bool b => a == b
  | .bool a, .int b => (if a then 1 else 0) == b
  | .int a, .bool b => a == (if b then 1 else 0)
  | .int a, .int b => a == b
  | .str a, .str b => a == b
  | _, _ => false
def flatAll (st : Store) (o u : U) : Option (List PyData × PyData) := (lstOf st o).bind fun us => (trees us).bind fun xs => (U.tree u).bind fun y => chk (xs.all flatD = true ∧ flatD y = true) (xs, y)
def countU (st : Store) (o u : U) : Option U := (flatAll st o u).map fun p => .d (.int ((p.1.countP fun z => eqF z p.2 : Nat) : Int))
def lindexU (st : Store) (o u : U) : Option U := (flatAll st o u).bind fun p => (p.1.findIdx? fun z => eqF z p.2).map fun j => .d (.int ((j : Nat) : Int))
/-- d.get(y, x) -/
def getU (st : Store) (o u d : U) : Option U := (U.tree u).bind fun y => (dctGet st y o).map fun r => r.getD d
def dctAt (st : Store) : U → Option (Nat × Bool × List (PyData × U))
  | .cell n => match st[n]? with
    | some (.dct t kvs) => some (n, t, kvs)
    | _ => none
  | _ => none
def meth (base : Nat) (m : Meth) (st : Store) (o : U) (us : List U) : Option (Mk × Store) :=
  match m, us with
  | .append, [u] => (lstAt st o).bind fun p => chk (p.2.length < sizeLine ∧ okIn base p.1 u) (.u (.d .none), st.set p.1 (.lst (p.2 ++ [u])))
  | .extend, [u] => (lstAt st o).bind fun p => (lstOf st u).bind fun ws => chk (p.2.length + ws.length ≤ sizeLine ∧ okIns base p.1 ws) (.u (.d .none), st.set p.1 (.lst (p.2 ++ ws)))
  | .popL, [] => (lstAt st o).bind fun p => p.2[p.2.length - 1]?.map fun u => (.u u, st.set p.1 (.lst p.2.dropLast))
  | .join, [u] => (joinU st o u).map fun x => (.u x, st)
  | .sindex, [u] => (sindexU o u).map fun x => (.u x, st)
  | .sfind, [u] => (sfindU o u).map fun x => (.u x, st)
  | .count, [u] => (countU st o u).map fun x => (.u x, st)
  | .lindex, [u] => (lindexU st o u).map fun x => (.u x, st)
  | .get, [u, d] => (getU st o u d).map fun x => (.u x, st)
  | .get, [u] => (getU st o u (.d .none)).map fun x => (.u x, st)
  | .clear, [] => (dctAt st o).map fun p => (.u (.d .none), st.set p.1 (.dct p.2.1 []))
  | _, _ => none
def dctAtN (st : Store) : U → Option Nat
  | .cell n => match st[n]? with
    | some (.dct _ _) => some n
    | _ => none
  | _ => none
/-- what the receiver has to be -/
def mty (m : Meth) (st : Store) (o : U) : Option Unit :=
  match m with
  | .join => match o with
    | .d (.str _) => some ()
    | _ => none
  | .sindex => match o with
    | .d (.str _) => some ()
    | _ => none
  | .sfind => match o with
    | .d (.str _) => some ()
    | _ => none
  | .get => (dctAtN st o).map fun _ => ()
  | .clear => (dctAtN st o).map fun _ => ()
  | _ => (lstOf st o).map fun _ => ()
/-! dicts -/
def putAt (base : Nat) (st : Store) (o i u : U) : Option Store := (dctAt st o).bind fun p => (U.tree i).bind fun y => match p.2.1 with
  | true => (unT y).bind fun k => chk (p.2.2.length < sizeLine ∧ okIn base p.1 u) (st.set p.1 (.dct true (putD unT y k u p.2.2)))
  | false => (unK y).bind fun k => chk (p.2.2.length < sizeLine ∧ okIn base p.1 u) (st.set p.1 (.dct false (putD unK y k u p.2.2)))
/-- o[i] = u -/
def setAt (base : Nat) (st : Store) (o i u : U) : Option Store :=
  if (dctAt st o).isSome = true then putAt base st o i u else
  match i with
  | .d (.int k) => (lstAt st o).bind fun p => (L2.ixN p.2.length k).bind fun j => chk (okIn base p.1 u) (st.set p.1 (.lst (p.2.set j u)))
  | _ => none

/-! what a loop walks: the items, and the cell that has to stay as it is -/
structure Src where
  at_ : List (Nat × List U)
  us : List U
def Src.Keep (s : Src) (st : Store) : Prop := ∀ p ∈ s.at_, st[p.1]? = some (.lst p.2)
def rangeOf (lo : Int) (n : Nat) : List U := (List.range n).map fun (i : Nat) => U.d (.int (lo + (i : Int)))
def srcLst (st : Store) : U → Option Src
  | .d (.list xs) => some ⟨[], ofD xs⟩
  | .cell n => match st[n]? with
    | some (.lst us) => some ⟨[(n, us)], us⟩
    | _ => none
  | _ => none
/-- the entries of a dict that is changed no more -/
def fzOf (st : Store) : U → Option (List (PyData × U))
  | .d (.dict kvs) => some (kvs.map fun kv => (kv.1, U.d kv.2))
  | .cell n => match st[n]? with
    | some (.fdct _ kvs) => some kvs
    | _ => none
  | _ => none
def srcVal (st : Store) : U → Option Src
  | .d (.tuple xs) => some ⟨[], ofD xs⟩
  | .d (.str z) => some ⟨[], ofD (signs z)⟩
  | u => match srcLst st u with
    | some s => some s
    | none => (fzOf st u).map fun kvs => ⟨[], kvs.map fun kv => U.d kv.1⟩
def srcItems (st : Store) (u : U) : Option Src := (fzOf st u).bind fun kvs => (treesKv kvs).map fun xs => ⟨[], xs.map fun kv => U.d (.tuple [kv.1, kv.2])⟩
def rangeBy (lo c : Int) (n : Nat) : List U := (List.range n).map fun (i : Nat) => U.d (.int (lo + (i : Int) * c))
def rOk1 (j : Int) : Prop := -(2 ^ 62) ≤ j ∧ j < 2 ^ 62
instance (j : Int) : Decidable (rOk1 j) := by unfold rOk1; infer_instance
def rOk2 (i j : Int) : Prop := -(2 ^ 62) ≤ i ∧ i < 2 ^ 62 ∧ -(2 ^ 62) ≤ j ∧ j < 2 ^ 62
instance (i j : Int) : Decidable (rOk2 i j) := by unfold rOk2; infer_instance
def rOk3 (i j c : Int) : Prop := c ≠ 0 ∧ c.natAbs < 1073741824 ∧ Builtin.Range.small i j c = true ∧ 0 ≤ Builtin.Range.rangeSize i j c
instance (i j c : Int) : Decidable (rOk3 i j c) := by unfold rOk3; infer_instance
def srcRng (n : Nat) (us : List U) : Option Src := match n, us with
  | 1, [.d (.int j)] => chk (rOk1 j) ⟨[], rangeOf 0 j.toNat⟩
  | 2, [.d (.int i), .d (.int j)] => chk (rOk2 i j) ⟨[], rangeOf i (j - i).toNat⟩
  | 3, [.d (.int i), .d (.int j), .d (.int c)] => chk (rOk3 i j c) ⟨[], rangeBy i c (Builtin.Range.rangeSize i j c).toNat⟩
  | _, _ => none
def rgOk (a b : Int) : Prop := -(2 ^ 62) ≤ a ∧ a < 2 ^ 62 ∧ -(2 ^ 62) ≤ b ∧ b < 2 ^ 62 ∧ (b - a).toNat ≤ 16777216
instance (i j : Int) : Decidable (rgOk i j) := by unfold rgOk; infer_instance
def lrngOf : List U → Option Mk
  | [.d (.int j)] => chk (rgOk 0 j) (.lst (rangeOf 0 (j - 0).toNat))
  | [.d (.int i), .d (.int j)] => chk (rgOk i j) (.lst (rangeOf i (j - i).toNat))
  | _ => none
def enumOf (i : Nat) : List PyData → List U
  | [] => []
  | x :: r => .d (.tuple [.int (i : Int), x]) :: enumOf (i + 1) r
def srcEnum (st : Store) (u : U) : Option Src := (srcLst st u).bind fun s => (trees s.us).map fun xs => ⟨s.at_, enumOf 0 xs⟩
def srcRev (st : Store) (u : U) : Option Src := (srcLst st u).map fun s => ⟨s.at_, s.us.reverse⟩
def zipOf : List PyData → List PyData → List U
  | x :: r, y :: q => .d (.tuple [x, y]) :: zipOf r q
  | _, _ => []
def srcZip (st : Store) : List U → Option Src
  | [u, w] => (srcLst st u).bind fun s => (srcLst st w).bind fun t => (trees s.us).bind fun xs => (trees t.us).map fun ys => ⟨s.at_ ++ t.at_, zipOf xs ys⟩
  | _ => none

def Cont.closed (base : Nat) : Cont → Bool
  | .lst us => us.all (U.below base)
  | .dct _ kvs => kvs.all fun kv => kv.2.below base
  | .fdct _ kvs => kvs.all fun kv => kv.2.below base
  | .obj _ fs => fs.all fun kv => kv.2.below base
  | .dead => true
/-- the cells of outer frames hold none of this frame -/
def innerOk (base : Nat) (st st2 : Store) : Prop := ∀ n, n < base → st2[n]? = st[n]? ∨ ∃ c, st2[n]? = some c ∧ c.closed base = true
open Classical in
noncomputable def Res.inner {α : Type} (base : Nat) (st : Store) : Res α → Res α
  | .ok a st2 => if innerOk base st st2 then .ok a st2 else .bad
  | .exc c st2 => if innerOk base st st2 then .exc c st2 else .bad
  | .bad => .bad
def Res.nox {α : Type} : Res α → Res α
  | .exc _ _ => .bad
  | r => r
@[simp] theorem Res.nox_ok {α : Type} (a : α) (st : Store) : (Res.ok a st).nox = .ok a st := rfl
@[simp] theorem Res.nox_bad {α : Type} : (Res.bad : Res α).nox = .bad := rfl
@[simp] theorem Res.nox_exc {α : Type} (c : Nat) (st : Store) : (Res.exc c st : Res α).nox = .bad := rfl

/-! targets -/
mutual
def setT : Tg → U → Vars → Option Vars
  | .v i, u, τ => some (τ.set i (some u))
  | .t ts, .d (.tuple xs), τ => if xs.length = ts.length then setTs ts (ofD xs) τ else none
  | .t _, _, _ => none
def setTs : List Tg → List U → Vars → Option Vars
  | t :: ts, u :: us, τ => (setT t u τ).bind (setTs ts us)
  | [], [], τ => some τ
  | _, _, _ => none
end
/-- a list is unpacked -/
def unlT (st : Store) (u : U) (ts : List Tg) (τ : Vars) : Option Vars := (lstOf st u).bind fun us => if us.length = ts.length then setTs ts us τ else none
def wipeV (τ : Vars) : List Nat → Vars
  | [] => τ
  | i :: r => (wipeV τ r).set i none

open Classical in
noncomputable def compL (src : Src) (step : U → Store → Res (Option U)) : List U → List U → Store → Res (List U)
  | [], acc, st => if src.Keep st then .ok acc st else .bad
  | u :: r, acc, st => if src.Keep st ∧ acc.length < sizeLine then (step u st).nox.bind fun o st1 => compL src step r (acc ++ o.toList) st1 else .bad

/-! a dict that is walked, and unlocked behind -/
def ndU : U → Bool
  | .d x => ndD x
  | _ => true
def ndC : Cont → Bool
  | .lst us => us.all ndU
  | .dct _ kvs => kvs.all fun kv => ndU kv.2
  | .fdct _ kvs => kvs.all fun kv => ndU kv.2
  | .obj _ fs => fs.all fun kv => ndU kv.2
  | .dead => true
def ndS (st : Store) : Bool := st.all ndC
def ndV (τ : Vars) : Bool := τ.all fun o => match o with
  | some u => ndU u
  | none => true
def lkAt (τ : Vars) (st : Store) (i : Nat) : Option (Nat × Bool × List (PyData × U)) := match τ[i]? with
  | some (some u) => dctAt st u
  | _ => none
def unlK (τ : Vars) (n : Nat) (st : Store) : Option Store := if ndV τ && ndS st then (match st[n]? with
  | some (.fdct t kvs) => some (st.set n (.dct t kvs))
  | _ => none) else none
/-- .. where the slots stay as they are -/
def unlS (n : Nat) (st : Store) : Option Store := if ndS st then (match st[n]? with
  | some (.fdct t kvs) => some (st.set n (.dct t kvs))
  | _ => none) else none
noncomputable section
abbrev Md (α : Type) := Vars → Store → Res α
/-- a meaning: as a value, as a test -/
structure Mn where
  val : Md U
  tst : Md Bool
def tstOf (f : Md U) : Md Bool := fun τ st => (f τ st).bind fun u st1 => .opt (truth st1 u) fun b => .ok b st1
def Mn.of (f : Md U) : Mn := ⟨f, tstOf f⟩
def evs : List Mn → Md (List U)
  | [], _, st => .ok [] st
  | m :: ms, τ, st => (m.val τ st).bind fun u st1 => (evs ms τ st1).bind fun us st2 => .ok (u :: us) st2
def evC : List (CmpOp × Mn) → U → Md Bool
  | [], _, _, _ => .bad
  | [(op, m)], u, τ, st => (m.val τ st).bind fun w st1 => .opt (cmpop op st1 u w) fun b => .ok b st1
  | (op, m) :: c :: cs, u, τ, st => (m.val τ st).bind fun w st1 => .opt (cmpop op st1 u w) fun b => if b then evC (c :: cs) w τ st1 else .ok false st1
/-- and, or as values -/
def evB (op : BoolOp) : List Mn → Md U
  | [], _, _ => .bad
  | [m], τ, st => m.val τ st
  | m :: m2 :: ms, τ, st => (m.val τ st).bind fun u st1 => .opt (truth st1 u) fun b => if b = (op == .And) then evB op (m2 :: ms) τ st1 else .ok u st1
def evTs (op : BoolOp) : List Mn → Md Bool
  | [], _, _ => .bad
  | [m], τ, st => m.tst τ st
  | m :: m2 :: ms, τ, st => (m.tst τ st).bind fun b st1 => if b = (op == .And) then evTs op (m2 :: ms) τ st1 else .ok b st1
/-- tests of a comprehension: none, one -/
def evA : List Mn → Md Bool
  | [], _, st => .ok true st
  | [m], τ, st => m.tst τ st
  | _ :: _ :: _, _, _ => .bad
def isAbs : LE → Bool
  | .abs => true
  | _ => false
def evO (a : Bool) (f : Md U) : Md (Option Int) := fun τ st => if a then .ok none st else (f τ st).bind fun u st1 => match u with
    | .d (.int i) => .ok (some i) st1
    | _ => .bad
def negU (u : U) (st : Store) : Res U := match u with
  | .d (.int i) => .ok (.d (.int (-i))) st
  | _ => .bad
def reptU (fr : Bool) (us : List U) (u : U) (st : Store) : Res U := match u with
  | .d (.int i) => .opt (chk (0 ≤ i ∧ i ≤ 1000) ()) fun _ => fin fr st (.lst (rep i us))
  | _ => .bad
/-- each item by its place -/
def enumK (i : Nat) : List U → List (PyData × U)
  | [] => []
  | u :: r => (.int (i : Int), u) :: enumK (i + 1) r
/-- exceptions: class 0 is the base of all -/
def subE (c d : Nat) : Bool := c == d || d == 0
def isEU (c : Option Nat) (u : U) (st : Store) : Res U := match u with
  | .exc k => .ok (.d (.bool (match c with
    | none => true
    | some d => subE k d))) st
  | _ => .bad
def isEsU (cs : List Nat) (u : U) (st : Store) : Res U := match u with
  | .exc k => .ok (.d (.bool (cs.any (subE k)))) st
  | _ => .bad
def isTsU (ts : List Ty) (u : U) (st : Store) : Res U := .opt (isTy st .int u) fun _ => .ok (.d (.bool (ts.any fun t => isTy st t u == some true))) st
/-- sorted(set(..)) -/
def insU (x : Int) : List Int → List Int
  | [] => [x]
  | y :: r => if x < y then x :: y :: r else if x = y then y :: r else y :: insU x r
def ssetL (ns : List Int) : List Int := ns.foldr insU []
def ssetOf (st : Store) (u : U) : Option Mk := (lstOf st u).bind fun us => (trees us).bind fun xs => (intsOf xs).bind fun ns => chk (ns.length ≤ 4000) (Mk.lst (ofD ((ssetL ns).map .int)))
/-- a def by its value -/
def fnU (f : Nat → Store → Res U) (u : U) (st : Store) : Res U := match u with
  | .fn n => f n st
  | _ => .bad
/-- an entry of a dict of the module -/
def lookS (kvs : List (PyData × PyData)) (s : Str) : Option PyData := (kvs.find? fun kv => match kv.1 with
  | .str z => z == s
  | _ => false).map (·.2)
def kgetU (d : Option PyData) (u : U) : Option PyData := match d, u with
  | some (.dict kvs), .d (.str s) => lookS kvs s
  | _, _ => none
/-- a cell is changed no more -/
def frzU (u : U) (st : Store) : Res U := match u with
  | .cell n => match st[n]? with
    | some (.lst us) => .opt (trees us) fun xs => .ok (.d (.list xs)) (st.set n .dead)
    | some (.dct _ kvs) => .opt (treesKv kvs) fun xs => .ok (.d (.dict xs)) (st.set n .dead)
    | some (.fdct _ kvs) => .opt (treesKv kvs) fun xs => .ok (.d (.dict xs)) st
    | _ => .bad
  | u => .ok u st
/-- a dict is changed no more, and walked -/
def lockU (u : U) (st : Store) : Res U := match u with
  | .cell n => match st[n]? with
    | some (.dct t kvs) => .ok u (st.set n (.fdct t kvs))
    | some (.fdct _ _) => .ok u st
    | some (.lst _) => .ok u st
    | _ => .bad
  | u => .ok u st
/-- dict(pairs): keys are tuples -/
def keyD : L2.Key → PyData
  | .inl i => .int i
  | .inr s => .str s
def pairsT : List PyData → Option (List (List L2.Key × PyData))
  | [] => some []
  | .tuple [k, x] :: r => (unT k).bind fun q => (pairsT r).map ((q, x) :: ·)
  | _ => none
def dctPOf (st : Store) (u : U) : Option Mk := (lstOf st u).bind fun us => (trees us).bind fun xs => (pairsT xs).bind fun ps => chk ((ps.map (·.1)).Nodup ∧ ps.length ≤ 100000) (Mk.dct true (ps.map fun p => (.tuple (p.1.map keyD), .d p.2)))
/-- a display of a dict, its keys numbers and texts -/
def pairsU : List U → Option (List (PyData × U))
  | [] => some []
  | .d k :: u :: r => (pairsU r).map ((k, u) :: ·)
  | _ => none
def putK2 (acc : List (PyData × U)) (kv : PyData × U) : List (PyData × U) := match unK kv.1 with
  | some k => putD unK kv.1 k kv.2 acc
  | none => acc
def dispOf (us : List U) : Option Mk := (pairsU us).bind fun ps => chk (ps ≠ [] ∧ ps.length ≤ 15 ∧ ps.all (fun kv => (unK kv.1).isSome) = true) (Mk.dct false (ps.foldl putK2 []))
/-- .. its keys tuples of these -/
def putT2 (acc : List (PyData × U)) (kv : PyData × U) : List (PyData × U) := match unT kv.1 with
  | some k => putD unT kv.1 k kv.2 acc
  | none => acc
def dispTOf (us : List U) : Option Mk := (pairsU us).bind fun ps => chk (ps ≠ [] ∧ ps.length ≤ 15 ∧ ps.all (fun kv => (unT kv.1).isSome) = true) (Mk.dct true (ps.foldl putT2 []))
def deqU (neg : Bool) (a b : Mn) : Md Bool := fun τ st => (a.val τ st).bind fun u st1 => (b.val τ st1).bind fun w st2 => .opt (eqDct st2 u w) fun t => .ok (if neg then !t else t) st2
def varU (i : Nat) : Md U := fun τ st => match τ[i]? with
  | some (some u) => .ok u st
  | _ => .bad
def cmpU2 (a : Mn) (cs : List (CmpOp × Mn)) : Md Bool := fun τ st => (a.val τ st).bind fun u st1 => evC cs u τ st1
def compU (fr : Bool) (own : List Nat) (elt : Mn) (tg : Tg) (it : Md Src) (cs : List Mn) : Md U := fun τ st => (it τ st).bind fun src st1 =>
  (compL src (fun u st2 => .opt (setT tg u (wipeV τ own)) fun τ1 => (evA cs τ1 st2).bind fun b st3 =>
    if b then (elt.val τ1 st3).bind fun x st4 => .ok (some x) st4 else .ok none st3) src.us [] st1).bind fun us st5 => fin fr st5 (.lst us)
section
variable (M : Mach) (base : Nat)
mutual
def mn : LE → Mn
  | .lit x => .of fun _ st => .ok (.d x) st
  | .var i => .of (varU i)
  | .gco k => .of fun _ st => .opt (M.con k) fun x => .ok (.d x) st
  | .gfn f => .of fun _ st => .ok (.fn f) st
  | .tup es => .of fun τ st => (evs (mns es) τ st).bind fun us st1 => .opt (tupOf us) fun u => .ok u st1
  | .lst fr es => .of fun τ st => (evs (mns es) τ st).bind fun us st1 => fin fr st1 (.lst us)
  | .dct0 t fr => .of fun _ st => fin fr st (.dct t [])
  | .dct1 fr k v => .of fun _ st => fin fr st (.dct false [(.int k, .d (.int v))])
  | .dctE fr a => .of fun τ st => ((mn a).val τ st).bind fun u st1 => .opt ((lstOf st1 u).map fun us => Mk.dct false (enumK 0 us)) fun mk => fin fr st1 mk
  | .dctP fr a => .of fun τ st => ((mn a).val τ st).bind fun u st1 => .opt (dctPOf st1 u) fun mk => fin fr st1 mk
  | .rept fr es k => .of fun τ st => (evs (mns es) τ st).bind fun us st1 => .opt (chk (us.length ≤ 64) ()) fun _ => ((mn k).val τ st1).bind fun u st2 => reptU fr us u st2
  | .bop op fr a b => .of fun τ st => ((mn a).val τ st).bind fun u st1 => ((mn b).val τ st1).bind fun w st2 => .opt (binop op st2 u w) fun mk => fin fr st2 mk
  | .neg a => .of fun τ st => ((mn a).val τ st).bind negU
  | .nt a => ⟨fun τ st => ((mn a).val τ st).bind fun u st1 => .opt (truth st1 u) fun b => .ok (.d (.bool !b)) st1, fun τ st => ((mn a).tst τ st).bind fun b st1 => .ok (!b) st1⟩
  | .bl op es => ⟨evB op (mns es), evTs op (mns es)⟩
  | .cmp a cs => ⟨fun τ st => (cmpU2 (mn a) (mcs cs) τ st).bind fun b st2 => .ok (.d (.bool b)) st2, cmpU2 (mn a) (mcs cs)⟩
  | .ife c a b => ⟨fun τ st => ((mn c).tst τ st).bind fun t st1 => if t then (mn a).val τ st1 else (mn b).val τ st1, fun τ st => ((mn c).tst τ st).bind fun t st1 => if t then (mn a).tst τ st1 else (mn b).tst τ st1⟩
  | .idx a i => .of fun τ st => ((mn a).val τ st).bind fun u st1 => ((mn i).val τ st1).bind fun w st2 => .opt (itemOf st2 u w) fun x => .ok x st2
  | .slc fr a lo hi => .of fun τ st => ((mn a).val τ st).bind fun u st1 => (evO (isAbs lo) (mn lo).val τ st1).bind fun l st2 => (evO (isAbs hi) (mn hi).val τ st2).bind fun h st3 => .opt (sliceOf st3 u l h) fun mk => fin fr st3 mk
  | .abs => .of fun _ _ => .bad
  | .kget k i => .of fun τ st => ((mn i).val τ st).bind fun u st1 => .opt (kgetU (M.con k) u) fun x => .ok (.d x) st1
  | .frz a => .of fun τ st => ((mn a).val τ st).bind frzU
  | .lock a => .of fun τ st => ((mn a).val τ st).bind lockU
  | .lku i a => .of fun τ st => .opt (lkAt τ st i) fun p => ((mn a).val τ (st.set p.1 (.fdct p.2.1 p.2.2))).nox.bind fun u st1 => if ndU u then .opt (unlS p.1 st1) fun st2 => .ok u st2 else .bad
  | .disp fr es => .of fun τ st => (evs (mns es) τ st).bind fun us st1 => .opt (dispOf us) fun mk => fin fr st1 mk
  | .dispT fr es => .of fun τ st => (evs (mns es) τ st).bind fun us st1 => .opt (dispTOf us) fun mk => fin fr st1 mk
  | .deq neg a b => ⟨fun τ st => (deqU neg (mn a) (mn b) τ st).bind fun t st1 => .ok (.d (.bool t)) st1, deqU neg (mn a) (mn b)⟩
  | .lval fr a => .of fun τ st => ((mn a).val τ st).bind fun u st1 => .opt ((dctT st1 u).map fun kvs => Mk.lst (kvs.map (·.2))) fun mk => fin fr st1 mk
  | .revs fr a => .of fun τ st => ((mn a).val τ st).bind fun u st1 => .opt (revOf st1 u) fun mk => fin fr st1 mk
  | .call f es => .of fun τ st => (evs (mns es) τ st).bind fun us st1 => (M.call f us st1).inner base st1
  | .callv e es => .of fun τ st => ((mn e).val τ st).bind (fnU fun f st1 => (evs (mns es) τ st1).bind fun us st2 => (M.call f us st2).inner base st2)
  | .isE c a => .of fun τ st => ((mn a).val τ st).bind (isEU c)
  | .isEs cs a => .of fun τ st => ((mn a).val τ st).bind (isEsU cs)
  | .isTs ts a => .of fun τ st => ((mn a).val τ st).bind (isTsU ts)
  | .sset fr a => .of fun τ st => ((mn a).val τ st).bind fun u st1 => .opt (ssetOf st1 u) fun mk => fin fr st1 mk
  | .minK ky a => .of fun τ st => ((mn a).val τ st).bind fun u st1 => .opt (minU st1 ky u) fun x => .ok (.d x) st1
  | .lrng fr es => .of fun τ st => (evs (mns es) τ st).bind fun us st1 => .opt (lrngOf us) fun mk => fin fr st1 mk
  | .pr p fr es => .of fun τ st => (evs (mns es) τ st).bind fun us st1 => .opt (prim p st1 us) fun mk => fin fr st1 mk
  | .me m fr o es => .of fun τ st => ((mn o).val τ st).bind fun u st1 => .opt (mty m st1 u) fun _ => (evs (mns es) τ st1).bind fun us st2 => .opt (meth base m st2 u us) fun p => fin fr p.2 p.1
  | .cp fr own elt tg it cs => .of (compU fr own (mn elt) tg (mi it) (mns cs))
def mns : LEs → List Mn
  | .nil => []
  | .cons e es => mn e :: mns es
def mcs : LCs → List (CmpOp × Mn)
  | .nil => []
  | .cons op e cs => (op, mn e) :: mcs cs
def mi : LI → Md Src
  | .val e => fun τ st => ((mn e).val τ st).bind fun u st1 => .opt (srcVal st1 u) fun s => .ok s st1
  | .rng es => fun τ st => (evs (mns es) τ st).bind fun us st1 => .opt (srcRng (mns es).length us) fun s => .ok s st1
  | .enum e => fun τ st => ((mn e).val τ st).bind fun u st1 => .opt (srcEnum st1 u) fun s => .ok s st1
  | .rev e => fun τ st => ((mn e).val τ st).bind fun u st1 => .opt (srcRev st1 u) fun s => .ok s st1
  | .zip es => fun τ st => (evs (mns es) τ st).bind fun us st1 => .opt (srcZip st1 us) fun s => .ok s st1
  | .items e => fun τ st => ((mn e).val τ st).bind fun u st1 => .opt (srcItems st1 u) fun s => .ok s st1
end
end
abbrev ev (M : Mach) (base : Nat) (e : LE) : Md U := (mn M base e).val
abbrev evT (M : Mach) (base : Nat) (e : LE) : Md Bool := (mn M base e).tst
abbrev evI (M : Mach) (base : Nat) (i : LI) : Md Src := mi M base i

/-! statements -/
inductive FRes where
  | nx (τ : Vars) (st : Store)
  | rt (u : U) (st : Store)
  | ct (τ : Vars) (st : Store)
  | ex (c : Nat) (τ : Vars) (st : Store)
  | bad
def FRes.of {α : Type} (τ : Vars) : Res α → (α → Store → FRes) → FRes
  | .ok a st, f => f a st
  | .exc c st, _ => .ex c τ st
  | .bad, _ => .bad
/-- the dict at n is unlocked behind -/
def FRes.unl (n : Nat) : FRes → FRes
  | .nx τ st => match unlK τ n st with
    | some st1 => .nx τ st1
    | none => .bad
  | _ => .bad
def FRes.opt {α : Type} : Option α → (α → FRes) → FRes
  | some a, f => f a
  | none, _ => .bad
def FRes.seq : FRes → (Vars → Store → FRes) → FRes
  | .nx τ st, f => f τ st
  | r, _ => r
/-- caught and kept -/
def FRes.kept (i n : Nat) : FRes → FRes
  | .ex k τ st => .nx ((τ.set n (some (.exc k))).set i none) st
  | r => r
open Classical in
def forL (src : Src) (step : U → Vars → Store → FRes) : List U → Vars → Store → FRes
  | [], τ, st => if src.Keep st then .nx τ st else .bad
  | u :: r, τ, st => if src.Keep st then (match step u τ st with
    | .nx τ1 st1 => forL src step r τ1 st1
    | .ct τ1 st1 => forL src step r τ1 st1
    | q => q) else .bad
def whileL (test : Vars → Store → Res Bool) (step : Vars → Store → FRes) : Nat → Vars → Store → FRes
  | 0, _, _ => .bad
  | n + 1, τ, st => FRes.of τ (test τ st) fun b st1 => if b then (match step τ st1 with
    | .nx τ2 st2 => whileL test step n τ2 st2
    | .ct τ2 st2 => whileL test step n τ2 st2
    | q => q) else .nx τ st1
mutual
def ex (M : Mach) (base : Nat) : LS → Vars → Store → FRes
  | .pass, τ, st => .nx τ st
  | .never, _, _ => .bad
  | .cont, τ, st => .ct τ st
  | .expr e, τ, st => FRes.of τ (ev M base e τ st) fun _ st1 => .nx τ st1
  | .ret e, τ, st => FRes.of τ (ev M base e τ st) fun u st1 => .rt u st1
  | .retn, τ, st => .rt (.d .none) st
  | .setl ts e, τ, st => FRes.of τ (ev M base e τ st) fun u st1 => FRes.opt (unlT st1 u ts τ) fun τ1 => .nx τ1 st1
  | .set tg e, τ, st => FRes.of τ (ev M base e τ st) fun u st1 => FRes.opt (setT tg u τ) fun τ1 => .nx τ1 st1
  | .aug i op e, τ, st => match τ[i]? with
    | some (some x) => FRes.of τ (ev M base e τ st) fun y st1 => (match x, y with
      | .d (.int a), .d (.int b) => FRes.opt (intOp op a b) fun k => .nx (τ.set i (some (.d (.int k)))) st1
      | _, _ => .bad)
    | _ => .bad
  | .sub o i e, τ, st => FRes.of τ (ev M base e τ st) fun u st1 => FRes.of τ (ev M base o τ st1) fun x st2 => FRes.of τ (ev M base i τ st2) fun y st3 =>
      FRes.opt (setAt base st3 x y u) fun st4 => .nx τ st4
  | .ife c a b, τ, st => FRes.of τ (evT M base c τ st) fun t st1 => if t then exs M base a τ st1 else exs M base b τ st1
  | .forr tg it body, τ, st => FRes.of τ (evI M base it τ st) fun src st1 => forL src (fun u τ1 st2 => FRes.opt (setT tg u τ1) fun τ2 => exs M base body τ2 st2) src.us τ st1
  | .whil c body, τ, st => whileL (fun τ1 st1 => evT M base c τ1 st1) (fun τ1 st1 => exs M base body τ1 st1) M.fuel τ st
  | .raise c, τ, st => .ex c τ st
  | .tryp i n body, τ, st => (exs M base body τ st).kept i n
  | .lks i s, τ, st => FRes.opt (lkAt τ st i) fun p => (ex M base s τ (st.set p.1 (.fdct p.2.1 p.2.2))).unl p.1
def exs (M : Mach) (base : Nat) : LSs → Vars → Store → FRes
  | .nil, τ, st => .nx τ st
  | .cons s ss, τ, st => (ex M base s τ st).seq fun τ1 st1 => exs M base ss τ1 st1
end

/-! defs -/
structure Fn where
  np : Nat
  nl : Nat
  body : LSs
def leaveU (base : Nat) (u : U) (st : Store) : Res U := match u with
  | .cell n => if n < base then .ok u (st.take base) else match st[n]? with
    | some c => if c.closed base then .ok (.cell base) (st.take base ++ [c]) else .bad
    | none => .bad
  | u => .ok u (st.take base)
def leave (base : Nat) : FRes → Res U
  | .nx _ st => .ok (.d .none) (st.take base)
  | .rt u st => leaveU base u st
  | .ex c _ st => .exc c (st.take base)
  | _ => .bad
/-- the machine of a table of defs, by depth -/
def run (T : Nat → Option Fn) (con : Nat → Option PyData) (fuel : Nat) : Nat → Nat → List U → Store → Res U
  | 0, _, _, _ => .bad
  | n + 1, f, us, st => Res.opt (T f) fun F => if us.length = F.np then
      leave st.length (exs ⟨con, run T con fuel n, fuel⟩ st.length F.body (us.map some ++ List.replicate (F.nl - F.np) none) st) else .bad
def mach (T : Nat → Option Fn) (con : Nat → Option PyData) (fuel : Nat) (n : Nat) : Mach := ⟨con, run T con fuel n, fuel⟩
end
end Z
/-! Z7: each construct's reading follows from its meaning. -/
namespace Z
open PySem PySem.Spec PyProof.Rows L2
structure SE (X : Cx) (C : Cc) (base : Nat) (W : Z.WX) (e : Expr) (m : Mn) : Prop where
  val : PE X e (RdU C base W m.val)
  tst : PT X e (RdB C base W m.tst)
/-- no star ahead, and no super() -/
def plainE : Expr → Bool
  | .Starred _ _ => false
  | .Call (.Name _ _) [] [] _ => false
  | _ => true
def noStar : Expr → Bool
  | .Starred _ _ => false
  | _ => true
inductive SEs (X : Cx) (C : Cc) (base : Nat) (W : Z.WX) : List Expr → List Mn → Prop
  | nil : SEs X C base W [] []
  | cons {e : Expr} {es : List Expr} {m : Mn} {ms : List Mn} : SE X C base W e m → noStar e = true → SEs X C base W es ms → SEs X C base W (e :: es) (m :: ms)
/-- a test that is its value's truth -/
def PlainT (X : Cx) (e : Expr) : Prop := ∀ whole, isTrue e X.env whole = (do let v ← whole; standAt e.pos; holding [v] (truthy v))
section
variable {X : Cx} {C : Cc} {base : Nat} {W : Z.WX}
theorem star_cons {e : Expr} {es : List Expr} {env : Env} (h : noStar e = true) : starEach (e :: es) env = (false, eval e env) :: starEach es env := by
  cases e <;> first | rfl | cases h
theorem star_all {es : List Expr} {ms : List Mn} (h : SEs X C base W es ms) (pos : Pos) : (backTo pos (starEach es X.env)).any (·.1) = false := by
  induction h with
  | nil => rfl
  | cons a b c ih => rw [star_cons b]; exact ih
theorem base_plain {o : Expr} {name : Str} {env : Env} (h : plainE o = true) : attributeBase o name env (eval o env) = eval o env := by
  unfold attributeBase
  split
  · cases h
  · rfl
theorem SE.of (k : Okc X C W) {e : Expr} {f : Md U} (h : PE X e (RdU C base W f)) (p : PlainT X e) : SE X C base W e (.of f) := by
  refine ⟨h, pt_imp (pt_truth h p) fun σ H Q q => ?_⟩
  refine Rd.imp (Rd.bind q) fun v H1 ⟨A1, τ, st1, a, c, r, q⟩ => ?_
  obtain ⟨b, e1, q⟩ := opt_run q
  exact ⟨b, k.K ▸ truth_run c r e1, q b H1 A1 .refl c rfl⟩
theorem se_lit_int (k : Okc X C W) {i : Int} {j : Nat} {pos : Pos} : SE X C base W (.Constant (.int i) j pos) (.of fun _ st => .ok (.d (.int i)) st) :=
  .of k (pe_imp pe_int fun σ H Q ⟨A, τ, st, c, h⟩ => h _ H A .refl c (.d (.int i))) fun _ => rfl
theorem se_lit_bool (k : Okc X C W) {i : Bool} {j : Nat} {pos : Pos} : SE X C base W (.Constant (.bool i) j pos) (.of fun _ st => .ok (.d (.bool i)) st) :=
  .of k (pe_imp pe_bl fun σ H Q ⟨A, τ, st, c, h⟩ => h _ H A .refl c (.d (.bl i))) fun _ => rfl
theorem se_lit_none (k : Okc X C W) {j : Nat} {pos : Pos} : SE X C base W (.Constant .none j pos) (.of fun _ st => .ok (.d .none) st) :=
  .of k (pe_imp pe_non fun σ H Q ⟨A, τ, st, c, h⟩ => h _ H A .refl c (.d .non)) fun _ => rfl
theorem se_lit_str (k : Okc X C W) {i : Str} {j : Nat} {pos : Pos} : SE X C base W (.Constant (.str i) j pos) (.of fun _ st => .ok (.d (.str i)) st) :=
  .of k (pe_imp pe_str fun σ H Q ⟨A, τ, st, c, h⟩ => h _ H A .refl c (.d (.str i))) fun _ => rfl
theorem se_var (k : Okc X C W) {i : Nat} {x : Str} {pos : Pos} (hN : X.N[i]? = some x) (hv : Vis X.env.scope x) (hd : (x == ("__debug__" : Str)) = false) (hcd : (x == ("__classdict__" : Str)) = false) : SE X C base W (.Name x pos) (.of (varU i)) := by
  refine .of k (pe_imp (pe_var hN hv hd hcd) fun σ H Q h => ?_) fun _ => rfl
  obtain ⟨A, τ, st, c, h⟩ := h
  unfold varU at h
  split at h
  · rename_i u e
    obtain ⟨v, e1, r⟩ := c.vars i u e
    exact ⟨v, e1, h v H A .refl c r⟩
  · exact h.elim
/-- a constant of the module -/
theorem se_gco (k : Okc X C W) {M : Mach} {n : Nat} {x : Str} {pos : Pos} {u : Value} (hg : Gl X x) (hm : X.mg x = some u) (hd : (x == ("__debug__" : Str)) = false) (hu : ∀ y, M.con n = some y → ∃ v, RelV v u ∧ ∀ H, Rp C.K C.w H v y) :
    SE X C base W (.Name x pos) (.of fun _ st => .opt (M.con n) fun x => .ok (.d x) st) := by
  refine .of k ⟨fun pins s σ H Q I h => ?_⟩ fun _ => rfl
  obtain ⟨A, τ, st, c, h⟩ := h
  obtain ⟨y, e, h⟩ := opt_run h
  obtain ⟨v, r, q⟩ := hu y e
  exact (pe_glob hg hm r hd).run pins s σ H Q I (h v H A .refl c (.d (q H)))
theorem se_gfn (k : Okc X C W) {f : Nat} {a : Addr} {x : Str} {pos : Pos} (hg : Gl X x) (hm : X.mg x = some (.ref a)) (hd : (x == ("__debug__" : Str)) = false) (hf : C.fa f = some a) :
    SE X C base W (.Name x pos) (.of fun _ st => .ok (.fn f) st) :=
  .of k (pe_imp (pe_glob (v := .ref a) hg hm rfl hd) fun σ H Q ⟨A, τ, st, c, h⟩ => h _ H A .refl c (.fn hf)) fun _ => rfl

theorem pa_evs : ∀ {es : List Expr} {ms : List Mn}, SEs X C base W es ms → PA X es (RdUs C base W (evs ms))
  | _, _, .nil => pa_imp pa_nil fun σ H Q ⟨A, τ, st, c, h⟩ => h [] H A .refl c .nil
  | _, _, .cons a b t => by
    refine pa_imp (pa_cons a.val (pa_evs t) (star_cons b)) fun σ H Q h => ?_
    refine Rd.imp (Rd.bind h) fun v H1 ⟨A1, τ, st1, u, c, r, q⟩ => ?_
    refine Rd.imp (Aft.next c q) fun vs H2 ⟨A2, st2, us, g, c2, r2, q2⟩ => ?_
    exact q2 (v :: vs) H2 A2 .refl c2 (.cons (r.gr g) r2)
theorem us_len {A : List Addr} {H : Hp} {vs : List V} {us : List U} (r : RpUs C A H vs us) : vs.length = us.length := Paired.length r
theorem se_tup (k : Okc X C W) {es : List Expr} {ms : List Mn} {n : Nat} {pos : Pos} (h : SEs X C base W es ms) : SE X C base W (.Tuple es n pos) (.of fun τ st => (evs ms τ st).bind fun us st1 => .opt (tupOf us) fun u => .ok u st1) := by
  refine .of k (pe_imp (pe_tup (pa_evs h)) fun σ H Q q => ?_) fun _ => rfl
  refine Rd.imp (Rd.bind q) fun vs H1 ⟨A1, τ, st1, us, c, r, q⟩ => ?_
  obtain ⟨u, e, q⟩ := opt_run q
  unfold tupOf at e
  split at e
  · rename_i hz
    rw [Option.map_eq_some_iff] at e
    obtain ⟨xs, e, rfl⟩ := e
    refine ⟨by rw [us_len r]; exact hz, fun p hp => q _ _ A1 (Gr.lay hp) (c.beside hp) (.d (.tup upd_same ?_))⟩
    exact RpAll.mono (Gr.lay (A := A1) hp).fz (r.trees e)
  · cases e
theorem fin_len {fr : Bool} {A : List Addr} {H : Hp} {τ : Vars} {σ : L2.St} {st : Store} {us : List U} {Q : VK} (h : Aft C base W (RU C) A H τ σ (fin fr st (.lst us)) Q) : us.length ≤ sizeLine := by
  by_cases hz : us.length ≤ sizeLine
  · exact hz
  · have e : fin fr st (.lst us) = .bad := by simp only [fin]; rw [if_neg hz]
    rw [e] at h
    exact False.elim h
theorem se_lst (k : Okc X C W) {fr : Bool} {es : List Expr} {ms : List Mn} {pos : Pos} (h : SEs X C base W es ms) : SE X C base W (.List es pos) (.of fun τ st => (evs ms τ st).bind fun us st1 => fin fr st1 (.lst us)) := by
  refine .of k (pe_fz (pe_lst (pa_evs h)) fun σ H Q q => ?_) fun _ => rfl
  refine Rd.imp (Rd.bind q) fun vs H1 ⟨A1, τ, st1, us, c, r, q⟩ => ?_
  exact ⟨by rw [us_len r]; exact fin_len q, fun p hp => fin_run c q (.lst hp r)⟩
theorem se_dct0 (k : Okc X C W) {t fr : Bool} {pos : Pos} : SE X C base W (.Dict [] [] pos) (.of fun _ st => fin fr st (.dct t [])) := by
  cases t with
  | false => exact .of k (pe_fz pe_dnewK fun σ H Q ⟨A, τ, st, c, h⟩ p hp => fin_run c h (.dK hp .nil)) fun _ => rfl
  | true => exact .of k (pe_fz pe_dnewT fun σ H Q ⟨A, τ, st, c, h⟩ p hp => fin_run c h (.dT hp .nil)) fun _ => rfl
theorem rep_rel {A : List Addr} {H : Hp} {vs : List V} {us : List U} (r : RpUs C A H vs us) : ∀ n : Nat, RpUs C A H (List.replicate n vs).flatten (List.replicate n us).flatten
  | 0 => .nil
  | n + 1 => by
    rw [List.replicate_succ, List.replicate_succ, List.flatten_cons, List.flatten_cons]
    exact pair_app r (rep_rel r n)
theorem se_rept (k : Okc X C W) {fr : Bool} {es : List Expr} {ms : List Mn} {b : Expr} {m : Mn} {pos pos2 : Pos} (h : SEs X C base W es ms) (hb : SE X C base W b m) :
    SE X C base W (.BinOp (.List es pos) .Mult b pos2) (.of fun τ st => (evs ms τ st).bind fun us st1 => .opt (chk (us.length ≤ 64) ()) fun _ => (m.val τ st1).bind fun u st2 => reptU fr us u st2) := by
  refine .of k (pe_fz (pe_op op_rep (pe_lst (pa_evs h)) hb.val) fun σ H Q q => ?_) fun _ => rfl
  refine Rd.imp (Rd.bind q) fun vs H1 ⟨A1, τ, st1, us, c, r, q⟩ => ?_
  have hlen : us.length ≤ sizeLine → vs.length ≤ sizeLine := fun h => by rw [us_len r]; exact h
  obtain ⟨_, e0, q⟩ := opt_run q
  have hz : us.length ≤ 64 := (chk_run e0).1
  refine ⟨hlen (Nat.le_trans hz (by decide)), fun p hp => ?_⟩
  have c1 := c.beside (o := .lst vs) hp
  have g1 : Gr A1 H1 A1 (upd H1 p (.lst vs)) := Gr.lay hp
  have hpA := c.fresh hp
  refine Rd.imp (Aft.next c1 (Aft.gr q g1)) fun w H2 ⟨A2, st2, u, g, c2, r2, q2⟩ => ?_
  unfold reptU at q2
  split at q2
  · rename_i i
    obtain ⟨_, e, q2⟩ := opt_run q2
    obtain ⟨⟨h2, h3⟩, _⟩ := chk_run e
    have e2 : H2 p = some (.lst vs) := g.ext p _ upd_same (fun _ z => nomatch z) (.inl hpA)
    refine ⟨p, i, vs, rfl, rint r2, e2, by omega, by omega, ?_, fun p2 hp2 => fin_run c2 q2 (.lst hp2 (rep_rel (RpUs.gr g (RpUs.gr g1 r)) _))⟩
    have e3 := us_len r
    have : vs.length * i.toNat ≤ 64 * 1000 := Nat.mul_le_mul (by omega) (by omega)
    exact Nat.le_trans this (by decide)
  · exact q2.elim
theorem se_bop (k : Okc X C W) {op : Operator} {fr : Bool} {a b : Expr} {m1 m2 : Mn} {pos : Pos} (ha : SE X C base W a m1) (hb : SE X C base W b m2) :
    SE X C base W (.BinOp a op b pos) (.of fun τ st => (m1.val τ st).bind fun u st1 => (m2.val τ st1).bind fun w st2 => .opt (binop op st2 u w) fun mk => fin fr st2 mk) := by
  refine .of k (pe_fz (pe_op (bin_op (base := base) k op) ha.val hb.val) fun σ H Q q => ?_) fun _ => rfl
  refine Rd.imp (Rd.bind q) fun v H1 ⟨A1, τ, st1, u, c, r, q⟩ => ?_
  refine Rd.imp (Aft.next c q) fun w H2 ⟨A2, st2, x, g, c2, r2, q2⟩ => ?_
  obtain ⟨mk, e, q2⟩ := opt_run q2
  exact ⟨A2, τ, σ, st2, u, x, mk, c2, r.gr g, r2, e, fun v' H' hm => fin_run c2 q2 hm⟩
theorem frz_run {A : List Addr} {H : Hp} {τ : Vars} {σ : L2.St} {st : Store} {u : U} {v : V} {Q : VK} (c : Cn C base A τ st σ H) (r : RpU C A H v u) (h : Aft C base W (RU C) A H τ σ (frzU u st) Q) : QF Q v H := by
  cases r with
  | d r => exact .inl (h v H A .refl c (.d r))
  | fn r => exact .inl (h _ H A .refl c (.fn r))
  | exc r1 r2 => exact .inl (h _ H A .refl c (.exc r1 r2))
  | @cell a n ha =>
    unfold frzU at h
    obtain ⟨k, hk⟩ : ∃ k, st[n]? = some k := by
      have : n < st.length := by rw [← c.len]; exact (List.getElem?_eq_some_iff.mp ha).1
      exact ⟨st[n], List.getElem?_eq_getElem this⟩
    obtain ⟨b, hb, ck⟩ := c.cells n k hk
    rw [ha] at hb
    cases hb
    have go : ∀ {o : HO} {x : PyData}, H a = some o → MutC (some o) → (∀ q, Rp C.K C.w (upd H a (.frz q o)) (.ref a) x) → Aft C base W (RU C) A H τ σ (.ok (.d x) (st.set n .dead)) Q → QF Q (.ref a) H := by
      intro o x ho mu rx z
      refine .inr ⟨a, o, rfl, ho, mu.mut, fun q => ?_⟩
      have hm : MutC (H a) := by rw [ho]; exact mu
      exact z _ _ A (Gr.write (n := n) hm (List.mem_of_getElem? ha)) (c.write ha hm (show CellR C _ _ a .dead from ⟨_, upd_same, fun _ e => nomatch e⟩)) (.d (rx q))
    have fz : ∀ {o : HO}, MutC (some o) → H a = some o → ∀ q b o', Fz o' → H b = some o' → upd H a (.frz q o) b = some o' := by
      intro o mu ho q b o' f e
      have : b ≠ a := by
        rintro rfl
        rw [ho] at e
        cases e
        cases o <;> first | exact f | exact mu
      rw [upd_ne this]; exact e
    dsimp only at h
    rw [hk] at h
    cases k with
    | lst us =>
      obtain ⟨xs, e, h⟩ := opt_run h
      obtain ⟨vs, h1, h2⟩ := ck
      have h3 := RpUs.trees (RpUs.mono (fun _ _ _ h => h) pre_if h2) e
      exact go h1 trivial (fun q => .lst (.inl ⟨q, upd_same⟩) (RpAll.mono (fz (o := .lst vs) trivial h1 q) h3)) h
    | dct t kvs =>
      cases t with
      | false =>
        obtain ⟨xs, e, h⟩ := opt_run h
        obtain ⟨es, h1, h2⟩ := ck
        have h3 := kvK_trees (Paired.mapP h2 fun _ _ q => ⟨q.1, q.2.mono (fun _ _ _ h => h) pre_if⟩) e
        exact go h1 trivial (fun q => .dct ⟨q, upd_same⟩ (RpK.mono (fz (o := .dK es) trivial h1 q) h3)) h
      | true =>
        obtain ⟨xs, e, h⟩ := opt_run h
        obtain ⟨es, h1, h2⟩ := ck
        have h3 := kvT_trees (Paired.mapP h2 fun _ _ q => ⟨q.1, q.2.mono (fun _ _ _ h => h) pre_if⟩) e
        exact go h1 trivial (fun q => .dctT ⟨q, upd_same⟩ (RpKT.mono (fz (o := .dT es) trivial h1 q) h3)) h
    | fdct t kvs =>
      cases t with
      | false =>
        obtain ⟨xs, e, h⟩ := opt_run h
        obtain ⟨es, q, h1, h2⟩ := ck
        have h3 := kvK_trees (Paired.mapP h2 fun _ _ q => ⟨q.1, q.2.mono (fun _ _ _ h => h) pre_if⟩) e
        exact .inl (h (.ref a) H A .refl c (.d (.dct ⟨q, h1⟩ h3)))
      | true =>
        obtain ⟨xs, e, h⟩ := opt_run h
        obtain ⟨es, q, h1, h2⟩ := ck
        have h3 := kvT_trees (Paired.mapP h2 fun _ _ q => ⟨q.1, q.2.mono (fun _ _ _ h => h) pre_if⟩) e
        exact .inl (h (.ref a) H A .refl c (.d (.dctT ⟨q, h1⟩ h3)))
    | obj => exact h.elim
    | dead => exact h.elim
theorem lock_run {A : List Addr} {H : Hp} {τ : Vars} {σ : L2.St} {st : Store} {u : U} {v : V} {Q : VK} (c : Cn C base A τ st σ H) (r : RpU C A H v u) (h : Aft C base W (RU C) A H τ σ (lockU u st) Q) : QF Q v H := by
  cases r with
  | d r => exact .inl (h v H A .refl c (.d r))
  | fn r => exact .inl (h _ H A .refl c (.fn r))
  | exc r1 r2 => exact .inl (h _ H A .refl c (.exc r1 r2))
  | @cell a n ha =>
    unfold lockU at h
    obtain ⟨k, hk⟩ : ∃ k, st[n]? = some k := by
      have : n < st.length := by rw [← c.len]; exact (List.getElem?_eq_some_iff.mp ha).1
      exact ⟨st[n], List.getElem?_eq_getElem this⟩
    obtain ⟨b, hb, ck⟩ := c.cells n k hk
    rw [ha] at hb
    cases hb
    have fz : ∀ {o : HO}, MutC (some o) → H a = some o → ∀ q b o', Fz o' → H b = some o' → upd H a (.frz q o) b = some o' := by
      intro o mu ho q b o' f e
      have : b ≠ a := by
        rintro rfl
        rw [ho] at e
        cases e
        cases o <;> first | exact f | exact mu
      rw [upd_ne this]; exact e
    have go : ∀ {o : HO} {k' : Cont}, H a = some o → MutC (some o) → (∀ q, CellR C (if n < base then A.take base else A) (upd H a (.frz q o)) a k') → Aft C base W (RU C) A H τ σ (.ok (.cell n) (st.set n k')) Q → QF Q (.ref a) H := by
      intro o k' ho mu rx z
      refine .inr ⟨a, o, rfl, ho, mu.mut, fun q => ?_⟩
      have hm : MutC (H a) := by rw [ho]; exact mu
      exact z _ _ A (Gr.write (n := n) hm (List.mem_of_getElem? ha)) (c.write ha hm (rx q)) (.cell ha)
    dsimp only at h
    rw [hk] at h
    cases k with
    | lst us => exact .inl (h (.ref a) H A .refl c (.cell ha))
    | fdct t kvs => exact .inl (h (.ref a) H A .refl c (.cell ha))
    | dct t kvs =>
      cases t with
      | false =>
        obtain ⟨es, h1, h2⟩ := ck
        exact go (k' := .fdct false kvs) h1 trivial (fun q => ⟨es, q, upd_same, Paired.mapP h2 fun _ _ z => ⟨z.1, z.2.mono (fz (o := .dK es) trivial h1 q) List.prefix_rfl⟩⟩) h
      | true =>
        obtain ⟨es, h1, h2⟩ := ck
        exact go (k' := .fdct true kvs) h1 trivial (fun q => ⟨es, q, upd_same, Paired.mapP h2 fun _ _ z => ⟨z.1, z.2.mono (fz (o := .dT es) trivial h1 q) List.prefix_rfl⟩⟩) h
    | obj => exact h.elim
    | dead => exact h.elim
theorem se_lock (k : Okc X C W) {a : Expr} {m : Mn} (ha : SE X C base W a m) (hp : PlainT X a) : SE X C base W a (.of fun τ st => (m.val τ st).bind lockU) := by
  refine .of k (pe_fz ha.val fun σ H Q q => ?_) hp
  exact Rd.imp (Rd.bind q) fun v H1 ⟨A1, τ, st1, u, c, r, q⟩ => lock_run c r q
theorem se_frz (k : Okc X C W) {a : Expr} {m : Mn} (ha : SE X C base W a m) (hp : PlainT X a) : SE X C base W a (.of fun τ st => (m.val τ st).bind frzU) := by
  refine .of k (pe_fz ha.val fun σ H Q q => ?_) hp
  exact Rd.imp (Rd.bind q) fun v H1 ⟨A1, τ, st1, u, c, r, q⟩ => frz_run c r q
theorem rev_rel {α β : Type} {F : α → β → Prop} {xs : List α} {ys : List β} (r : Paired F xs ys) : Paired F xs.reverse ys.reverse := by
  induction r with
  | nil => exact .nil
  | cons a t ih =>
    rw [List.reverse_cons, List.reverse_cons]
    exact pair_app ih (.cons a .nil)
/-- xs[::-1], z[::-1] -/
def tRev2 (K : PySem.W.Frag) (te : TE) : TE := fun σ H Q => te σ H fun x H1 => (∃ a xs, x = .ref a ∧ SqL K H1 a xs ∧ ∀ p, H1 p = none → Q (.ref p) (upd H1 p (.lst xs.reverse))) ∨ ∃ z : Str, x = .str z ∧ z.length ≤ sizeLine ∧ Q (.str ⟨z.cps.toList.reverse.toArray⟩) H1
theorem rev_text (x : Str) (u : Tok) : Txt.sliceBy x none none (-1, u) = ⟨x.cps.toList.reverse.toArray⟩ := by
  have h := step_rev_list x u
  have e : x.cps.toList.reverse = (List.range x.length).map fun k => x.cps.getD (x.length - 1 - k) 0 := by
    refine List.ext_getElem (by simp [PySem.Str.length]) fun i h1 h2 => ?_
    have h3 : i < x.cps.size := by simpa using h1
    have h4 : x.cps.size - 1 - i < x.cps.size := by omega
    simp [PySem.Str.length, Array.getD, h4]
  rw [← e] at h
  have : (Txt.sliceBy x none none (-1, u)).cps = x.cps.toList.reverse.toArray := by
    rw [← h]
  cases q : Txt.sliceBy x none none (-1, u)
  rw [q] at this
  exact congrArg _ this
theorem pe_rev2 {X : Cx} {e : Expr} {te : TE} {k : Nat} {p1 p2 p3 pos : Pos} (he : PE X e te) : PE X (.Subscript e (.Slice none none (some (.UnaryOp .USub (.Constant (.int 1) k p1) p2)) p3) pos) (tRev2 X.K te) := by
  refine ⟨fun pins s σ H Q I h => ?_⟩
  refine Subscript_ (thn (he.run pins s σ H _ I h) fun v s1 ⟨x, H1, I1, r1, q1⟩ => ?_)
  have hst : PO X (some (.UnaryOp .USub (.Constant (.int 1) k p1) p2)) (tPart (tUn (rU fun i => .int (-i)) (tC (.int 1)))) := po_some (pe_un un_neg pe_int)
  refine wpAny_Slice (thn (po_none.run pins s1 σ H1 (fun o H2 => o = none ∧ H2 = H1) I1 ⟨rfl, rfl⟩) fun vl s2 ⟨l, H2, I2, pl, el, e2⟩ => ?_)
  subst el e2
  refine thn (po_none.run pins s2 σ H2 (fun o H3 => o = none ∧ H3 = H2) I2 ⟨rfl, rfl⟩) fun vu s3 ⟨u, H3, I3, pu, eu, e3⟩ => ?_
  subst eu e3
  refine thn (hst.run pins s3 σ H3 (fun o H4 => o = some (-1) ∧ H4 = H3) I3 ⟨1, rfl, -1, rfl, rfl, rfl⟩) fun vs s4 ⟨o, H4, I4, ps, eo, e4⟩ => ?_
  subst eo e4
  have I5 : Inv X pins σ H4 { s4 with heap := s4.heap.push { cls := .type "slice", data := .fields #[vl, vu, vs] } } := I4.kept (t' := s4.toks) fun b ob q => Heap.get?_push_of_some _ q
  rcases q1 with ⟨a, xs, ex, hx, q⟩ | ⟨z, ex, hz, q⟩
  · subst ex
    cases r1
    obtain ⟨its, r, ht, hz⟩ := I5.list hx
    have hlen := r.length
    show wpAny (model X.prog X.w) X.A (subscriptTail e (.Slice none none (some (.UnaryOp .USub (.Constant (.int 1) k p1) p2)) p3) (.ref a) (.ref s4.heap.objs.size)) (EP X pins σ Q) X.xe { s4 with heap := s4.heap.push { cls := .type "slice", data := .fields #[vl, vu, vs] } }
    refine tail_any (ops := [.ref a, .ref s4.heap.objs.size]) ht.isList.typeIs (PySem.slot_list_getitem.lookup) ?_ (by with_unfolding_all rfl)
    refine wpAny_getItem_list_slice ht.isList (Heap.IsSliceOf.new _ vl vu vs) pl pu ps (by decide) ?_ (by rw [List.size_toArray]; omega)
    rw [PySem.W.krv_pick]
    refine ⟨.ref _, _, I5.laid (t' := s4.toks) (o := .lst xs.reverse) (fun b ob q => Heap.get?_push_of_some _ q) (Nat.le_refl _) ?_, rfl, q _ (I5.hok.fresh (Nat.le_refl _))⟩
    exact ⟨by rw [List.length_reverse]; exact hz, _, 0, r.reverse, Heap.get?_push_size _ rfl⟩
  · subst ex
    obtain ⟨t, rfl⟩ := r1
    show wpAny (model X.prog X.w) X.A (subscriptTail e (.Slice none none (some (.UnaryOp .USub (.Constant (.int 1) k p1) p2)) p3) (.str z t) (.ref s4.heap.objs.size)) (EP X pins σ Q) X.xe { s4 with heap := s4.heap.push { cls := .type "slice", data := .fields #[vl, vu, vs] } }
    refine tail_any (ops := [.ref s4.heap.objs.size, .str z t]) (typeIs_str _ _ _) (F.slot_str_getitem.lookup) ?_ (by with_unfolding_all rfl)
    obtain ⟨os, hos, hcs, hds⟩ := Heap.IsSliceOf.new s4.heap vl vu vs
    obtain ⟨l, el, hl⟩ := IsPart.raw pl
    obtain ⟨u, eu, hu⟩ := IsPart.raw pu
    obtain ⟨w, ew, hw⟩ := IsPart.raw ps
    obtain ⟨t', rfl⟩ : ∃ t', w = some (-1, t') := by
      cases w with
      | none => simp at hw
      | some p => obtain ⟨i, t'⟩ := p; simp at hw; exact ⟨t', by rw [hw]⟩
    have hl : l = none := by cases l <;> simp_all
    have hu : u = none := by cases u <;> simp_all
    subst hl hu el eu ew
    refine wpAny_getItem_str_slice (l := none) (u := none) (st := some (-1, t')) ⟨os, hos, hcs, hds⟩ rfl ?_
    have rt := rev_text z t'
    have sb : sliceMade z t none none (some (-1, t')) = .str (Txt.sliceBy z none none (-1, t')) := rfl
    rw [sb, rt]
    refine ⟨by simp [PySem.Str.length] at hz ⊢; exact hz, .str _, H4, I5.tok _, ⟨_, rfl⟩, q⟩
theorem se_revs (k : Okc X C W) {fr : Bool} {e : Expr} {m : Mn} {j : Nat} {p1 p2 p3 pos : Pos} (he : SE X C base W e m) :
    SE X C base W (.Subscript e (.Slice none none (some (.UnaryOp .USub (.Constant (.int 1) j p1) p2)) p3) pos) (.of fun τ st => (m.val τ st).bind fun u st1 => .opt (revOf st1 u) fun mk => fin fr st1 mk) := by
  refine .of k (pe_fz (pe_rev2 he.val) fun σ H Q q => ?_) fun _ => rfl
  refine Rd.imp (Rd.bind q) fun v H1 ⟨A1, τ, st1, u, c, r, q⟩ => ?_
  obtain ⟨mk, e, q⟩ := opt_run q
  have lst : (lstOf st1 u).map (fun us => Mk.lst us.reverse) = some mk → (∃ a xs, v = .ref a ∧ SqL X.K H1 a xs ∧ ∀ p, H1 p = none → QF Q (.ref p) (upd H1 p (.lst xs.reverse))) := fun e => by
    rw [Option.map_eq_some_iff] at e
    obtain ⟨us, e1, rfl⟩ := e
    obtain ⟨p, vs, rfl, s1, r1⟩ := lst_run c e1 r
    exact ⟨p, vs, rfl, k.K ▸ s1, fun p2 hp => fin_run c q (.lst hp (rev_rel r1))⟩
  unfold revOf at e
  split at e
  · rename_i z
    obtain ⟨hz, rfl⟩ := chk_run e
    exact .inr ⟨z, rstr r, hz, fin_run c q (.u (.d (.str _)))⟩
  · exact .inl (lst e)
theorem se_neg (k : Okc X C W) {a : Expr} {m : Mn} {pos : Pos} (ha : SE X C base W a m) : SE X C base W (.UnaryOp .USub a pos) (.of fun τ st => (m.val τ st).bind negU) := by
  refine .of k (pe_imp (pe_un un_neg ha.val) fun σ H Q q => ?_) fun _ => rfl
  refine Rd.imp (Rd.bind q) fun v H1 ⟨A1, τ, st1, u, c, r, q⟩ => ?_
  unfold negU at q
  split at q
  · rename_i i
    exact ⟨i, rint r, q _ H1 A1 .refl c (.d (.int _))⟩
  · exact q.elim
theorem se_not (k : Okc X C W) {a : Expr} {m : Mn} {pos : Pos} (ha : SE X C base W a m) : SE X C base W (.UnaryOp .Not a pos)
    ⟨fun τ st => (m.val τ st).bind fun u st1 => .opt (truth st1 u) fun b => .ok (.d (.bool !b)) st1, fun τ st => (m.tst τ st).bind fun b st1 => .ok (!b) st1⟩ := by
  refine ⟨pe_imp (pe_notT ha.val) fun σ H Q q => ?_, pt_imp (pt_not ha.tst) fun σ H Q q => ?_⟩
  · refine Rd.imp (Rd.bind q) fun v H1 ⟨A1, τ, st1, u, c, r, q⟩ => ?_
    obtain ⟨b, e, q⟩ := opt_run q
    exact ⟨b, k.K ▸ truth_run c r e, q _ H1 A1 .refl c (.d (.bl _))⟩
  · refine Rd.imp (Rd.bind q) fun v H1 ⟨A1, τ, st1, u, c, r, q⟩ => ?_
    exact q _ H1 A1 .refl c (by rw [show v = u from r])
theorem se_ife {c a b : Expr} {m m1 m2 : Mn} {pos : Pos} (hc : SE X C base W c m) (ha : SE X C base W a m1) (hb : SE X C base W b m2) : SE X C base W (.IfExp c a b pos)
    ⟨fun τ st => (m.tst τ st).bind fun t st1 => if t then m1.val τ st1 else m2.val τ st1, fun τ st => (m.tst τ st).bind fun t st1 => if t then m1.tst τ st1 else m2.tst τ st1⟩ := by
  refine ⟨pe_imp (pe_ifExp hc.tst ha.val hb.val) fun σ H Q q => ?_, ⟨fun pins s σ H Q I q => ?_⟩⟩
  · refine Rd.imp (Rd.bind q) fun v H1 ⟨A1, τ, st1, u, c, r, q⟩ => ?_
    cases (show v = u from r)
    cases v with
    | true => exact ⟨A1, τ, st1, c, q⟩
    | false => exact ⟨A1, τ, st1, c, q⟩
  · show wpAny _ _ (isTrue c X.env (eval c X.env) >>= fun t => if t = true then isTrue a X.env (eval a X.env) else isTrue b X.env (eval b X.env)) _ _ s
    refine wpAny_bind (thn (hc.tst.run pins s σ H _ I (Rd.bind q)) fun t s1 ⟨H1, I1, A1, τ, st1, u, c, r, q⟩ => ?_)
    cases (show t = u from r)
    cases t with
    | true => exact ha.tst.run pins s1 σ H1 Q I1 ⟨A1, τ, st1, c, q⟩
    | false => exact hb.tst.run pins s1 σ H1 Q I1 ⟨A1, τ, st1, c, q⟩
end
end Z
/-! Z8: and, or, comparisons, items, slices, calls of built-in names. -/
namespace Z
open PySem PySem.Spec PyProof.Rows L2
inductive SCs (X : Cx) (C : Cc) (base : Nat) (W : Z.WX) : List CmpOp → List Expr → List (CmpOp × Mn) → Prop
  | nil : SCs X C base W [] [] []
  | cons {op : CmpOp} {ops : List CmpOp} {e : Expr} {es : List Expr} {m : Mn} {ms : List (CmpOp × Mn)} : SE X C base W e m → SCs X C base W ops es ms → SCs X C base W (op :: ops) (e :: es) ((op, m) :: ms)
section
variable {X : Cx} {C : Cc} {base : Nat} {W : Z.WX}
theorem pe_bl' (k : Okc X C W) {op : BoolOp} {pos : Pos} : ∀ {es : List Expr} {ms : List Mn}, SEs X C base W es ms → es ≠ [] → PE X (.BoolOp op es pos) (RdU C base W (evB op ms))
  | _, _, .nil, h => absurd rfl h
  | _, _, .cons a _ .nil, _ => pe_one a.val
  | _, _, .cons (e := e) (m := m) a _ (.cons (e := e2) (es := es) (m := m2) (ms := ms) a2 b2 t), _ => by
    have ih := pe_bl' k (op := op) (pos := pos) (.cons a2 b2 t) (by simp)
    cases op with
    | And =>
      refine pe_imp (pe_andT a.val ih) fun σ H Q q => ?_
      refine Rd.imp (Rd.bind q) fun v H1 ⟨A1, τ, st1, u, c, r, q⟩ => ?_
      obtain ⟨b, e1, q⟩ := opt_run q
      refine ⟨b, k.K ▸ truth_run c r e1, ?_⟩
      cases b with
      | true => exact ⟨A1, τ, st1, c, q⟩
      | false => exact q v H1 A1 .refl c r
    | Or =>
      refine pe_imp (pe_orT a.val ih) fun σ H Q q => ?_
      refine Rd.imp (Rd.bind q) fun v H1 ⟨A1, τ, st1, u, c, r, q⟩ => ?_
      obtain ⟨b, e1, q⟩ := opt_run q
      refine ⟨b, k.K ▸ truth_run c r e1, ?_⟩
      cases b with
      | true => exact q v H1 A1 .refl c r
      | false => exact ⟨A1, τ, st1, c, q⟩
theorem pw_imp {e : Expr} {t t' : TT} (h : PW X e t) (i : ∀ σ H Q, t' σ H Q → t σ H Q) : PW X e t' :=
  ⟨fun whole pins s σ H Q I q => h.run whole pins s σ H Q I (i σ H Q q)⟩
theorem pw_bl' {op : BoolOp} {pos : Pos} : ∀ {es : List Expr} {ms : List Mn}, SEs X C base W es ms → es ≠ [] → PW X (.BoolOp op es pos) (RdB C base W (evTs op ms))
  | _, _, .nil, h => absurd rfl h
  | _, _, .cons a _ .nil, _ => by
    cases op with
    | And => exact pw_and1 a.tst
    | Or => exact pw_or1 a.tst
  | _, _, .cons (e := e) (m := m) a _ (.cons (e := e2) (es := es) (m := m2) (ms := ms) a2 b2 t), _ => by
    have ih := pw_bl' (op := op) (pos := pos) (.cons a2 b2 t) (by simp)
    cases op with
    | And =>
      refine pw_imp (pw_and a.tst ih) fun σ H Q q => ?_
      refine Rd.imp (Rd.bind q) fun v H1 ⟨A1, τ, st1, u, c, r, q⟩ => ?_
      cases (show v = u from r)
      cases v with
      | true => exact ⟨A1, τ, st1, c, q⟩
      | false => exact q false H1 A1 .refl c rfl
    | Or =>
      refine pw_imp (pw_or a.tst ih) fun σ H Q q => ?_
      refine Rd.imp (Rd.bind q) fun v H1 ⟨A1, τ, st1, u, c, r, q⟩ => ?_
      cases (show v = u from r)
      cases v with
      | true => exact q true H1 A1 .refl c rfl
      | false => exact ⟨A1, τ, st1, c, q⟩
theorem se_bl (k : Okc X C W) {op : BoolOp} {pos : Pos} {es : List Expr} {ms : List Mn} (h : SEs X C base W es ms) (hn : es ≠ []) : SE X C base W (.BoolOp op es pos) ⟨evB op ms, evTs op ms⟩ :=
  ⟨pe_bl' k h hn, (pw_bl' h hn).pt⟩

/-- what a chain wants -/
def ChW (C : Cc) (base : Nat) (W : Z.WX) (cs : List (CmpOp × Mn)) (v : V) (σ : L2.St) (H : Hp) (Q : Bool → Hp → Prop) : Prop :=
  ∃ A τ st x, Cn C base A τ st σ H ∧ RpU C A H v x ∧ Aft C base W RB A H τ σ (evC cs x τ st) Q
theorem chain_one (k : Okc X C W) {op : CmpOp} {e : Expr} {m : Mn} (h : SE X C base W e m) {pins : List (Addr × Obj)} {s : Shared} {σ : L2.St} {H : Hp} {v : V} {u : Value} {Q : Bool → Hp → Prop} (I : Inv X pins σ H s) (r : RelV v u) (q : ChW C base W [(op, m)] v σ H Q) :
    wpAny (model X.prog X.w) X.A (eval e X.env) (fun w s1 => wpAny (model X.prog X.w) X.A (compareOp op u w) (EP X pins σ fun z H2 => ∃ b, z = .bl b ∧ Q b H2) X.xe s1) X.xe s := by
  obtain ⟨A, τ, st, x, c, rx, q⟩ := q
  refine thn (h.val.run pins s σ H _ I (Aft.next c q)) fun w s1 ⟨y, H1, I1, r1, A1, st1, z, g, c1, rz, q1⟩ => ?_
  obtain ⟨b, e1, q1⟩ := opt_run q1
  exact cmp_op (base := base) k op pins s1 σ H1 v y u w _ I1 r r1 ⟨A1, τ, σ, st1, x, z, b, c1, rx.gr g, rz, e1, b, rfl, q1 b H1 A1 .refl c1 rfl⟩
theorem chain_two (k : Okc X C W) {op : CmpOp} {e : Expr} {m : Mn} {c2 : CmpOp × Mn} {cs : List (CmpOp × Mn)} (h : SE X C base W e m) {pins : List (Addr × Obj)} {s : Shared} {σ : L2.St} {H : Hp} {v : V} {u : Value} {Q : Bool → Hp → Prop} (I : Inv X pins σ H s) (r : RelV v u) (q : ChW C base W ((op, m) :: c2 :: cs) v σ H Q)
    {α : Type} {t : Value → Sem α} {P : α → Shared → Prop} {Pf : Value → Shared → Prop}
    (hf : ∀ s' H', Inv X pins σ H' s' → Q false H' → Pf (.bool false) s')
    (ht : ∀ w y s' H', Inv X pins σ H' s' → RelV y w → ChW C base W (c2 :: cs) y σ H' Q → wpAny (model X.prog X.w) X.A (t w) P X.xe s') :
    wpAny (model X.prog X.w) X.A (eval e X.env) (fun w s1 => wpAny (model X.prog X.w) X.A (compareOp op u w) (fun c s2 => wpAny (model X.prog X.w) X.A (PySem.truthy c) (fun b s3 => if b = true then wpAny (model X.prog X.w) X.A (t w) P X.xe s3 else Pf c s3) X.xe s2) X.xe s1) X.xe s := by
  obtain ⟨A, τ, st, x, c, rx, q⟩ := q
  refine thn (h.val.run pins s σ H _ I (Aft.next c q)) fun w s1 ⟨y, H1, I1, r1, A1, st1, z, g, c1, rz, q1⟩ => ?_
  obtain ⟨b, e1, q1⟩ := opt_run q1
  refine thn (cmp_op (base := base) k op pins s1 σ H1 v y u w (fun z H2 => H2 = H1 ∧ z = .bl b) I1 r r1 ⟨A1, τ, σ, st1, x, z, b, c1, rx.gr g, rz, e1, rfl, rfl⟩) fun cv s2 ⟨zv, H2, I2, r2, eH, ez⟩ => ?_
  subst eH ez
  cases r2
  refine wpAny_truthy_bool ?_
  cases b with
  | true =>
    rw [if_pos rfl]
    exact ht w y s2 _ I2 r1 ⟨A1, τ, st1, z, c1, rz, q1⟩
  | false =>
    rw [if_neg Bool.false_ne_true]
    exact hf s2 _ I2 (q1 false _ A1 .refl c1 rfl)
theorem chain_val (k : Okc X C W) {pos : Pos} : ∀ {ops : List CmpOp} {es : List Expr} {cs : List (CmpOp × Mn)}, SCs X C base W ops es cs → cs ≠ [] → ∀ {pins : List (Addr × Obj)} {s : Shared} {σ : L2.St} {H : Hp} {v : V} {u : Value} {Q : Bool → Hp → Prop}, Inv X pins σ H s → RelV v u → ChW C base W cs v σ H Q →
    wpAny (model X.prog X.w) X.A (compareChain pos u ops (evalEach es X.env)) (EP X pins σ fun z H2 => ∃ b, z = .bl b ∧ Q b H2) X.xe s
  | _, _, _, .nil, h => absurd rfl h
  | _, _, _, .cons a .nil, _ => fun I r q => chain_last (chain_one k a I r q)
  | _, _, _, .cons a (.cons a2 t), _ => fun I r q => by
    exact chain_link (chain_two k a I r q (t := fun w => compareChain pos w _ _) (fun s' H' I' q' => ⟨.bl false, H', I', rfl, false, rfl, q'⟩) (fun w y s' H' I' r' q' => chain_val k (.cons a2 t) (by simp) I' r' q'))
theorem chain_tst (k : Okc X C W) {pos : Pos} : ∀ {ops : List CmpOp} {es : List Expr} {cs : List (CmpOp × Mn)}, SCs X C base W ops es cs → cs ≠ [] → ∀ {pins : List (Addr × Obj)} {s : Shared} {σ : L2.St} {H : Hp} {v : V} {u : Value} {Q : Bool → Hp → Prop}, Inv X pins σ H s → RelV v u → ChW C base W cs v σ H Q →
    wpAny (model X.prog X.w) X.A (testChain pos u ops (evalEach es X.env)) (TP X pins σ Q) X.xe s
  | _, _, _, .nil, h => absurd rfl h
  | _, _, _, .cons a .nil, _ => fun I r q => test_last (thn (chain_one k a I r q) fun w s1 h => thn h fun c s2 ⟨z, H2, I2, r2, b, ez, q2⟩ => by
      subst ez
      cases r2
      exact wpAny_truthy_bool ⟨H2, I2, q2⟩)
  | _, _, _, .cons a (.cons a2 t), _ => fun I r q => by
    exact test_link (chain_two k a I r q (t := fun w => testChain pos w _ _) (Pf := fun _ s' => TP X _ _ _ false s') (fun s' H' I' q' => ⟨H', I', q'⟩) (fun w y s' H' I' r' q' => chain_tst k (.cons a2 t) (by simp) I' r' q'))
theorem se_cmp (k : Okc X C W) {a : Expr} {m : Mn} {ops : List CmpOp} {es : List Expr} {cs : List (CmpOp × Mn)} {pos : Pos} (ha : SE X C base W a m) (h : SCs X C base W ops es cs) (hn : cs ≠ []) (hm : lastMarks ops es = false) :
    SE X C base W (.Compare a ops es pos) ⟨fun τ st => (cmpU2 m cs τ st).bind fun b st2 => .ok (.d (.bool b)) st2, cmpU2 m cs⟩ := by
  refine ⟨⟨fun pins s σ H Q I q => ?_⟩, ⟨fun pins s σ H Q I q => ?_⟩⟩
  · show wpAny _ _ (do compareChain pos (← eval a X.env) ops (markedEach ops es (evalEach es X.env))) _ _ s
    rw [markedEach_of_false _ _ _ hm]
    obtain ⟨A, τ, st, c, q⟩ := q
    have q0 : Aft C base W (RU C) A H τ σ ((m.val τ st).bind fun u st1 => (evC cs u τ st1).bind fun b st2 => .ok (.d (.bool b)) st2) Q := by
      have e : ((cmpU2 m cs τ st).bind fun b st2 => Res.ok (U.d (.bool b)) st2) = ((m.val τ st).bind fun u st1 => (evC cs u τ st1).bind fun b st2 => .ok (.d (.bool b)) st2) := by
        unfold cmpU2
        cases m.val τ st <;> rfl
      rw [← e]; exact q
    refine wpAny_bind (thn (ha.val.run pins s σ H _ I (Aft.next c q0)) fun u s1 ⟨v, H1, I1, r1, A1, st1, x, g, c1, rx, q1⟩ => ?_)
    refine thn (chain_val k h hn I1 r1 (Q := fun b H2 => Q (.bl b) H2) ⟨A1, τ, st1, x, c1, rx, ?_⟩) fun z s2 ⟨z', H2, I2, r2, b, ez, q2⟩ => ⟨z', H2, I2, r2, by rw [ez]; exact q2⟩
    refine (q1.bind).imp fun b H2 ⟨A2, st2, b', g2, c2, r2, q2⟩ => ?_
    cases (show b = b' from r2)
    exact q2 _ H2 A2 .refl c2 (.d (.bl b))
  · show wpAny _ _ (do testChain pos (← eval a X.env) ops (markedEach ops es (evalEach es X.env))) _ _ s
    rw [markedEach_of_false _ _ _ hm]
    obtain ⟨A, τ, st, c, q⟩ := q
    refine wpAny_bind (thn (ha.val.run pins s σ H _ I (Aft.next c q)) fun u s1 ⟨v, H1, I1, r1, A1, st1, x, g, c1, rx, q1⟩ => ?_)
    exact chain_tst k h hn I1 r1 ⟨A1, τ, st1, x, c1, rx, q1⟩

/-! items and slices -/
theorem at_get {α β : Type} {F : α → β → Prop} {xs : List α} {ys : List β} (r : Paired F xs ys) {i : Int} {y : β} (h : L2.atI ys i = some y) : ∃ x, L2.atI xs i = some x ∧ F x y := by
  unfold L2.atI at h ⊢
  rw [Paired.length r]
  rw [Option.bind_eq_some_iff] at h
  obtain ⟨j, h1, h2⟩ := h
  rw [h1]
  have : ∀ {xs : List α} {ys : List β} {j : Nat} {y : β}, Paired F xs ys → ys[j]? = some y → ∃ x, xs[j]? = some x ∧ F x y := by
    intro xs ys
    induction ys generalizing xs with
    | nil => intro j y _ h; simp at h
    | cons b r ih =>
      intro j y p h
      cases p with
      | cons a t =>
        cases j with
        | zero => simp at h; subst h; exact ⟨_, rfl, a⟩
        | succ j => obtain ⟨x, e, f⟩ := ih t (by simpa using h); exact ⟨x, by simpa using e, f⟩
  obtain ⟨x, e, f⟩ := this r h2
  exact ⟨x, e, f⟩
def rItem (C : Cc) (base : Nat) : R2 := fun x y H Q => ∃ A τ σ st u w z, Cn C base A τ st σ H ∧ RpU C A H x u ∧ RpU C A H y w ∧ itemOf st u w = some z ∧ ∀ v, RpU C A H v z → Q v H
theorem ixr_imp {r r' : R2} (h : IxR X r) (i : ∀ x y H Q, r' x y H Q → r x y H Q) : IxR X r' := fun value slice pins s σ H x y v u Q I rx ry q hs => h value slice pins s σ H x y v u Q I rx ry (i _ _ _ _ q) hs
theorem item_ix (k : Okc X C W) : IxR X (rItem C base) := by
  refine ixr_imp (ix_seq.or (ix_dct k)) fun x y H Q h => ?_
  obtain ⟨A, τ, σ', st, a, w, z, c, ra, rb, e, q⟩ := h
  have dct : ∀ {yd : PyData}, (dctGet st yd a).bind id = some z → RpU C A H y (.d yd) → rIxDct x y H Q := by
    intro yd e ry
    rw [Option.bind_eq_some_iff] at e
    obtain ⟨r, e1, e2⟩ := e
    have e2' : r = some z := e2
    subst e2'
    obtain ⟨p, rv, rfl, g, g1, _⟩ := dctGet_run c e1 ra ry
    obtain ⟨v', hv, r'⟩ := g1 z rfl
    subst hv
    exact ⟨p, v', rfl, g, q v' r'⟩
  unfold itemOf at e
  split at e
  · rename_i xs i
    rw [Option.map_eq_some_iff] at e
    obtain ⟨d, e, rfl⟩ := e
    obtain ⟨p, vs, rfl, s1, r1⟩ := rtup ra
    obtain ⟨v', e1, r2⟩ := at_get r1.paired e
    exact .inl (.inr (.inl ⟨p, vs, i, v', rfl, rint rb, k.K ▸ s1, e1, q v' (.d r2)⟩))
  · rename_i zs i
    rw [Option.bind_eq_some_iff] at e
    obtain ⟨_, e1, e⟩ := e
    obtain ⟨hz, _⟩ := chk_run e1
    rw [Option.map_eq_some_iff] at e
    obtain ⟨ch, e, rfl⟩ := e
    exact .inl (.inr (.inr ⟨zs, i, ch, rstr ra, rint rb, hz, e, q _ (.d (.str _))⟩))
  · split at e
    · rename_i us e1
      obtain ⟨p, vs, rfl, s1, r1⟩ := lst_run c e1 ra
      obtain ⟨v', e2, r2⟩ := at_get r1 e
      exact .inl (.inl ⟨p, vs, _, v', rfl, rint rb, k.K ▸ s1, e2, q v' r2⟩)
    · exact .inr (dct e rb)
  · exact .inr (dct e rb)
  · cases e
def noSlice : Expr → Bool
  | .Slice _ _ _ _ => false
  | _ => true
theorem plain_ix {b : Expr} (h : noSlice b = true) : PlainIx b := by
  intro o i
  cases b <;> first | rfl | cases h
theorem se_idx (k : Okc X C W) {a b : Expr} {m1 m2 : Mn} {pos : Pos} (ha : SE X C base W a m1) (hb : SE X C base W b m2) (hs : noSlice b = true) :
    SE X C base W (.Subscript a b pos) (.of fun τ st => (m1.val τ st).bind fun u st1 => (m2.val τ st1).bind fun w st2 => .opt (itemOf st2 u w) fun x => .ok x st2) := by
  refine .of k (pe_imp (pe_ix (item_ix (base := base) k) ha.val hb.val (plain_ix hs)) fun σ H Q q => ?_) fun _ => rfl
  refine Rd.imp (Rd.bind q) fun v H1 ⟨A1, τ, st1, u, c, r, q⟩ => ?_
  refine Rd.imp (Aft.next c q) fun w H2 ⟨A2, st2, x, g, c2, r2, q2⟩ => ?_
  obtain ⟨z, e, q2⟩ := opt_run q2
  exact ⟨A2, τ, σ, st2, u, x, z, c2, r.gr g, r2, e, fun v' hm => q2 v' H2 A2 .refl c2 hm⟩
/-- an entry of a dict of the module -/
theorem se_kget (k : Okc X C W) {d : Option PyData} {x : Str} {a : Addr} {b : Expr} {m : Mn} {p pos : Pos} (hg : Gl X x) (hm : X.mg x = some (.ref a)) (hd : (x == ("__debug__" : Str)) = false)
    (hu : ∀ s y, kgetU d (.d (.str s)) = some y → ∃ v, KDct C.K C.w a s v ∧ ∀ H, Rp C.K C.w H v y) (hb : SE X C base W b m) (hs : noSlice b = true) :
    SE X C base W (.Subscript (.Name x p) b pos) (.of fun τ st => (m.val τ st).bind fun u st1 => .opt (kgetU d u) fun x => .ok (.d x) st1) := by
  refine .of k (pe_imp (pe_ix ix_kdict (pe_glob (v := .ref a) hg hm rfl hd) hb.val (plain_ix hs)) fun σ H Q q => ?_) fun _ => rfl
  show RdU C base W m.val σ H _
  refine Rd.imp (Rd.bind q) fun w H1 ⟨A1, τ, st1, u, c, r, q1⟩ => ?_
  obtain ⟨y, e, q2⟩ := opt_run q1
  obtain ⟨s, rfl⟩ : ∃ s, u = .d (.str s) := by
    unfold kgetU at e
    split at e
    · exact ⟨_, rfl⟩
    · cases e
  obtain ⟨v, h1, h2⟩ := hu s y e
  exact ⟨a, s, v, rfl, rstr r, by rw [k.K, k.w]; exact h1, q2 v H1 A1 .refl c (.d (h2 H1))⟩
theorem cut_rel {α β : Type} {F : α → β → Prop} {xs : List α} {ys : List β} (r : Paired F xs ys) (lo hi : Option Int) : Paired F (cutL xs lo hi) (cutL ys lo hi) := by
  have tk : ∀ {xs : List α} {ys : List β} (n : Nat), Paired F xs ys → Paired F (xs.take n) (ys.take n) := by
    intro xs ys n
    induction n generalizing xs ys with
    | zero => intro _; exact .nil
    | succ n ih => intro p; cases p with | nil => exact .nil | cons a t => exact .cons a (ih t)
  have dr : ∀ {xs : List α} {ys : List β} (n : Nat), Paired F xs ys → Paired F (xs.drop n) (ys.drop n) := by
    intro xs ys n
    induction n generalizing xs ys with
    | zero => intro p; exact p
    | succ n ih => intro p; cases p with | nil => exact .nil | cons a t => exact ih t
  unfold cutL
  rw [Paired.length r]
  exact tk _ (dr _ r)
def rSlice (C : Cc) (base : Nat) : V → Option Int → Option Int → Hp → VK → Prop := fun x lo hi H Q => ∃ A τ σ st u mk, Cn C base A τ st σ H ∧ RpU C A H x u ∧ sliceOf st u lo hi = some mk ∧ ∀ v H', MkR C A H mk v H' → Q v H'
theorem slr_imp {r r' : V → Option Int → Option Int → Hp → VK → Prop} (h : SlR X r) (i : ∀ x lo hi H Q, r' x lo hi H Q → r x lo hi H Q) : SlR X r' := fun pins s σ H x v vl vu lo hi sl Q I rx hs pl pu q => h pins s σ H x v vl vu lo hi sl Q I rx hs pl pu (i _ _ _ _ _ q)
theorem slice_sl (k : Okc X C W) : SlR X (rSlice C base) := by
  refine slr_imp (sl_list.or (sl_tup.or sl_str)) fun x lo hi H Q h => ?_
  obtain ⟨A, τ, σ', st, a, mk, c, ra, e, q⟩ := h
  unfold sliceOf at e
  split at e
  · rename_i xs
    obtain ⟨hw, rfl⟩ := chk_run e
    obtain ⟨p, vs, rfl, s1, r1⟩ := rtup ra
    refine .inr (.inl ⟨p, vs, rfl, k.K ▸ s1, by rw [r1.length]; exact hw, fun p2 hp => q _ _ (.new hp (.d (.tup upd_same ?_)))⟩)
    exact RpAll.mono (Gr.lay (A := A) hp).fz (.of (cut_rel r1.paired lo hi))
  · rename_i zs
    obtain ⟨hz, rfl⟩ := chk_run e
    exact .inr (.inr ⟨zs, rstr ra, hz, q _ _ (mkStr _)⟩)
  · rw [Option.map_eq_some_iff] at e
    obtain ⟨us, e1, rfl⟩ := e
    obtain ⟨p, vs, rfl, s1, r1⟩ := lst_run c e1 ra
    exact .inl ⟨p, vs, rfl, k.K ▸ s1, fun p2 hp => q _ _ (.lst hp (cut_rel r1 lo hi))⟩
/-- a bound of a slice -/
def boundOf : Option Expr → Bool → Prop
  | none, a => a = true
  | some _, a => a = false
inductive SO (X : Cx) (C : Cc) (base : Nat) (W : Z.WX) : Option Expr → Bool → Mn → Prop
  | no {m : Mn} : SO X C base W none true m
  | yes {e : Expr} {m : Mn} : SE X C base W e m → SO X C base W (some e) false m
theorem po_imp {e : Option Expr} {t t' : TO} (h : PO X e t) (i : ∀ σ H Q, t' σ H Q → t σ H Q) : PO X e t' :=
  ⟨fun pins s σ H Q I q => h.run pins s σ H Q I (i σ H Q q)⟩
theorem po_evO {e : Option Expr} {a : Bool} {m : Mn} (h : SO X C base W e a m) : PO X e (Rd C base W (fun _ _ (x y : Option Int) => x = y) (evO a m.val)) := by
  cases h with
  | no => exact po_imp po_none fun σ H Q ⟨A, τ, st, c, h⟩ => h none H A .refl c rfl
  | yes h =>
    refine po_imp (po_some h.val) fun σ H Q q => ?_
    refine Rd.imp (Rd.bind q) fun v H1 ⟨A1, τ, st1, u, c, r, q⟩ => ?_
    split at q
    · rename_i i
      exact ⟨i, rint r, q (some i) H1 A1 .refl c rfl⟩
    · exact q.elim
theorem se_slc (k : Okc X C W) {fr : Bool} {e : Expr} {lo hi : Option Expr} {m m1 m2 : Mn} {a b : Bool} {pos pos2 : Pos} (he : SE X C base W e m) (hl : SO X C base W lo a m1) (hh : SO X C base W hi b m2) :
    SE X C base W (.Subscript e (.Slice lo hi none pos2) pos) (.of fun τ st => (m.val τ st).bind fun u st1 => (evO a m1.val τ st1).bind fun l st2 => (evO b m2.val τ st2).bind fun h st3 => .opt (sliceOf st3 u l h) fun mk => fin fr st3 mk) := by
  refine .of k (pe_fz (pe_slice (slice_sl (base := base) k) he.val (po_evO hl) (po_evO hh)) fun σ H Q q => ?_) fun _ => rfl
  refine Rd.imp (Rd.bind q) fun v H1 ⟨A1, τ, st1, u, c, r, q⟩ => ?_
  refine Rd.imp (Aft.next c q) fun w H2 ⟨A2, st2, l, g, c2, r2, q2⟩ => ?_
  cases (show w = l from r2)
  refine Rd.imp (Aft.next c2 q2) fun w2 H3 ⟨A3, st3, l2, g3, c3, r3, q3⟩ => ?_
  cases (show w2 = l2 from r3)
  obtain ⟨mk, e, q3⟩ := opt_run q3
  exact ⟨A3, τ, σ, st3, u, mk, c3, (r.gr g).gr g3, e, fun v' H' hm => fin_run c3 q3 hm⟩
end
end Z
/-! Z9: calls of built-in names, methods of lists and texts, calls of defs. -/
namespace Z
open PySem PySem.Spec PyProof.Rows L2
section
variable {X : Cx} {C : Cc} {base : Nat} {W : Z.WX}
def primVal : Prim → Value
  | .len => .builtin "len" | .repr => .builtin "repr" | .min2 => .builtin "min" | .max2 => .builtin "max" | .sorted => .builtin "sorted" | .abs => .builtin "abs" | .sum => .builtin "sum" | .maxL => .builtin "max" | .minL => .builtin "min"
  | .int => .type "int" | .list => .type "list" | .tuple => .type "tuple" | _ => .none
def primName : Prim → Str
  | .len => "len" | .repr => "repr" | .min2 => "min" | .max2 => "max" | .sorted => "sorted" | .abs => "abs" | .sum => "sum" | .maxL => "max" | .minL => "min"
  | .int => "int" | .list => "list" | .tuple => "tuple" | .isT _ => "isinstance" | .join => ""
def primIs : Prim → Bool
  | .isT _ => false
  | .join => false
  | _ => true
theorem boot_prim (p : Prim) (h : primIs p = true) : bootBuiltins (primName p) = some (primVal p) := by
  cases p <;> first | decide +kernel | cases h
theorem call_prim (k : Okc X C W) (p : Prim) (h : primIs p = true) : CallR X (primVal p) (rPrim C base p) := by
  cases p with
  | len => exact p_len k
  | repr => exact p_repr k
  | min2 => exact p_min2 k
  | max2 => exact p_max2 k
  | sorted => exact p_sorted k
  | abs => exact p_abs
  | sum => exact p_sum k
  | maxL => exact p_maxL k
  | minL => exact p_minL k
  | int => exact p_int
  | list => exact p_list k
  | tuple => exact p_tuple k
  | isT t => cases h
  | join => cases h
theorem pe_callV {x : Str} {p pos : Pos} {e : Expr} {es : List Expr} {t : TA} {u : Value} {r : List V → Hp → VK → Prop} (hc : CallR X u r) (hu : (∃ n, u = .builtin n) ∨ ∃ n, u = .type n) (hg : Gl X x) (hm : X.mg x = none) (hv : bootBuiltins x = some u) (ha : PA X (e :: es) t) (hn : x ≠ "__name__") (hdb : (x == ("__debug__" : Str)) = false)
    (he : noStar e = true) (hpl : ∀ pos, (backTo pos (starEach es X.env)).any (·.1) = false) : PE X (.Call (.Name x p) (e :: es) [] pos) (tCB r t) := by
  rcases hu with ⟨n, rfl⟩ | ⟨n, rfl⟩
  · exact pe_callB hc hg hm hv ha hn hdb (star_cons he) (hpl pos)
  · exact pe_callTy hc hg hm hv ha hn hdb (star_cons he) (hpl pos)
theorem primVal_kind (p : Prim) (h : primIs p = true) : (∃ n, primVal p = .builtin n) ∨ ∃ n, primVal p = .type n := by
  cases p <;> first | exact .inl ⟨_, rfl⟩ | exact .inr ⟨_, rfl⟩ | cases h
theorem primName_ok (p : Prim) (h : primIs p = true) : primName p ≠ "__name__" ∧ (primName p == ("__debug__" : Str)) = false := by
  cases p <;> first | decide +kernel | cases h
theorem se_pr (k : Okc X C W) {q : Prim} {fr : Bool} {p pos : Pos} {es : List Expr} {ms : List Mn} (hq : primIs q = true) (hg : Gl X (primName q)) (hm : X.mg (primName q) = none) (h : SEs X C base W es ms) (hn : es ≠ []) :
    SE X C base W (.Call (.Name (primName q) p) es [] pos) (.of fun τ st => (evs ms τ st).bind fun us st1 => .opt (prim q st1 us) fun mk => fin fr st1 mk) := by
  cases h with
  | nil => exact absurd rfl hn
  | cons a b t =>
    refine .of k (pe_fz (pe_callV (call_prim (base := base) k q hq) (primVal_kind q hq) hg hm (boot_prim q hq) (pa_evs (.cons a b t)) (primName_ok q hq).1 (primName_ok q hq).2 b (star_all t)) fun σ H Q z => ?_) fun _ => rfl
    refine Rd.imp (Rd.bind z) fun vs H1 ⟨A1, τ, st1, us, c, r, z⟩ => ?_
    obtain ⟨mk, e, z⟩ := opt_run z
    exact ⟨A1, τ, σ, st1, us, mk, c, r, e, fun v H' hm => fin_run c z hm⟩
def tyStr : Ty → Str
  | .int => "int" | .bool => "bool" | .str => "str" | .list => "list" | .tuple => "tuple" | .dict => "dict"
theorem boot_ty (t : Ty) : bootBuiltins (tyStr t) = some (.type (tyName t)) := by cases t <;> decide +kernel
theorem tyStr_ok (t : Ty) : tyStr t ≠ "__name__" ∧ (tyStr t == ("__debug__" : Str)) = false := by cases t <;> decide +kernel
/-- isinstance(e, T) -/
theorem se_isT (k : Okc X C W) {t : Ty} {p p2 pos : Pos} {e : Expr} {m : Mn} (hg : Gl X "isinstance") (hm : X.mg "isinstance" = none) (hg2 : Gl X (tyStr t)) (hm2 : X.mg (tyStr t) = none) (h : SE X C base W e m) (hs : noStar e = true) :
    SE X C base W (.Call (.Name "isinstance" p) [e, .Name (tyStr t) p2] [] pos) (.of fun τ st => (evs [m] τ st).bind fun us st1 => .opt (prim (.isT t) st1 us) fun mk => fin false st1 mk) := by
  have pT : PE X (.Name (tyStr t) p2) (tC (.ty (tyName t))) := pe_bltn hg2 hm2 (boot_ty t) rfl (tyStr_ok t).1 (tyStr_ok t).2
  refine .of k (pe_fz (pe_callB (p_isT (base := base) k t) hg hm (by decide +kernel) (pa_cons h.val (pa_cons pT pa_nil) (star_cons hs)) (by decide +kernel) (by decide +kernel) (star_cons hs)) fun σ H Q z => ?_) fun _ => rfl
  obtain ⟨A, τ, st, c, z⟩ := z
  have e1 : ((evs [m] τ st).bind fun us st1 => Res.opt (prim (.isT t) st1 us) fun mk => fin false st1 mk) = (m.val τ st).bind fun u st1 => Res.opt (prim (.isT t) st1 [u]) fun mk => fin false st1 mk := by
    simp only [evs]
    cases m.val τ st <;> rfl
  have z : Aft C base W (RU C) A H τ σ ((m.val τ st).bind fun u st1 => Res.opt (prim (.isT t) st1 [u]) fun mk => fin false st1 mk) Q := by rw [← e1]; exact z
  refine Rd.imp (Aft.next c z) fun v H1 ⟨A1, st1, u, g, c1, r, z⟩ => ?_
  obtain ⟨mk, e, z⟩ := opt_run z
  exact ⟨v, rfl, A1, τ, σ, st1, [u], mk, c1, .cons r .nil, e, fun v H' hm => fin_run c1 z hm⟩

/-! methods -/
def rMeth (C : Cc) (base : Nat) (m : Meth) : V → List V → Hp → VK → Prop := fun x xs H Q => ∃ A τ σ st u us mk st', Cn C base A τ st σ H ∧ RpU C A H x u ∧ RpUs C A H xs us ∧ meth base m st u us = some (mk, st') ∧
  ∀ v H1 H', Gr A H A H1 → Cn C base A τ st' σ H1 → MkR C A H1 mk v H' → Q v H'
theorem mtr_imp {id : String} {r r' : V → List V → Hp → VK → Prop} (h : MtR X id r) (i : ∀ x xs H Q, r' x xs H Q → r x xs H Q) : MtR X id r' := fun pins s σ H x xs v us Q I rx rs q => h pins s σ H x xs v us Q I rx rs (i _ _ _ _ q)
theorem lstAt_run {A : List Addr} {τ : Vars} {σ : L2.St} {st : Store} {H : Hp} {o : U} {v : V} {p : Nat × List U} (c : Cn C base A τ st σ H) (e : lstAt st o = some p) (r : RpU C A H v o) :
    st[p.1]? = some (.lst p.2) ∧ ∃ a vs, v = .ref a ∧ A[p.1]? = some a ∧ H a = some (.lst vs) ∧ RpUs C (if p.1 < base then A.take base else A) H vs p.2 := by
  unfold lstAt at e
  split at e
  · rename_i n
    split at e
    · rename_i us h
      cases e
      exact ⟨h, cell_lst c h r⟩
    · cases e
  · cases e
/-- into a cell of an outer frame only what belongs there -/
theorem okIn_run {A : List Addr} {H : Hp} {n : Nat} {u : U} {v : V} (hb : base ≤ A.length) (h : okIn base n u) (r : RpU C A H v u) : RpU C (if n < base then A.take base else A) H v u := by
  split
  · rename_i hn
    have hb := h hn
    cases r with
    | d r => exact .d r
    | @cell a m ha =>
      refine .cell ?_
      have hlt : m < base := of_decide_eq_true hb
      rw [List.getElem?_take_of_lt hlt]
      exact ha
    | fn q => exact .fn q
    | exc h1 h2 => exact .exc h1 h2
  · exact r
theorem okIns_run {A : List Addr} {H : Hp} {n : Nat} (hb : base ≤ A.length) : ∀ {us : List U} {vs : List V}, okIns base n us → RpUs C A H vs us → RpUs C (if n < base then A.take base else A) H vs us
  | _, _, _, .nil => .nil
  | _, _, h, .cons a t => by
    have h1 : okIn base n _ ∧ okIns base n _ := ⟨fun hn => by have := h hn; simp only [List.all_cons, Bool.and_eq_true] at this; exact this.1, fun hn => by have := h hn; simp only [List.all_cons, Bool.and_eq_true] at this; exact this.2⟩
    exact .cons (okIn_run hb h1.1 a) (okIns_run hb h1.2 t)
theorem lst_write {A : List Addr} {τ : Vars} {σ : L2.St} {st : Store} {H : Hp} {n : Nat} {a : Addr} {vs ws : List V} {us : List U} (c : Cn C base A τ st σ H) (ha : A[n]? = some a) (h : H a = some (.lst vs)) (r : RpUs C (if n < base then A.take base else A) H ws us) :
    Gr A H A (upd H a (.lst ws)) ∧ Cn C base A τ (st.set n (.lst us)) σ (upd H a (.lst ws)) := by
  have hm : MutC (H a) := by rw [h]; trivial
  have g : Gr A H A (upd H a (.lst ws)) := Gr.write (n := n) hm (List.mem_of_getElem? ha)
  exact ⟨g, c.write ha hm (show CellR C _ _ a (.lst us) from ⟨ws, upd_same, RpUs.mono g.fz List.prefix_rfl r⟩)⟩
theorem mkNone {A : List Addr} {H : Hp} : MkR C A H (.u (.d .none)) .non H := .u (.d .non)
theorem m_append (k : Okc X C W) : MtR X "list.append" (rMeth C base .append) := by
  refine mtr_imp mt_append fun x xs H Q h => ?_
  obtain ⟨A, τ, σ, st, o, us, mk, st', c, rx, rs, e, q⟩ := h
  match us, rs, e with
  | [u], rs, e =>
    have e0 : ((lstAt st o).bind fun p => chk (p.2.length < sizeLine ∧ okIn base p.1 u) (Mk.u (.d .none), st.set p.1 (.lst (p.2 ++ [u])))) = some (mk, st') := e
    rw [Option.bind_eq_some_iff] at e0
    obtain ⟨p, e1, e2⟩ := e0
    obtain ⟨⟨h1, h2⟩, e3⟩ := chk_run e2
    cases e3
    obtain ⟨h3, a, vs, rfl, ha, hv, rv⟩ := lstAt_run c e1 rx
    obtain ⟨v, rfl, r1⟩ := us1 rs
    have hb : base ≤ A.length := by rw [c.len]; exact c.le
    obtain ⟨g, c2⟩ := lst_write c ha hv (pair_app rv (.cons (okIn_run hb h2 r1) .nil))
    exact ⟨a, vs, v, rfl, rfl, hv, by rw [us_len rv]; exact h1, q _ _ _ g c2 mkNone⟩
theorem m_pop (k : Okc X C W) : MtR X "list.pop" (rMeth C base .popL) := by
  refine mtr_imp mt_pop fun x xs H Q h => ?_
  obtain ⟨A, τ, σ, st, o, us, mk, st', c, rx, rs, e, q⟩ := h
  match us, rs, e with
  | [], rs, e =>
    have e0 : ((lstAt st o).bind fun p => p.2[p.2.length - 1]?.map fun u => (Mk.u u, st.set p.1 (.lst p.2.dropLast))) = some (mk, st') := e
    rw [Option.bind_eq_some_iff] at e0
    obtain ⟨p, e1, e2⟩ := e0
    rw [Option.map_eq_some_iff] at e2
    obtain ⟨u, e3, e4⟩ := e2
    cases e4
    obtain ⟨h3, a, vs, rfl, ha, hv, rv⟩ := lstAt_run c e1 rx
    cases rs
    obtain ⟨v, e5, r5⟩ := RpUs.get rv e3
    have rd : ∀ {vs : List V} {us : List U} {A : List Addr}, RpUs C A H vs us → RpUs C A H vs.dropLast us.dropLast := by
      intro vs us A r
      induction r with
      | nil => exact .nil
      | cons a t ih =>
        cases t with
        | nil => exact .nil
        | cons b t => exact .cons a ih
    obtain ⟨g, c2⟩ := lst_write c ha hv (rd rv)
    refine ⟨a, vs, v, rfl, rfl, hv, by rw [us_len rv]; exact e5, q _ _ _ g c2 (.u ?_)⟩
    exact (r5.mono (fun _ _ _ h => h) pre_if).gr g
theorem list_extendG (l : Addr) (items : Array Value) (n : Nat) (b : Addr) (items2 : Array Value) (n2 : Nat) (dd : Option Addr) (sl : Array (Option Value)) (hc0 : ¬(!items.isEmpty && Builtin.List.listTooLong (items.size + items2.size)) = true) (hc1 : items.size ≤ sizeLine) (hs2 : items.size + items2.size ≤ sizeLine + 1) :
    Meets (Builtin.«list.extend» ⟨[.ref l, .ref b], []⟩) (fun _ R s => s.heap.get? l = some { cls := .type "list", dict := none, data := .seq items n, slots := #[] } ∧ s.heap.get? b = some { cls := .type "list", dict := dd, data := .seq items2 n2, slots := sl } ∧ R (.ok (.ret Value.none)) { s with heap := s.heap.update l (Obj.mapSeq fun x => x ++ items2), toks := s.toks }) :=
  .of_wp fun P0 w0 A0 R0 s0 h0 => by
    obtain ⟨hp, g, d, tk, os⟩ := s0
    obtain ⟨hl, hb, h⟩ := h0
    have f1 := AutoSeq1.idx_int
    have f3 := AutoSeq1.sub_list_list
    have f4 := AutoSeq1.sub_tuple_list
    have f5 := AutoSeq1.sub_list_tuple
    have f2 := AutoSeq1.sub_tuple_tuple
    have hz9 : (items ++ items2).size ≤ sizeLine + 1 := by simpa using hs2
    wp_walk using (wpAny_updateSeq hl rfl (hz := hc1) (_hz' := hz9)), AutoSeq1.wpAny_loadPart' hl, AutoSeq1.wpAny_loadPart' hb
    exact ⟨_, rfl, h⟩
theorem m_extend (k : Okc X C W) : MtR X "list.extend" (rMeth C base .extend) := by
  intro pins s σ' H x xs w ws Q I rxv rxs h
  obtain ⟨A, τ, σ, st, o, us, mk, st', c, rx, rs, e, q⟩ := h
  match us, rs, e with
  | [u], rs, e =>
    have e0 : ((lstAt st o).bind fun p => (lstOf st u).bind fun ws => chk (p.2.length + ws.length ≤ sizeLine ∧ okIns base p.1 ws) (Mk.u (.d .none), st.set p.1 (.lst (p.2 ++ ws)))) = some (mk, st') := e
    rw [Option.bind_eq_some_iff] at e0
    obtain ⟨p, e1, e2⟩ := e0
    rw [Option.bind_eq_some_iff] at e2
    obtain ⟨us2, e3, e2⟩ := e2
    obtain ⟨⟨h1, h2⟩, e4⟩ := chk_run e2
    cases e4
    obtain ⟨h3, a, vs, rfl, ha, hv, rv⟩ := lstAt_run c e1 rx
    obtain ⟨v, rfl, r1⟩ := us1 rs
    obtain ⟨b, vs2, rfl, hb2, r2⟩ := lst_run c e3 r1
    have hb : base ≤ A.length := by rw [c.len]; exact c.le
    obtain ⟨g, c2⟩ := lst_write c ha hv (pair_app rv (okIns_run hb h2 r2))
    cases (show w = .ref a from rxv)
    obtain ⟨w2, rfl, r3⟩ := vals1 rxs
    cases (show w2 = .ref b from r3)
    obtain ⟨z, its, n, r4, hl, ge⟩ := I.lstM hv
    rw [← k.K] at hb2
    obtain ⟨js, r5, ⟨⟨c1, d1, e5, s1⟩, n2, gb, h5, h6, h7⟩, _⟩ := I.list hb2
    simp only at h5 h6 h7
    subst h5 h6 h7
    have l5 := r5.length
    have l1 := us_len rv
    have l2 := us_len r2
    have hsz : its.toArray.size + js.toArray.size ≤ sizeLine := by simp only [List.size_toArray]; omega
    have hlong : ¬ (!its.toArray.isEmpty && Builtin.List.listTooLong (its.toArray.size + js.toArray.size)) = true := by
      rw [notLongL hsz, Bool.and_false]
      simp
    refine call_meets PySem.F.slot_list_extend ⟨_, ge, rfl⟩ PySem.F.entry_list_extend (PySem.F.args_list_extend_2 _ _) (list_extendG a its.toArray n b js.toArray n2 _ s1 hlong (by simp only [List.size_toArray]; omega) (by omega)) ⟨ge, gb, ?_⟩
    exact ⟨.non, _, I.lset (its' := its ++ js) hv ge (by simp) (pair_app r4 r5) (by rw [List.length_append]; omega), rfl, q _ _ _ g c2 mkNone⟩
theorem m_join (k : Okc X C W) : MtR X "str.join" (rMeth C base .join) := by
  refine mtr_imp mt_join fun x xs H Q h => ?_
  obtain ⟨A, τ, σ, st, o, us, mk, st', c, rx, rs, e, q⟩ := h
  match us, rs, e with
  | [u], rs, e =>
    have e9 : (joinU st o u).map (fun x => (Mk.u x, st)) = some (mk, st') := e
    rw [Option.map_eq_some_iff] at e9
    obtain ⟨y, e0, e8⟩ := e9
    have hz : ∃ z us2 xs2 zs, o = .d (.str z) ∧ lstOf st u = some us2 ∧ trees us2 = some xs2 ∧ strsOf xs2 = some zs ∧ (zs.map (·.length)).sum + zs.length * z.length ≤ 16777216 ∧ y = .d (.str (Txt.join z zs)) := by
      unfold joinU at e0
      split at e0
      · simp only [Option.bind_eq_some_iff] at e0
        obtain ⟨us2, e1, xs2, e2, zs, e3, e4⟩ := e0
        obtain ⟨h1, e4⟩ := chk_run e4
        exact ⟨_, us2, xs2, zs, rfl, e1, e2, e3, h1, e4.symm⟩
      · cases e0
    obtain ⟨z, us2, xs2, zs, rfl, e1, e2, e3, h1, rfl⟩ := hz
    · cases e8
      obtain ⟨v, rfl, r1⟩ := us1 rs
      obtain ⟨b, vs2, rfl, hb2, r2⟩ := lst_run c e1 r1
      have r3 := r2.trees e2
      have str : ∀ {xs : List PyData} {zs : List Str} {vs : List V}, RpAll C.K C.w H vs xs → strsOf xs = some zs → vs = zs.map V.str := by
        intro xs
        induction xs with
        | nil => intro zs vs r e; cases r; cases e; rfl
        | cons y ys ih =>
          intro zs vs r e
          cases y with
          | str t =>
            simp only [strsOf, Option.map_eq_some_iff] at e
            obtain ⟨zs2, e5, rfl⟩ := e
            cases r with
            | cons a t => cases a; rw [ih t e5]; rfl
          | _ => cases e
      rw [str r3 e3] at hb2
      exact ⟨z, b, zs, rstr rx, rfl, .inl (k.K ▸ hb2), h1, q _ H H .refl c (mkStr _)⟩
theorem m_sindex (k : Okc X C W) : MtR X "str.index" (rMeth C base .sindex) := by
  refine mtr_imp mt_sindex fun x xs H Q h => ?_
  obtain ⟨A, τ, σ, st, o, us, mk, st', c, rx, rs, e, q⟩ := h
  match us, rs, e with
  | [u], rs, e =>
    have e9 : (sindexU o u).map (fun x => (Mk.u x, st)) = some (mk, st') := e
    rw [Option.map_eq_some_iff] at e9
    obtain ⟨y, e0, e8⟩ := e9
    cases e8
    obtain ⟨v, rfl, r1⟩ := us1 rs
    unfold sindexU at e0
    split at e0
    · split at e0
      · rename_i h1
        cases e0
        exact ⟨_, _, _, _, rstr rx, by rw [rstr r1], h1, q _ H H .refl c (.u (.d (.int _)))⟩
      · cases e0
    · cases e0
theorem m_sfind (k : Okc X C W) : MtR X "str.find" (rMeth C base .sfind) := by
  refine mtr_imp mt_find fun x xs H Q h => ?_
  obtain ⟨A, τ, σ, st, o, us, mk, st', c, rx, rs, e, q⟩ := h
  match us, rs, e with
  | [u], rs, e =>
    have e9 : (sfindU o u).map (fun x => (Mk.u x, st)) = some (mk, st') := e
    rw [Option.map_eq_some_iff] at e9
    obtain ⟨y, e0, e8⟩ := e9
    cases e8
    obtain ⟨v, rfl, r1⟩ := us1 rs
    unfold sfindU at e0
    split at e0
    · cases e0
      exact ⟨_, _, rstr rx, by rw [rstr r1], q _ H H .refl c (.u (.d (.int _)))⟩
    · cases e0
/-! flat values -/
def flatOf {K : PySem.W.Frag} {w : World} {H : Hp} {v : V} {x : PyData} (r : Rp K w H v x) (f : flatD x = true) : flatV v = true := by
  cases x with
  | none => cases r; rfl
  | bool b => cases r; rfl
  | int i => cases r; rfl
  | str z => cases r; rfl
  | list => cases f
  | tuple => cases f
  | dict => cases f
theorem flatEq {K : PySem.W.Frag} {w : World} {H : Hp} {v u : V} {x y : PyData} (r : Rp K w H v x) (q : Rp K w H u y) (f : flatD x = true) (g : flatD y = true) : eqV v u = eqF x y := by
  cases x with
  | none => cases r; cases y with
    | none => cases q; rfl
    | bool b => cases q; rfl
    | int b => cases q; rfl
    | str b => cases q; rfl
    | list => cases g
    | tuple => cases g
    | dict => cases g
  | bool a => cases r; cases y with
    | none => cases q; rfl
    | bool b => cases q; rfl
    | int b => cases q; rfl
    | str b => cases q; rfl
    | list => cases g
    | tuple => cases g
    | dict => cases g
  | int a => cases r; cases y with
    | none => cases q; rfl
    | bool b => cases q; rfl
    | int b => cases q; rfl
    | str b => cases q; rfl
    | list => cases g
    | tuple => cases g
    | dict => cases g
  | str a => cases r; cases y with
    | none => cases q; rfl
    | bool b => cases q; rfl
    | int b => cases q; rfl
    | str b => cases q; rfl
    | list => cases g
    | tuple => cases g
    | dict => cases g
  | list => cases f
  | tuple => cases f
  | dict => cases f
theorem flats_all {K : PySem.W.Frag} {w : World} {H : Hp} : ∀ {xs : List PyData} {vs : List V}, RpAll K w H vs xs → xs.all flatD = true → vs.all flatV = true
  | [], _, .nil, _ => rfl
  | x :: xs, _, .cons a b, h => by
    simp only [List.all_cons, Bool.and_eq_true] at h ⊢
    exact ⟨flatOf a h.1, flats_all b h.2⟩
theorem flats_count {K : PySem.W.Frag} {w : World} {H : Hp} {u : V} {y : PyData} (q : Rp K w H u y) (g : flatD y = true) : ∀ {xs : List PyData} {vs : List V}, RpAll K w H vs xs → xs.all flatD = true → vs.countP (fun z => eqV z u) = xs.countP fun z => eqF z y
  | [], _, .nil, _ => rfl
  | x :: xs, _, .cons a b, h => by
    simp only [List.all_cons, Bool.and_eq_true] at h
    rw [List.countP_cons, List.countP_cons, flats_count q g b h.2, flatEq a q h.1 g]
/-- how often a flat value stands in a list of such -/
def rCountF (K : PySem.W.Frag) : V → List V → Hp → VK → Prop := fun x xs H Q => ∃ (a : Addr) (ys : List V) (y : V), x = .ref a ∧ xs = [y] ∧ SqL K H a ys ∧ flatV y = true ∧ ys.all flatV = true ∧ Q (.int ((ys.countP fun z => eqV z y : Nat) : Int)) H
theorem vals_count {y : V} : ∀ {ys : List V} {us : List Value}, Vals ys us → ys.all flatV = true → us.countP (eqU y) = ys.countP fun z => eqV z y
  | _, _, .nil, _ => rfl
  | _, _, .cons r t, h => by
    simp only [List.all_cons, Bool.and_eq_true] at h
    rw [List.countP_cons, List.countP_cons, vals_count t h.2, eqU_of r h.1]
theorem mt_countF : MtR X "list.count" (rCountF X.K) := by
  intro pins s σ H x xs v us Q I rx rs h
  obtain ⟨a, ys, y, rfl, rfl, sq, fy, fys, q⟩ := h
  cases rx
  obtain ⟨uy, rfl, ry⟩ := rs.one
  obtain ⟨its, rv, at_, big⟩ := I.list sq
  obtain ⟨⟨cl, dd, dat, sl⟩, n, ho, hc, _, hd⟩ := at_
  simp only at hc hd
  subst hc hd
  refine call_meets PySem.F.slot_list_count ⟨_, ho, rfl⟩ PySem.F.entry_list_count (PySem.F.args_list_count_2 _ _) (SeqAt.list_countAt a its.toArray n dd sl uy (eqU y)) ⟨ho, fun u' hu' => mem_eqAt ry fy rv fys u' (by simpa using hu'), ?_⟩
  refine ⟨.int _, H, I.tok _, ⟨_, rfl⟩, ?_⟩
  have e : its.toArray.toList.countP (eqU y) = ys.countP fun z => eqV z y := vals_count rv fys
  rw [e]
  exact q
theorem flat_run {A : List Addr} {τ : Vars} {σ : L2.St} {st : Store} {H : Hp} {x y : V} {o u : U} {p : List PyData × PyData} (c : Cn C base A τ st σ H) (rx : RpU C A H x o) (ry : RpU C A H y u) (e : flatAll st o u = some p) :
    ∃ a vs, x = .ref a ∧ SqL C.K H a vs ∧ RpAll C.K C.w H vs p.1 ∧ Rp C.K C.w H y p.2 ∧ p.1.all flatD = true ∧ flatD p.2 = true := by
  unfold flatAll at e
  rw [Option.bind_eq_some_iff] at e
  obtain ⟨us, e1, e⟩ := e
  rw [Option.bind_eq_some_iff] at e
  obtain ⟨xs, e2, e⟩ := e
  rw [Option.bind_eq_some_iff] at e
  obtain ⟨z, e3, e⟩ := e
  obtain ⟨⟨h1, h2⟩, rfl⟩ := chk_run e
  obtain ⟨a, vs, rfl, s1, r1⟩ := lst_run c e1 rx
  cases u with
  | d z' =>
    cases e3
    cases ry with
    | d ry => exact ⟨a, vs, rfl, s1, r1.trees e2, ry, h1, h2⟩
  | cell => cases e3
  | fn => cases e3
  | exc => cases e3
theorem m_count (k : Okc X C W) : MtR X "list.count" (rMeth C base .count) := by
  refine mtr_imp mt_countF fun x xs H Q h => ?_
  obtain ⟨A, τ, σ, st, o, us, mk, st', c, rx, rs, e, q⟩ := h
  match us, rs, e with
  | [u], rs, e =>
    have e0 : (countU st o u).map (fun x => (Mk.u x, st)) = some (mk, st') := e
    rw [Option.map_eq_some_iff] at e0
    obtain ⟨y, e1, e2⟩ := e0
    cases e2
    unfold countU at e1
    rw [Option.map_eq_some_iff] at e1
    obtain ⟨p, e3, rfl⟩ := e1
    obtain ⟨v, rfl, r1⟩ := us1 rs
    obtain ⟨a, vs, rfl, s1, r2, r3, f1, f2⟩ := flat_run c rx r1 e3
    refine ⟨a, vs, v, rfl, rfl, k.K ▸ s1, flatOf r3 f2, flats_all r2 f1, ?_⟩
    rw [flats_count r3 f2 r2 f1]
    exact q _ H H .refl c (.u (.d (.int _)))
theorem m_lindex (k : Okc X C W) : MtR X "list.index" (rMeth C base .lindex) := by
  refine mtr_imp mt_index fun x xs H Q h => ?_
  obtain ⟨A, τ, σ, st, o, us, mk, st', c, rx, rs, e, q⟩ := h
  match us, rs, e with
  | [u], rs, e =>
    have e0 : (lindexU st o u).map (fun x => (Mk.u x, st)) = some (mk, st') := e
    rw [Option.map_eq_some_iff] at e0
    obtain ⟨y, e1, e2⟩ := e0
    cases e2
    unfold lindexU at e1
    rw [Option.bind_eq_some_iff] at e1
    obtain ⟨p, e3, e1⟩ := e1
    rw [Option.map_eq_some_iff] at e1
    obtain ⟨j, e4, rfl⟩ := e1
    obtain ⟨v, rfl, r1⟩ := us1 rs
    obtain ⟨a, vs, rfl, s1, r2, r3, f1, f2⟩ := flat_run c rx r1 e3
    rw [List.findIdx?_eq_some_iff_getElem] at e4
    obtain ⟨hj, h1, h2⟩ := e4
    have len := r2.length
    have at_ : ∀ m, m < p.1.length → ∃ z, vs[m]? = some z ∧ eqV z v = eqF (p.1[m]?.getD .none) p.2 := fun m hm => by
      have gg : ∀ {xs : List PyData} {vs : List V} {m : Nat}, RpAll C.K C.w H vs xs → xs.all flatD = true → m < xs.length → ∃ z, vs[m]? = some z ∧ eqV z v = eqF (xs[m]?.getD .none) p.2 := by
        intro xs
        induction xs with
        | nil => intro vs m _ _ h; simp at h
        | cons x r ih =>
          intro vs m hr hf h
          cases hr with
          | cons a b =>
            simp only [List.all_cons, Bool.and_eq_true] at hf
            cases m with
            | zero => exact ⟨_, rfl, by simpa using flatEq a r3 hf.1 f2⟩
            | succ m => obtain ⟨z, g1, g2⟩ := ih (m := m) b hf.2 (by simpa using h); exact ⟨z, by simpa using g1, by simpa using g2⟩
      exact gg r2 f1 hm
    obtain ⟨z, hz, ez⟩ := at_ j hj
    refine ⟨a, vs, v, j, z, rfl, rfl, k.K ▸ s1, flatOf r3 f2, flats_all r2 f1, hz, ?_, fun m z' hm hz' => ?_, q _ H H .refl c (.u (.d (.int _)))⟩
    · rw [ez, List.getElem?_eq_getElem hj]; exact h1
    · obtain ⟨z2, g1, g2⟩ := at_ m (by omega)
      rw [hz'] at g1
      cases g1
      rw [g2, List.getElem?_eq_getElem (by omega)]
      simpa using h2 m hm
def methName : Meth → Str
  | .append => "append" | .extend => "extend" | .join => "join" | .popL => "pop" | .sindex => "index" | .count => "count" | .lindex => "index" | .get => "get" | .sfind => "find" | .clear => "clear"
theorem m_get (k : Okc X C W) : MtR X "dict.get" (rMeth C base .get) := by
  refine mtr_imp (mt_get k) fun x xs H Q h => ?_
  obtain ⟨A, τ, σ, st, o, us, mk, st', c, rx, rs, e, q⟩ := h
  match us, rs, e with
  | [u], rs, e =>
    have e0 : (getU st o u (.d .none)).map (fun x => (Mk.u x, st)) = some (mk, st') := e
    rw [Option.map_eq_some_iff] at e0
    obtain ⟨y, e1, e2⟩ := e0
    cases e2
    unfold getU at e1
    rw [Option.bind_eq_some_iff] at e1
    obtain ⟨yd, e3, e4⟩ := e1
    rw [Option.map_eq_some_iff] at e4
    obtain ⟨r, e5, rfl⟩ := e4
    obtain ⟨v, rfl, r1⟩ := us1 rs
    cases u with
    | cell => cases e3
    | fn => cases e3
    | exc => cases e3
    | d yd' =>
      cases e3
      obtain ⟨a, rv, rfl, g, g1, g2⟩ := dctGet_run c e5 rx r1
      refine .inr ⟨a, v, rv, rfl, rfl, g, ?_⟩
      cases r with
      | none => rw [g2 rfl]; exact q _ H H .refl c (.u (.d .non))
      | some z => obtain ⟨x, h1, h2⟩ := g1 z rfl; rw [h1]; exact q _ H H .refl c (.u h2)
  | [u, d], rs, e =>
    have e0 : (getU st o u d).map (fun x => (Mk.u x, st)) = some (mk, st') := e
    rw [Option.map_eq_some_iff] at e0
    obtain ⟨y, e1, e2⟩ := e0
    cases e2
    unfold getU at e1
    rw [Option.bind_eq_some_iff] at e1
    obtain ⟨yd, e3, e4⟩ := e1
    rw [Option.map_eq_some_iff] at e4
    obtain ⟨r, e5, rfl⟩ := e4
    obtain ⟨v, w, rfl, r1, r2⟩ := us2 rs
    cases u with
    | cell => cases e3
    | fn => cases e3
    | exc => cases e3
    | d yd' =>
      cases e3
      obtain ⟨a, rv, rfl, g, g1, g2⟩ := dctGet_run c e5 rx r1
      refine .inl ⟨a, v, w, rv, rfl, rfl, g, ?_⟩
      cases r with
      | none => rw [g2 rfl]; exact q _ H H .refl c (.u r2)
      | some z => obtain ⟨x, h1, h2⟩ := g1 z rfl; rw [h1]; exact q _ H H .refl c (.u h2)
theorem dctAt_run {A : List Addr} {τ : Vars} {σ : L2.St} {st : Store} {H : Hp} {o : U} {v : V} {p : Nat × Bool × List (PyData × U)} (c : Cn C base A τ st σ H) (e : dctAt st o = some p) (r : RpU C A H v o) :
    st[p.1]? = some (.dct p.2.1 p.2.2) ∧ ∃ a, v = .ref a ∧ A[p.1]? = some a ∧ CellR C (if p.1 < base then A.take base else A) H a (.dct p.2.1 p.2.2) := by
  unfold dctAt at e
  split at e
  · rename_i n
    split at e
    · rename_i t kvs h
      cases e
      cases r with
      | @cell a _ ha =>
        obtain ⟨b, h1, h2⟩ := c.cells n _ h
        rw [ha] at h1; cases h1
        exact ⟨h, a, rfl, ha, h2⟩
    · cases e
  · cases e
def rSetA : V → V → V → Hp → (Hp → Prop) → Prop := fun o i v H Q => rSetL o i v H Q ∨ rSetD o i v H Q
theorem set_any (k : Okc X C W) : PSet X rSetA := by
  intro pins s σ H o i v ov iv u Q I ro ri rv h
  rcases h with h | h
  · exact set_list pins s σ H o i v ov iv u Q I ro ri rv h
  · exact set_dict (by have := k.units; omega) pins s σ H o i v ov iv u Q I ro ri rv h
theorem dct_write {A : List Addr} {τ : Vars} {σ : L2.St} {st : Store} {H : Hp} {n : Nat} {a : Addr} {o o' : HO} {cc : Cont} (c : Cn C base A τ st σ H) (ha : A[n]? = some a) (h : H a = some o) (mu : MutC (some o)) (r : ∀ B, B = (if n < base then A.take base else A) → CellR C B (upd H a o') a cc) :
    Gr A H A (upd H a o') ∧ Cn C base A τ (st.set n cc) σ (upd H a o') := by
  have hm : MutC (H a) := by rw [h]; exact mu
  have hk := r _ rfl
  refine ⟨Gr.write (n := n) hm (List.mem_of_getElem? ha) ?_, c.write ha hm hk⟩
  obtain ⟨o', e, t⟩ := hk.ex
  rw [upd_same] at e; cases e; exact t
/-- d.clear() -/
def rClear : V → List V → Hp → VK → Prop := fun x xs H Q => ∃ a, x = .ref a ∧ xs = [] ∧ ((∃ es, H a = some (.dK es) ∧ Q .non (upd H a (.dK []))) ∨ ∃ es, H a = some (.dT es) ∧ Q .non (upd H a (.dT [])))
theorem mt_clear : MtR X "dict.clear" rClear := by
  intro pins s σ H x xs v us Q I rx rs h
  obtain ⟨a, rfl, rfl, h⟩ := h
  cases (show v = Value.ref a from rx)
  cases rs
  rcases h with ⟨es, ha, q⟩ | ⟨es, ha, q⟩
  · obtain ⟨z, hs, vs, rel, dd⟩ := dk_of I.hok ha
    obtain ⟨en, ep, hraw, hsz, _⟩ := dd.raw
    have hl : es.length = vs.length := Paired.length rel
    refine call_meetsIn PySem.F.slot_dict_clear hraw.typeIs PySem.F.entry_dict_clear (PySem.F.args_dict_clear_1 _) (meets_dict_clear_raw a) ⟨en, ep, hraw, by omega, fun h' hr hb => ?_⟩
    obtain ⟨o, ho, hx, hd⟩ := hr
    exact ⟨.non, upd H a (.dK []), I.write (e := a) (t' := s.toks) (by rw [ha]; trivial) (.inl rfl) (fun b u hne hu => (hb.2 b hne).trans hu) ⟨_, ho⟩ ⟨Nat.zero_le _, hs, [], .nil, o, #[], ep + 1, ho, hx, hd, fun _ h => by simp at h, .nil, .nil⟩, rfl, q⟩
  · obtain ⟨z, hs, vs, rel, dd⟩ := dt_rd I.hok (.inl ha)
    obtain ⟨en, ep, hraw, hsz, _⟩ := dd.raw
    have hl : es.length = vs.length := Paired.length rel
    refine call_meetsIn PySem.F.slot_dict_clear hraw.typeIs PySem.F.entry_dict_clear (PySem.F.args_dict_clear_1 _) (meets_dict_clear_raw a) ⟨en, ep, hraw, by omega, fun h' hr hb => ?_⟩
    obtain ⟨o, ho, hx, hd⟩ := hr
    exact ⟨.non, upd H a (.dT []), I.write (e := a) (t' := s.toks) (by rw [ha]; trivial) (.inl rfl) (fun b u hne hu => (hb.2 b hne).trans hu) ⟨_, ho⟩ ⟨Nat.zero_le _, hs, [], .nil, o, #[], ep + 1, ho, hx, hd, rfl, .nil⟩, rfl, q⟩
theorem m_clear (k : Okc X C W) : MtR X "dict.clear" (rMeth C base .clear) := by
  refine mtr_imp mt_clear fun x xs H Q h => ?_
  obtain ⟨A, τ, σ, st, o, us, mk, st', c, rx, rs, e, q⟩ := h
  match us, rs, e with
  | [], rs, e =>
    have e0 : (dctAt st o).map (fun p => (Mk.u (.d .none), st.set p.1 (.dct p.2.1 []))) = some (mk, st') := e
    rw [Option.map_eq_some_iff] at e0
    obtain ⟨⟨n, t, kvs⟩, e1, e2⟩ := e0
    cases e2
    cases rs
    obtain ⟨h3, a, rfl, ha, cr⟩ := dctAt_run c e1 rx
    cases t with
    | false =>
      obtain ⟨es, hes, kr⟩ := cr
      obtain ⟨g, c2⟩ := dct_write (o' := .dK []) (cc := .dct false []) c ha hes trivial fun B eB => ⟨_, upd_same, .nil⟩
      exact ⟨a, rfl, rfl, .inl ⟨es, hes, q _ _ _ g c2 (.u (.d .non))⟩⟩
    | true =>
      obtain ⟨es, hes, kr⟩ := cr
      obtain ⟨g, c2⟩ := dct_write (o' := .dT []) (cc := .dct true []) c ha hes trivial fun B eB => ⟨_, upd_same, .nil⟩
      exact ⟨a, rfl, rfl, .inr ⟨es, hes, q _ _ _ g c2 (.u (.d .non))⟩⟩
theorem get_ty (k : Okc X C W) {A : List Addr} {τ : Vars} {σ : L2.St} {st : Store} {H : Hp} {v : V} {o : U} (c : Cn C base A τ st σ H) (r : RpU C A H v o) (e : (dctAtN st o).map (fun _ => ()) = some ()) : tyV X.K "dict" v H := by
  have e' : (dctAtN st o).map (fun _ => ()) = some () := e
  rw [Option.map_eq_some_iff] at e'
  obtain ⟨n, e1, _⟩ := e'
  unfold dctAtN at e1
  split at e1
  · split at e1
    · rename_i m t kvs q
      cases r with
      | @cell a _ ha =>
        obtain ⟨b, h1, h2⟩ := c.cells _ _ q
        rw [ha] at h1; cases h1
        cases t with
        | false => obtain ⟨es, h3, _⟩ := h2; exact .inr (.inr (.inl ⟨rfl, .inl ⟨es, h3⟩⟩))
        | true => obtain ⟨es, h3, _⟩ := h2; exact .inr (.inr (.inl ⟨rfl, .inr ⟨es, h3⟩⟩))
    · cases e1
  · cases e1
theorem join_str {st : Store} {o : U} (e : mty .join st o = some ()) : ∃ z, o = .d (.str z) := by
  cases o with
  | d x =>
    cases x with
    | str z => exact ⟨z, rfl⟩
    | _ => cases e
  | _ => cases e
/-- what a method's rule needs -/
structure MFacts (X : Cx) (C : Cc) (base : Nat) (m : Meth) where
  T : String
  id : String
  pa : PlainAttrs T
  slot : Slot T (methName m) id
  hty : typeOf (.builtin id) = pure (.type "method_descriptor")
  rule : MtR X id (rMeth C base m)
  ty : ∀ {A : List Addr} {τ : Vars} {σ : L2.St} {st : Store} {H : Hp} {v : V} {o : U}, Cn C base A τ st σ H → RpU C A H v o → mty m st o = some () → tyV X.K T v H
theorem ty_list (k : Okc X C W) {A : List Addr} {τ : Vars} {σ : L2.St} {st : Store} {H : Hp} {v : V} {o : U} (c : Cn C base A τ st σ H) (r : RpU C A H v o) (e : ((lstOf st o).map fun _ => ()) = some ()) : tyV X.K "list" v H := by
  rw [Option.map_eq_some_iff] at e
  obtain ⟨us, e, _⟩ := e
  obtain ⟨a, vs, rfl, s1, _⟩ := lst_run c e r
  exact .inl ⟨rfl, vs, k.K ▸ s1⟩
noncomputable def mfacts (k : Okc X C W) : ∀ m, MFacts X C base m
  | .append => ⟨"list", _, PySem.F.plainAttrs_list, PySem.F.slot_list_append, PySem.F.type_list_append, m_append k, fun c r e => ty_list k c r e⟩
  | .extend => ⟨"list", _, PySem.F.plainAttrs_list, PySem.F.slot_list_extend, PySem.F.type_list_extend, m_extend k, fun c r e => ty_list k c r e⟩
  | .popL => ⟨"list", _, PySem.F.plainAttrs_list, PySem.F.slot_list_pop, PySem.F.type_list_pop, m_pop k, fun c r e => ty_list k c r e⟩
  | .join => ⟨"str", _, PySem.F.plainAttrs_str, PySem.F.slot_str_join, PySem.F.type_str_join, m_join k, fun {A τ σ st H v o} c r e => by
      obtain ⟨z, rfl⟩ := join_str e
      rw [rstr r]; rfl⟩
  | .count => ⟨"list", _, PySem.F.plainAttrs_list, PySem.F.slot_list_count, PySem.F.type_list_count, m_count k, fun c r e => ty_list k c r e⟩
  | .lindex => ⟨"list", _, PySem.F.plainAttrs_list, PySem.F.slot_list_index, PySem.F.type_list_index, m_lindex k, fun c r e => ty_list k c r e⟩
  | .get => ⟨"dict", _, PySem.F.plainAttrs_dict, PySem.F.slot_dict_get, PySem.F.type_dict_get, m_get k, fun c r e => get_ty k c r e⟩
  | .clear => ⟨"dict", _, PySem.F.plainAttrs_dict, PySem.F.slot_dict_clear, PySem.F.type_dict_clear, m_clear k, fun c r e => get_ty k c r e⟩
  | .sindex => ⟨"str", _, PySem.F.plainAttrs_str, PySem.F.slot_str_index, PySem.F.type_str_index, m_sindex k, fun {A τ σ st H v o} c r e => by
      obtain ⟨z, rfl⟩ := join_str (st := st) (o := o) e
      rw [rstr r]; rfl⟩
  | .sfind => ⟨"str", _, PySem.F.plainAttrs_str, PySem.F.slot_str_find, PySem.F.type_str_find, m_sfind k, fun {A τ σ st H v o} c r e => by
      obtain ⟨z, rfl⟩ := join_str (st := st) (o := o) e
      rw [rstr r]; rfl⟩
theorem Aft.at {R : List Addr → Hp → V → U → Prop} {A A1 : List Addr} {H H1 : Hp} {τ : Vars} {σ : L2.St} {r : Res U} {Q : VK} (h : Aft C base W R A H τ σ r Q) (g : Gr A H A1 H1) : Aft C base W R A1 H1 τ σ r Q := h.gr g
theorem few_of {env : Env} {es : List Expr} {pos : Pos} (h : (backTo pos (starEach es env)).any (·.1) = false) (hf : es.length < 20) : ((backTo pos (starEach es env)).all (fun x => !x.1) && (backToKw pos (keywordEach [] env)).all (fun x => x.1.isSome)
      && decide (es.length + ([] : List Keyword).length + (if ([] : List Keyword).isEmpty then 0 else 1) < 30)) = true := by
  have h1 : (backTo pos (starEach es env)).all (fun x => !x.1) = true := by
    rw [List.all_eq_true]
    intro x hx
    rw [List.any_eq_false] at h
    simpa using h x hx
  rw [h1]
  have h2 : decide (es.length + ([] : List Keyword).length + (if ([] : List Keyword).isEmpty then 0 else 1) < 30) = true := decide_eq_true (by simp; omega)
  rw [h2]
  rfl
theorem meth_end (k : Okc X C W) {m : Meth} {fr : Bool} {A : List Addr} {τ : Vars} {σ : L2.St} {st : Store} {H : Hp} {v : V} {o : U} {vs : List V} {us : List U} {Q : VK} (c : Cn C base A τ st σ H) (r : RpU C A H v o) (rs : RpUs C A H vs us)
    (z : Aft C base W (RU C) A H τ σ (Res.opt (meth base m st o us) fun p => fin fr p.2 p.1) Q) : rMeth C base m v vs H (QF Q) := by
  obtain ⟨⟨mk, st'⟩, e, z⟩ := opt_run z
  exact ⟨A, τ, σ, st, o, us, mk, st', c, r, rs, e, fun v H1 H' g c1 hm => fin_run c1 (z.gr g) hm⟩
theorem se_me (k : Okc X C W) {m : Meth} {fr : Bool} {o : Expr} {mo : Mn} {es : List Expr} {ms : List Mn} {apos pos : Pos} (ho : SE X C base W o mo) (h : SEs X C base W es ms) (hp : plainE o = true) (hl : (apos.endLine == pos.line) = true) (hf : es.length < 20) :
    SE X C base W (.Call (.Attribute o (methName m) apos) es [] pos) (.of fun τ st => (mo.val τ st).bind fun u st1 => .opt (mty m st1 u) fun _ => (evs ms τ st1).bind fun us st2 => .opt (meth base m st2 u us) fun p => fin fr p.2 p.1) := by
  have F := mfacts (base := base) k m
  cases h with
  | nil =>
    refine .of k (pe_fz (pe_bm0 F.pa F.slot F.hty F.rule ho.val (base_plain hp) hl) fun σ H Q z => ?_) fun _ => rfl
    refine Rd.imp (Rd.bind z) fun v H1 ⟨A1, τ, st1, u, c, r, z⟩ => ?_
    obtain ⟨_, e1, z⟩ := opt_run z
    exact ⟨F.ty c r e1, meth_end k c r .nil z⟩
  | cons a b t =>
    refine .of k (pe_fz (pe_bm F.pa F.slot F.hty F.rule ho.val (pa_evs (.cons a b t)) (base_plain hp) (few_of (star_all (.cons a b t) pos) hf) hl (star_cons b) (star_all t pos)) fun σ H Q z => ?_) fun _ => rfl
    refine Rd.imp (Rd.bind z) fun v H1 ⟨A1, τ, st1, u, c, r, z⟩ => ?_
    obtain ⟨_, e1, z⟩ := opt_run z
    refine ⟨F.ty c r e1, ?_⟩
    refine Rd.imp (Aft.next c z) fun vs H2 ⟨A2, st2, us, g, c2, rs, z⟩ => ?_
    exact meth_end k c2 (r.gr g) rs z

/-! isinstance of an exception -/
/-- what isinstance asks of a class -/
def call_kept {D : Addr} (E : ExcC X.K D) : CallR X (.builtin "isinstance") (fun xs H Q => ∃ (a : Addr) (c : V) (u : Value) (b : Bool), xs = [.ref a, c] ∧ H a = some (ExK (.ref D) a) ∧ ClsV c u ∧ PySem.W.kitOne X.K (.ref D) u = some b ∧ Q (.bl b) H) := by
  intro pins s σ H xs us Q I r h
  obtain ⟨a, c, u, b, rfl, ha, k, e, q⟩ := h
  obtain ⟨u1, u2, rfl, r1, r2⟩ := vals2 r
  cases r1
  have e2 := k.eq r2
  subst e2
  obtain ⟨⟨⟨oc, od, dat, sl⟩, vs, g1, g2, g3, g4⟩, _⟩ := I.hok a _ ha
  simp only at g2 g3 g4
  subst g2 g3 g4
  exact PySem.W.kia_one (PySem.W.handS_kitx_exc E.hg E.hk E.hs E.hd E.ha E.hn E.ht E.hm) I.kIn (show PySem.W.InstAt s.heap a _ D none from ⟨g1, rfl, rfl, trivial⟩) e (fun z => nomatch z) fun tk => ⟨.bl b, H, I.tok tk, rfl, q⟩
def call_keptT {D : Addr} (E : ExcC X.K D) : CallR X (.builtin "isinstance") (fun xs H Q => ∃ (a tp : Addr) (cs : List V) (ws : List Value) (b : Bool), xs = [.ref a, .ref tp] ∧ H a = some (ExK (.ref D) a) ∧ H tp = some (.tup cs) ∧ Paired ClsV cs ws ∧ PySem.W.kitAny X.K (.ref D) ws = some b ∧ Q (.bl b) H) := by
  intro pins s σ H xs us Q I r h
  obtain ⟨a, tp, cs, ws, b, rfl, ha, hT, k, e, q⟩ := h
  obtain ⟨u1, u2, rfl, r1, r2⟩ := vals2 r
  cases r1
  cases r2
  obtain ⟨⟨⟨oc, od, dat, sl⟩, vs, g1, g2, g3, g4⟩, _⟩ := I.hok a _ ha
  simp only at g2 g3 g4
  subst g2 g3 g4
  obtain ⟨_, its, rv, ot, h1, h2, n, h3⟩ := (show ObjOk X.prog X.w H s.heap tp (.tup cs) from I.hok tp _ hT)
  have e3 := ClsV.all k rv
  subst e3
  obtain ⟨tc, td, tt, tl⟩ := ot
  simp only at h2 h3
  subst h2 h3
  exact PySem.W.kia_tup (PySem.W.handS_kitx_exc E.hg E.hk E.hs E.hd E.ha E.hn E.ht E.hm) I.kIn (show PySem.W.InstAt s.heap a _ D none from ⟨g1, rfl, rfl, trivial⟩) h1 e (fun z => nomatch z) fun tk => ⟨.bl b, H, I.tok tk, rfl, q⟩

/-! calls of defs -/
def CallS (X : Cx) (C : Cc) (base : Nat) (W : Z.WX) (a : Addr) (f : List U → Store → Res U) : Prop :=
  ∀ (pins : List (Addr × Obj)) (s : Shared) (σ : L2.St) (H : Hp) (vs : List V) (us : List Value) (Q : VK), Inv X pins σ H s → Vals vs us → (∃ A τ st xs, Cn C base A τ st σ H ∧ RpUs C A H vs xs ∧ Aft C base W (RU C) A H τ σ (f xs st) Q) →
    wpAny (model X.prog X.w) X.A (call (.ref a) us) (EP X pins σ Q) X.xe s
theorem se_call (k : Okc X C W) {f : List U → Store → Res U} {a : Addr} {x : Str} {es : List Expr} {ms : List Mn} {p pos : Pos} (hc : CallS X C base W a f) (hg : Gl X x) (hm : X.mg x = some (.ref a)) (hk : PySem.W.keepIn X.K (.ref a) = true) (h : SEs X C base W es ms) (hd : (x == ("__debug__" : Str)) = false) :
    SE X C base W (.Call (.Name x p) es [] pos) (.of fun τ st => (evs ms τ st).bind fun us st1 => f us st1) := by
  refine .of k ⟨fun pins s σ H Q I z => ?_⟩ fun _ => rfl
  refine wpAny_Call_Name_kw (ld_glob I hg hm ?_ hd)
  cases h with
  | nil =>
    obtain ⟨A, τ, st, c, z⟩ := z
    exact PySem.W.callWith_K0 (first := []) I.kIn hk (hc pins s σ H [] [] Q I .nil ⟨A, τ, st, [], c, .nil, z⟩)
  | cons a b t =>
    refine PySem.W.callWith_K (first := []) (h₀ := X.base) I.ok.mod.kin hk (thn ((pa_evs (.cons a b t)).run pos pins s σ H _ I (Rd.bind z)) fun us s1 ⟨vs, H1, I1, r1, A1, τ, st1, xs, c1, rx, z1⟩ => ⟨I1.kIn, ?_⟩) (star_cons b) (star_all t pos)
    exact hc pins s1 σ H1 vs us Q I1 r1 ⟨A1, τ, st1, xs, c1, rx, z1⟩
/-- a call of what stands in a list -/
theorem se_callv (k : Okc X C W) {g : Nat → List U → Store → Res U} {fe ix : Expr} {me : Mn} {es : List Expr} {ms : List Mn} {p pos : Pos} (hc : ∀ f a, C.fa f = some a → CallS X C base W a (g f) ∧ PySem.W.keepIn X.K (.ref a) = true) (hf : SE X C base W (.Subscript fe ix p) me) (h : SEs X C base W es ms) (hn : es ≠ []) :
    SE X C base W (.Call (.Subscript fe ix p) es [] pos) (.of fun τ st => (me.val τ st).bind (fnU fun f st1 => (evs ms τ st1).bind fun us st2 => g f us st2)) := by
  refine .of k ⟨fun pins s σ H Q I z => ?_⟩ fun _ => rfl
  have e0 : eval (.Call (.Subscript fe ix p) es [] pos) X.env = (do callWith pos (← eval (.Subscript fe ix p) X.env) [] (backTo pos (starEach es X.env)) (backToKw pos (keywordEach [] X.env))) := rfl
  rw [e0]
  refine wpAny_bind (thn (hf.val.run pins s σ H _ I (Rd.bind z)) fun u s1 ⟨v, H1, I1, rv, A1, τ, st1, x, c1, rx, z1⟩ => ?_)
  unfold fnU at z1
  split at z1
  · rename_i f
    cases rx with
    | fn hfa =>
      cases rv
      obtain ⟨hcall, hk⟩ := hc f _ hfa
      cases h with
      | nil => exact absurd rfl hn
      | cons a b t =>
        refine PySem.W.callWith_K (first := []) (h₀ := X.base) I1.ok.mod.kin hk (thn ((pa_evs (.cons a b t)).run pos pins s1 σ H1 _ I1 (Aft.next c1 z1)) fun us s2 ⟨vs, H2, I2, r2, A2, st2, xs, g2, c2, rx2, z2⟩ => ⟨I2.kIn, ?_⟩) (star_cons b) (star_all t pos)
        exact hcall pins s2 σ H2 vs us Q I2 r2 ⟨A2, τ, st2, xs, c2, rx2, z2⟩
  · exact z1.elim
end
end Z
/-! ZU: a dict that is locked while an expression, or a statement, runs. -/
namespace Z
open PySem PySem.Spec PyProof.Rows L2
/-- the object at d is another one now: no list, no tuple, no exception -/
structure Ch (H H' : Hp) (d : Addr) (o : Obj) (u : HO) : Prop where
  ne : ∀ b x, b ≠ d → H b = some x → H' b = some x
  at_ : H d = some (.frz o u)
  nw : H' d = some u
  du : (∃ es, u = .dK es) ∨ ∃ es, u = .dT es
section
variable {H H' : Hp} {d : Addr} {o : Obj} {u : HO}
theorem Ch.lst (h : Ch H H' d o u) {a : Addr} {q : Obj} {vs : List V} (e : H a = some (.frz q (.lst vs))) : H' a = some (.frz q (.lst vs)) := by
  refine h.ne a _ (fun z => ?_) e
  rw [z, h.at_] at e
  cases e
  rcases h.du with ⟨es, q⟩ | ⟨es, q⟩ <;> cases q
theorem Ch.tup (h : Ch H H' d o u) {a : Addr} {vs : List V} (e : H a = some (.tup vs)) : H' a = some (.tup vs) := by
  refine h.ne a _ (fun z => ?_) e
  rw [z, h.at_] at e
  cases e
mutual
theorem Rp.ch {K : PySem.W.Frag} {w : World} (h : Ch H H' d o u) : ∀ {x : PyData} {v : V}, ndD x = true → Rp K w H v x → Rp K w H' v x
  | .none, _, _, r => by cases r; exact .non
  | .bool b, _, _, r => by cases r; exact .bl b
  | .int i, _, _, r => by cases r; exact .int i
  | .str x, _, _, r => by cases r; exact .str x
  | .list xs, _, n, r => by
    cases r with
    | lst a b =>
      refine .lst ?_ (RpAll.ch h (by simpa [ndD] using n) b)
      rcases a with ⟨q, a⟩ | a
      · exact .inl ⟨q, h.lst a⟩
      · exact .inr a
  | .tuple xs, _, n, r => by cases r with | tup a b => exact .tup (h.tup a) (RpAll.ch h (by simpa [ndD] using n) b)
  | .dict kvs, _, n, r => by simp [ndD] at n
theorem RpAll.ch {K : PySem.W.Frag} {w : World} (h : Ch H H' d o u) : ∀ {xs : List PyData} {vs : List V}, ndDs xs = true → RpAll K w H vs xs → RpAll K w H' vs xs
  | [], _, _, r => by cases r; exact .nil
  | x :: xs, _, n, r => by
    have n' : ndD x = true ∧ ndDs xs = true := by simpa [ndDs] using n
    cases r with
    | cons a b => exact .cons (Rp.ch h n'.1 a) (RpAll.ch h n'.2 b)
end
theorem RpU.ch {C : Cc} {A : List Addr} (h : Ch H H' d o u) {v : V} {x : U} (n : ndU x = true) (r : RpU C A H v x) : RpU C A H' v x := by
  cases r with
  | d r => exact .d (r.ch h n)
  | cell r => exact .cell r
  | fn r => exact .fn r
  | exc r1 r2 =>
    refine .exc r1 (h.ne _ _ (fun z => ?_) r2)
    rw [z, h.at_] at r2
    cases r2
theorem RpUs.ch {C : Cc} {A : List Addr} (h : Ch H H' d o u) {us : List U} : ∀ {vs : List V}, us.all ndU = true → RpUs C A H vs us → RpUs C A H' vs us := by
  induction us with
  | nil => intro vs _ r; cases r; exact .nil
  | cons x r ih =>
    intro vs n r
    simp only [List.all_cons, Bool.and_eq_true] at n
    cases r with
    | cons a b => exact .cons (a.ch h n.1) (ih n.2 b)
theorem KvG.ch {κ : Type} {C : Cc} {A : List Addr} {sh : κ → PyData} (h : Ch H H' d o u) {kvs : List (PyData × U)} : ∀ {es : List (κ × V)}, (kvs.all fun kv => ndU kv.2) = true → Paired (fun (e : κ × V) (kv : PyData × U) => kv.1 = sh e.1 ∧ RpU C A H e.2 kv.2) es kvs →
    Paired (fun (e : κ × V) (kv : PyData × U) => kv.1 = sh e.1 ∧ RpU C A H' e.2 kv.2) es kvs := by
  induction kvs with
  | nil => intro es _ r; cases r; exact .nil
  | cons x r ih =>
    intro es n r
    simp only [List.all_cons, Bool.and_eq_true] at n
    cases r with
    | cons a b => exact .cons ⟨a.1, a.2.ch h n.1⟩ (ih n.2 b)
theorem CellR.ch {C : Cc} {A : List Addr} (h : Ch H H' d o u) {a : Addr} {c : Cont} (n : ndC c = true) (hd : a ≠ d) (r : CellR C A H a c) : CellR C A H' a c := by
  cases c with
  | lst us => obtain ⟨vs, h1, h2⟩ := r; exact ⟨vs, h.ne _ _ hd h1, h2.ch h n⟩
  | dct t kvs =>
    cases t with
    | false => obtain ⟨es, h1, h2⟩ := r; exact ⟨es, h.ne _ _ hd h1, KvG.ch (sh := kvD) h n h2⟩
    | true => obtain ⟨es, h1, h2⟩ := r; exact ⟨es, h.ne _ _ hd h1, KvG.ch (sh := fun k : List Key => .tuple (k.map kvD)) h n h2⟩
  | fdct t kvs =>
    cases t with
    | false => obtain ⟨es, q, h1, h2⟩ := r; exact ⟨es, q, h.ne _ _ hd h1, KvG.ch (sh := kvD) h n h2⟩
    | true => obtain ⟨es, q, h1, h2⟩ := r; exact ⟨es, q, h.ne _ _ hd h1, KvG.ch (sh := fun k : List Key => .tuple (k.map kvD)) h n h2⟩
  | obj c fs =>
    obtain ⟨b, dx, gs, h1, h2, h3⟩ := r
    refine ⟨b, dx, gs, h1, h.ne _ _ hd h2, ?_⟩
    clear h2
    have n' : (fs.all fun kv => ndU kv.2) = true := n
    induction h3 with
    | nil => exact .nil
    | cons a b ih =>
      simp only [List.all_cons, Bool.and_eq_true] at n'
      exact .cons ⟨a.1, a.2.ch h n'.1⟩ (ih n'.2 n'.2)
  | dead => obtain ⟨x, h1, h2⟩ := r; exact ⟨x, h.ne _ _ hd h1, h2⟩
end
section
variable {X : Cx} {C : Cc} {base : Nat} {W : Z.WX}
/-- unlocked behind -/
theorem Cn.unlG {A0 A : List Addr} {τ : Vars} {st st1 : Store} {σ : L2.St} {H0 H : Hp} {n : Nat} {d : Addr} {o : Obj} {u : HO} (g : Gr A0 (upd H0 d (.frz o u)) A H) (hd0 : H0 d = some u) (mu : (∃ es, u = .dK es) ∨ ∃ es, u = .dT es) (hA0 : A0[n]? = some d)
    (c : Cn C base A τ st σ H) (s0 : SysT C H0) (e : unlS n st = some st1) (hv : Ch H (upd H d u) d o u → Gr A0 H0 A (upd H d u) → ∀ (i : Nat) (x : U), τ[i]? = some (some x) → ∃ v, σ[i]? = some (some v) ∧ RpU C A (upd H d u) v x) : H d = some (.frz o u) ∧ Ch H (upd H d u) d o u ∧ Gr A0 H0 A (upd H d u) ∧ Cn C base A τ st1 σ (upd H d u) := by
  have mem : d ∈ A0 := List.mem_of_getElem? hA0
  have nf : NTbl u := by rcases mu with ⟨es, rfl⟩ | ⟨es, rfl⟩ <;> exact fun _ e => nomatch e
  have nz : ¬ Fz u := by rcases mu with ⟨es, rfl⟩ | ⟨es, rfl⟩ <;> exact fun z => z
  have hd : H d = some (.frz o u) := g.fz d _ trivial upd_same
  have hA : A[n]? = some d := by
    obtain ⟨t, rfl⟩ := g.pre
    rw [List.getElem?_append_left (List.getElem?_eq_some_iff.mp hA0).1]; exact hA0
  have ch : Ch H (upd H d u) d o u := ⟨fun b x hb hx => by rw [upd_ne hb]; exact hx, hd, upd_same, mu⟩
  unfold unlS at e
  split at e
  rotate_left
  · cases e
  rename_i ns
  split at e
  rotate_left
  · cases e
  rename_i t kvs hst
  cases e
  have gr : Gr A0 H0 A (upd H d u) := by
    refine ⟨g.pre, fun a ha hna x hx => ?_, fun b x hx t q => ?_, fun b x hx t => ?_⟩
    · have : a ≠ d := fun z => hna (z ▸ mem)
      exact g.new a ha hna x (by rw [upd_ne this]; exact hx)
    · have hb : b ≠ d := by
        rintro rfl
        rcases q with q | q
        · exact q mem
        · rw [hd0] at hx; cases hx; exact nz q
      rw [upd_ne hb]
      exact g.ext b x (by rw [upd_ne hb]; exact hx) t q
    · by_cases hb : b = d
      · subst hb; exact ⟨u, upd_same, nf⟩
      · obtain ⟨y, h1, h2⟩ := g.dom b x (by rw [upd_ne hb]; exact hx) t
        exact ⟨y, by rw [upd_ne hb]; exact h1, h2⟩
  have tbl : ∀ b ps, H b = some (.tbl ps) → upd H d u b = some (.tbl ps) := fun b ps h => by
    have : b ≠ d := fun z => by rw [z, hd] at h; cases h
    rw [upd_ne this]; exact h
  have sys : SysT C (upd H d u) := by
    refine ⟨?_, fun p hp => ?_⟩
    · rcases s0.sys with ⟨q, h⟩ | h
      · exact .inl ⟨q, gr.fz _ _ trivial h⟩
      · exact .inr h
    · obtain ⟨ps, h1, h2, h3⟩ := c.sys.tab p hp
      refine ⟨ps, tbl _ _ h1, h2, fun pos cv hc => ?_⟩
      obtain ⟨cc, e1, e2⟩ := h3 pos cv hc
      refine ⟨cc, e1, ?_⟩
      have : cc ≠ d := fun z => by rw [z, hd] at e2; cases e2
      rw [upd_ne this]; exact e2
  refine ⟨hd, ch, gr, by simpa using c.len, c.nd, by simpa using c.le, fun m x ex => ?_, c.vlen, fun i x ex => ?_, sys⟩
  · by_cases hmn : n = m
    · subst hmn
      have hlt : n < st.length := (List.getElem?_eq_some_iff.mp hst).1
      rw [List.getElem?_set_self hlt] at ex
      cases ex
      obtain ⟨a, h1, h2⟩ := c.cells n _ hst
      rw [hA] at h1
      cases h1
      refine ⟨d, hA, ?_⟩
      have nk : (kvs.all fun kv => ndU kv.2) = true := List.all_eq_true.mp ns _ (List.mem_of_getElem? hst)
      cases t with
      | false =>
        obtain ⟨es, q, h3, h4⟩ := h2
        rw [hd] at h3
        cases h3
        exact ⟨es, upd_same, KvG.ch (sh := kvD) ch nk h4⟩
      | true =>
        obtain ⟨es, q, h3, h4⟩ := h2
        rw [hd] at h3
        cases h3
        exact ⟨es, upd_same, KvG.ch (sh := fun k : List Key => .tuple (k.map kvD)) ch nk h4⟩
    · rw [List.getElem?_set_ne hmn] at ex
      obtain ⟨a, h1, h2⟩ := c.cells m x ex
      have had : a ≠ d := by
        rintro rfl
        exact hmn ((List.getElem?_inj (List.getElem?_eq_some_iff.mp hA).1 c.nd).mp (hA.trans h1.symm))
      exact ⟨a, h1, h2.ch ch (List.all_eq_true.mp ns _ (List.mem_of_getElem? ex)) had⟩
  · exact hv ch gr i x ex
theorem Cn.unl {A0 A : List Addr} {τ : Vars} {st st1 : Store} {σ : L2.St} {H0 H : Hp} {n : Nat} {d : Addr} {o : Obj} {u : HO} (g : Gr A0 (upd H0 d (.frz o u)) A H) (hd0 : H0 d = some u) (mu : (∃ es, u = .dK es) ∨ ∃ es, u = .dT es) (hA0 : A0[n]? = some d)
    (c : Cn C base A τ st σ H) (s0 : SysT C H0) (e : unlK τ n st = some st1) : H d = some (.frz o u) ∧ Ch H (upd H d u) d o u ∧ Gr A0 H0 A (upd H d u) ∧ Cn C base A τ st1 σ (upd H d u) := by
  unfold unlK at e
  split at e
  · rename_i hn
    rw [Bool.and_eq_true] at hn
    obtain ⟨nv, ns⟩ := hn
    refine c.unlG g hd0 mu hA0 s0 (by unfold unlS; rw [if_pos ns]; exact e) fun ch _ i x ex => ?_
    obtain ⟨v, h1, h2⟩ := c.vars i x ex
    have nx : ndU x = true := by
      have := List.all_eq_true.mp nv _ (List.mem_of_getElem? ex)
      exact this
    exact ⟨v, h1, h2.ch ch nx⟩
  · cases e
/-- what is locked -/
theorem lkAt_run {A : List Addr} {τ : Vars} {σ : L2.St} {st : Store} {H : Hp} {i : Nat} {p : Nat × Bool × List (PyData × U)} (c : Cn C base A τ st σ H) (e : lkAt τ st i = some p) :
    ∃ d u, A[p.1]? = some d ∧ H d = some u ∧ ((∃ es, u = .dK es) ∨ ∃ es, u = .dT es) ∧ MutC (some u) ∧ ∀ o, Gr A H A (upd H d (.frz o u)) ∧ Cn C base A τ (st.set p.1 (.fdct p.2.1 p.2.2)) σ (upd H d (.frz o u)) := by
  unfold lkAt at e
  split at e
  rotate_left
  · cases e
  rename_i u hu
  obtain ⟨v, h1, r⟩ := c.vars i u hu
  obtain ⟨h3, a, rfl, ha, cr⟩ := dctAt_run c e r
  obtain ⟨n, t, kvs⟩ := p
  have fz : ∀ {x : HO}, MutC (some x) → H a = some x → ∀ q b o', Fz o' → H b = some o' → upd H a (.frz q x) b = some o' := by
    intro x mu ho q b o' f e
    have : b ≠ a := by
      rintro rfl
      rw [ho] at e
      cases e
      cases x <;> first | exact f | exact mu
    rw [upd_ne this]; exact e
  cases t with
  | false =>
    obtain ⟨es, hes, kr⟩ := cr
    exact ⟨a, .dK es, ha, hes, .inl ⟨es, rfl⟩, trivial, fun o => dct_write c ha hes trivial fun B eB => by
      subst eB
      exact ⟨es, o, upd_same, Paired.mapP kr fun _ _ z => ⟨z.1, z.2.mono (fz (x := .dK es) trivial hes o) List.prefix_rfl⟩⟩⟩
  | true =>
    obtain ⟨es, hes, kr⟩ := cr
    exact ⟨a, .dT es, ha, hes, .inr ⟨es, rfl⟩, trivial, fun o => dct_write c ha hes trivial fun B eB => by
      subst eB
      exact ⟨es, o, upd_same, Paired.mapP kr fun _ _ z => ⟨z.1, z.2.mono (fz (x := .dT es) trivial hes o) List.prefix_rfl⟩⟩⟩
theorem se_lku (k : Okc X C W) {i : Nat} {a : Expr} {m : Mn} (ha : SE X C base W a m) (hp : PlainT X a) :
    SE X C base W a (.of fun τ st => .opt (lkAt τ st i) fun p => (m.val τ (st.set p.1 (.fdct p.2.1 p.2.2))).nox.bind fun u st1 => if ndU u then .opt (unlS p.1 st1) fun st2 => .ok u st2 else .bad) := by
  refine .of k (pe_imp (pe_lock ha.val) fun σ H Q q => ?_) hp
  obtain ⟨A, τ, st, c, q⟩ := q
  obtain ⟨p, e1, q⟩ := opt_run q
  obtain ⟨d, u, hA, hd, du, mu, lk⟩ := lkAt_run c e1
  refine ⟨d, u, hd, mu.mut, fun o => ⟨A, τ, _, (lk o).2, ?_⟩⟩
  have g0 := (lk o).1
  cases hm : m.val τ (st.set p.1 (.fdct p.2.1 p.2.2)) with
  | exc x st1 => rw [hm] at q; exact q.elim
  | bad => rw [hm] at q; exact q.elim
  | ok x st1 =>
    rw [hm] at q
    intro v H2 A2 g c2 r
    have q : Aft C base W (RU C) A H τ σ (if ndU x then .opt (unlS p.1 st1) fun st2 => .ok x st2 else .bad) Q := q
    by_cases hn : ndU x = true
    · rw [if_pos hn] at q
      obtain ⟨st2, e2, q⟩ := opt_run q
      obtain ⟨h1, ch, g2, c3⟩ := c2.unlG g hd du hA c.sys e2 fun _ g3 i x ex => (c.vars i x ex).imp fun v h => ⟨h.1, h.2.gr g3⟩
      exact ⟨h1, q v _ A2 g2 c3 (r.ch ch hn)⟩
    · rw [if_neg hn] at q; exact q.elim
end
end Z
/-! ZJ: d.items() of tuple keys. -/
namespace Z
open PySem PySem.Spec PyProof.Rows L2
/-- the pairs of a dict of tuple keys, each a new tuple -/
def ItiT (d : Addr) (o : Obj) (kvs : List (List Key × V)) : It :=
  ⟨fun i H => H d = some (.frz o (.dT kvs)) ∧ i < kvs.length, fun i H x H' => ∃ T k v q, kvs[i]? = some (k, v) ∧ x = .ref T ∧ H T = none ∧ H q = some (.tup (k.map kV)) ∧ H' = upd H T (.tup [.ref q, v]), fun i H => H d = some (.frz o (.dT kvs)) ∧ kvs.length ≤ i⟩
section
variable {X : Cx} {pins : List (Addr × Obj)} {σ : L2.St} {H : Hp} {s : Shared} {d : Addr} {o : Obj}
theorem frzT2 {kvs : List (List Key × V)} (I : Inv X pins σ H s) (h : H d = some (.frz o (.dT kvs))) :
    (d == sysModules) = false ∧ s.heap.get? d = some o ∧ o.ExactDict ∧ ∃ (es : Array DictEntry) (ep : Nat), o.data = .dict es ep ∧ es.size = kvs.length ∧
      ∀ (i : Nat) (k : List Key) (v : V), kvs[i]? = some (k, v) → ∃ (en : DictEntry) (q : Addr), es[i]? = some en ∧ en.key = .ref q ∧ H q = some (.tup (k.map kV)) ∧ RelV v en.val := by
  obtain ⟨hd, z, hs, xs, pr, o', es, ep, ho, hx, hdt, he, _⟩ := I.hok d _ h
  rw [hd] at ho
  cases ho
  refine ⟨hs, hd, hx, es, ep, hdt, ?_, fun i k v e => ?_⟩
  · have l1 : es.size = xs.length := size_of_entries he
    have l2 : kvs.length = xs.length := Paired.length pr
    omega
  · obtain ⟨b, hb, e1, e2, e3⟩ := paired_get pr e
    have q := entry_at he i
    rw [hb] at q
    exact ⟨_, b.2.1, q, rfl, e2, e3⟩
end
section
variable {P : Program} {w : World} {K : PySem.W.Frag} {d : Addr} {o : Obj} {es : Array DictEntry} {ep : Nat}
theorem turn_itemsT {kvs : List (List Key × V)} {elts : List Expr} {kk : Nat} {tpos : Pos} (it : Addr) (hod : o.data = .dict es ep) :
    Turn P w K (.Tuple elts kk tpos) (ItiT d o kvs) [it] it (fun i h => ∃ ok ov, IsItemIter h it d i kvs.length ep ok ov) where
  mem := by simp
  obj := fun i h st b hb => by
    have e : b = it := by simpa using hb
    subst e
    obtain ⟨ok, ov, e⟩ := st
    exact ⟨_, e, fun v z => nomatch z⟩
  keep := fun i h h' st k => let ⟨ok, ov, e⟩ := st; ⟨ok, ov, k it (by simp) _ e⟩
  item := by
    intro X hP hw hK hc i pins s σ H E I hf st hg
    subst hP hw hK
    obtain ⟨hd, hi⟩ := hg
    obtain ⟨hs, hgd, hx, es', ep', hdt, hsz, ent⟩ := frzT2 I hd
    obtain ⟨rfl, rfl⟩ := dict_ep hod hdt
    obtain ⟨⟨k, v⟩, hkv⟩ : ∃ p, kvs[i]? = some p := ⟨kvs[i], List.getElem?_eq_getElem hi⟩
    obtain ⟨en, q, hen, hkey, hq, rv⟩ := ent i k v hkv
    obtain ⟨ok, ov, he⟩ := st
    rw [← hsz] at he
    have hi2 : i < es'.size := by omega
    have een : es'[i] = en := by rw [Array.getElem?_eq_getElem hi2] at hen; exact Option.some.inj hen
    have hlt : it < s.heap.objs.size := Heap.lt_size he
    refine DT.nextI he ⟨o, hgd, hx, hdt⟩ hi2 fun h' ho hT hz hk => ?_
    rw [een] at ho hT
    refine ⟨_, rfl, wpAny_letOwnedTupleGo_items (s := { s with heap := h' }) ho fun h'' he' sb => ?_⟩
    have hT2 : h''.get? s.heap.objs.size = some { cls := .type "tuple", data := .seq #[en.key, en.val] } := (sb.2 _ (Nat.ne_of_gt hlt)).trans hT
    have new : ObjOk X.prog X.w (upd H s.heap.objs.size (.tup [.ref q, v])) h'' s.heap.objs.size (.tup [.ref q, v]) :=
      ⟨by show 2 ≤ sizeLine; decide, [en.key, en.val], .cons hkey (.cons rv .nil), ⟨_, hT2, rfl, _, rfl⟩⟩
    have I1 : Inv X pins σ (upd H s.heap.objs.size (.tup [.ref q, v])) { s with heap := h'' } :=
      I.turnedNew (t' := s.toks) (ch := [it]) (fun b ob hb e => (sb.2 b (by simpa using hb)).trans (hk b ob (by simpa using hb) e)) hf (Nat.le_refl _) new
    refine ⟨.ref s.heap.objs.size, _, I1, rfl, ⟨_, k, v, q, hkv, rfl, I.hok.fresh (Nat.le_refl _), hq, rfl⟩, ⟨en.key, en.val, ?_⟩, fun b hb => ?_⟩
    · rw [← hsz]; exact he'
    · have e : b = it := by simpa using hb
      rw [e, upd_ne (Nat.ne_of_lt hlt)]
      exact (hf it (by simp)).1
  done := by
    intro X hP hw hK hc i pins s σ H E I hf st hg
    subst hP hw hK
    obtain ⟨hd, hi⟩ := hg
    obtain ⟨f0, f1, f2, f3, f4, f5⟩ := hf it (by simp)
    obtain ⟨hs, hgd, hx, es', ep', hdt, hsz, ent⟩ := frzT2 I hd
    obtain ⟨rfl, rfl⟩ := dict_ep hod hdt
    obtain ⟨ok, ov, he⟩ := st
    rw [← hsz] at he
    exact DT.endI (I.ok.hd hc) he ⟨o, hgd, hx, hdt⟩ (by omega) fun h' eb => ⟨rfl, I.turned (t' := s.toks) (fun b ob hb e => eb b ob hb e) f0 f1 f3 f4 f5⟩
  self := fun A i s Q E st h => let ⟨_, _, e⟩ := st; PySem.W.kcp_self e h
end
def iItemsB (td : TE) : TI := fun σ H R => td σ H fun x H1 => ∃ d o, x = .ref d ∧ ((∃ kvs, H1 d = some (.frz o (.dK kvs)) ∧ R (Iti d o kvs) H1) ∨ ∃ kvs, H1 d = some (.frz o (.dT kvs)) ∧ R (ItiT d o kvs) H1)
section
variable {X : Cx} {e : Expr} {td : TE} {apos cpos : Pos}
theorem pi_itemsB {elts : List Expr} {kk : Nat} {tpos : Pos} (he : PE X e td) (hbase : attributeBase e "items" X.env (eval e X.env) = eval e X.env := by rfl) (hline : (apos.endLine == cpos.line) = true := by rfl) :
    PI X (.Tuple elts kk tpos) (.Call (.Attribute e "items" apos) [] [] cpos) (iItemsB td) := by
  refine ⟨fun pins s σ H R I h => ?_⟩
  refine wpAny_Call_method (T := "dict") (id := "dict.items") hbase rfl hline F.plainAttrs_dict F.slot_dict_items F.type_dict_items (thn (he.run pins s σ H _ I h) fun u s1 ⟨x, H1, I1, rx, d, o, ex, q⟩ => ?_)
  subst ex
  obtain rfl : u = Value.ref d := rx
  have I2 : Inv X pins σ H1 { s1 with heap := s1.heap.push { cls := .type "dict_items", data := .fields #[.ref d] } } := I1.kept (t' := s1.toks) fun b ob q => Heap.get?_push_of_some _ q
  rcases q with ⟨kvs, hd, q⟩ | ⟨kvs, hd, q⟩
  · obtain ⟨hs, hgd, hx, es, ep, vs, hdt, hsz, kv, hm⟩ := I1.frzK hd
    have hl : kvs.length = vs.length := Paired.length kv
    refine ⟨hm.dictOf.typeIs, hm.dictOf.mapOf.noDict, ?_⟩
    have fin : wpAny (model X.prog X.w) X.A (pyIter (.ref s1.heap.objs.size)) (PIE X pins σ (.Tuple elts kk tpos) R) X.xe { s1 with heap := s1.heap.push { cls := .type "dict_items", data := .fields #[.ref d] } } := by
      refine wpAny_pyIter_items (d := d) (knd := mixKind X.prog X.w) ⟨_, Heap.get?_push_size _ rfl, rfl, rfl⟩ (hm.push _) (pi_one (tk := s1.toks) I2 _ (turn_items _ hdt) ⟨.none, .none, ?_⟩ q)
      rw [hl]
      exact Heap.get?_push_size _ rfl
    show wpAny _ _ (callWith cpos (.builtin "dict.items") [.ref d] [] []) _ X.xe s1
    exact method_meetsIn F.slot_dict_items F.entry_dict_items rfl (PySem.evalArgs_none ⟨rfl, hm.dictOf.typeIs, F.args_dict_items_1 _, _, meets_dict_items (mixKind X.prog X.w) d hs, ⟨vs, hm.dictOf⟩, fin⟩)
  · obtain ⟨hs, hgd, hx, es, ep, hdt, hsz, ent⟩ := frzT2 I1 hd
    have raw : DT.Raw s1.heap d es ep := ⟨o, hgd, hx, hdt⟩
    refine ⟨raw.typeIs, ?_, ?_⟩
    · exact fun a e => by cases e; exact ⟨o, hgd, hx.2.1⟩
    have fin : wpAny (model X.prog X.w) X.A (pyIter (.ref s1.heap.objs.size)) (PIE X pins σ (.Tuple elts kk tpos) R) X.xe { s1 with heap := s1.heap.push { cls := .type "dict_items", data := .fields #[.ref d] } } := by
      refine DT.iterI (d := d) (es := es) (ep := ep) ⟨_, Heap.get?_push_size _ rfl, rfl, rfl⟩ (raw.push _) (pi_one (tk := s1.toks) I2 _ (turn_itemsT _ hdt) ⟨.none, .none, ?_⟩ q)
      rw [← hsz]
      exact Heap.get?_push_size _ rfl
    show wpAny _ _ (callWith cpos (.builtin "dict.items") [.ref d] [] []) _ X.xe s1
    exact method_meetsIn F.slot_dict_items F.entry_dict_items rfl (PySem.evalArgs_none ⟨rfl, raw.typeIs, F.args_dict_items_1 _, _, DT.meetsItems (es := es) (ep := ep) hs, raw, fin⟩)
end
end Z
/-! ZA: what is walked. -/
namespace Z
open PySem PySem.Spec PyProof.Rows L2
/-- an iterator of the library gives these items -/
structure Drv (C : Cc) (A1 : List Addr) (H1 : Hp) (J : It) (src : Src) : Prop where
  go : ∀ {base : Nat} {A : List Addr} {τ : Vars} {st : Store} {σ : L2.St} {H : Hp} {i : Nat} {u : U}, Gr A1 H1 A H → Cn C base A τ st σ H → src.Keep st → src.us[i]? = some u → J.go i H
  stop : ∀ {base : Nat} {A : List Addr} {τ : Vars} {st : Store} {σ : L2.St} {H : Hp} {i : Nat}, Gr A1 H1 A H → Cn C base A τ st σ H → src.Keep st → src.us.length ≤ i → J.stop i H
  yld : ∀ {base : Nat} {A : List Addr} {τ : Vars} {st : Store} {σ : L2.St} {H H' : Hp} {i : Nat} {u : U} {x : V}, Gr A1 H1 A H → Cn C base A τ st σ H → src.Keep st → src.us[i]? = some u → J.yld i H x H' →
    Gr A H A H' ∧ Cn C base A τ st σ H' ∧ RpU C A H' x u ∧ ∀ b o, H b = some o → H' b = some o
abbrev RdI (C : Cc) (base : Nat) (W : Z.WX) (f : Vars → Store → Res Src) : TI := Rd C base W (Drv C) f
theorem pi_imp {X : Cx} {tg e : Expr} {t t' : TI} (h : PI X tg e t) (i : ∀ σ H R, t' σ H R → t σ H R) : PI X tg e t' := ⟨fun pins s σ H R I q => h.run pins s σ H R I (i σ H R q)⟩
theorem pi_or {X : Cx} {tg e : Expr} {t t' : TI} (h : PI X tg e t) (h' : PI X tg e t') : PI X tg e (fun σ H R => t σ H R ∨ t' σ H R) :=
  ⟨fun pins s σ H R I q => q.elim (h.run pins s σ H R I) (h'.run pins s σ H R I)⟩
section
variable {C : Cc} {A1 : List Addr} {H1 : Hp}
/-- a list that is walked, at a -/
def LstA (C : Cc) (A1 : List Addr) (H1 : Hp) (a : Addr) (s : Src) : Prop :=
  ∀ {base : Nat} {A : List Addr} {τ : Vars} {st : Store} {σ : L2.St} {H : Hp}, Gr A1 H1 A H → Cn C base A τ st σ H → s.Keep st → ∃ vs, SqL C.K H a vs ∧ RpUs C A H vs s.us
theorem pre_get {A A' : List Addr} {n : Nat} {a : Addr} (p : A <+: A') (h : A[n]? = some a) : A'[n]? = some a := by
  obtain ⟨t, rfl⟩ := p
  rw [List.getElem?_append_left (by exact (List.getElem?_eq_some_iff.mp h).1)]
  exact h
theorem lstA_of {st0 : Store} {u : U} {v : V} {s : Src} (e : srcLst st0 u = some s) (r : RpU C A1 H1 v u) : ∃ a, v = .ref a ∧ LstA C A1 H1 a s := by
  cases u with
  | d x =>
    cases x <;> try (cases e)
    rename_i xs
    cases r with
    | d r =>
      cases r with
      | @lst a vs _ r1 r2 =>
        refine ⟨a, rfl, fun {base A τ st σ H} g c k => ⟨vs, (r1.mono g.fz).sq, .ofD (r2.mono g.fz)⟩⟩
  | cell n =>
    have e' : (match st0[n]? with | some (.lst us) => some (⟨[(n, us)], us⟩ : Src) | _ => none) = some s := e
    split at e'
    · rename_i us q
      cases e'
      cases r with
      | @cell a _ ha =>
        refine ⟨a, rfl, fun {base A τ st σ H} g c k => ?_⟩
        have e2 : st[n]? = some (.lst us) := k (n, us) (by simp)
        obtain ⟨b, vs, e3, e4, h1, h2⟩ := cell_lst c e2 (.cell (pre_get g.pre ha))
        cases e3
        exact ⟨vs, .of h1, RpUs.mono (fun _ _ _ h => h) pre_if h2⟩
    · cases e'
  | fn f => cases e
  | exc f => cases e
/-- what a lemma of list needs of one item -/
theorem us_get2 {A : List Addr} {H : Hp} {vs : List V} {us : List U} {i : Nat} {u : U} (r : RpUs C A H vs us) (e : us[i]? = some u) : ∃ v, vs[i]? = some v ∧ RpU C A H v u := RpUs.get r e
theorem drv_lst {a : Addr} {s : Src} (l : LstA C A1 H1 a s) : Drv C A1 H1 (Itl C.K a) s := by
  refine ⟨fun {base A τ st σ H i u} g c k e => ?_, fun {base A τ st σ H i} g c k e => ?_, fun {base A τ st σ H H' i u x} g c k e y => ?_⟩
  · obtain ⟨vs, h1, h2⟩ := l g c k
    obtain ⟨v, h3, h4⟩ := h2.get e
    exact ⟨vs, v, h1, h3⟩
  · obtain ⟨vs, h1, h2⟩ := l g c k
    exact ⟨vs, h1, by rw [us_len h2]; exact e⟩
  · obtain ⟨vs, h1, h2⟩ := l g c k
    obtain ⟨v, h3, h4⟩ := h2.get e
    obtain ⟨rfl, y⟩ := y
    have := y vs h1
    rw [h3] at this
    cases this
    exact ⟨.refl, c, h4, fun _ _ h => h⟩
theorem drv_rev {a : Addr} {s : Src} (l : LstA C A1 H1 a s) : Drv C A1 H1 (Itv C.K a s.us.length) ⟨s.at_, s.us.reverse⟩ := by
  have key : ∀ {i : Nat} {u : U}, s.us.reverse[i]? = some u → i < s.us.length ∧ s.us[s.us.length - 1 - i]? = some u := fun {i u} e => by
    have hi : i < s.us.length := by have := (List.getElem?_eq_some_iff.mp e).1; simpa using this
    refine ⟨hi, ?_⟩
    rw [List.getElem?_reverse hi] at e
    exact e
  refine ⟨fun {base A τ st σ H i u} g c k e => ?_, fun {base A τ st σ H i} g c k e => ?_, fun {base A τ st σ H H' i u x} g c k e y => ?_⟩
  · obtain ⟨vs, h1, h2⟩ := l g c k
    obtain ⟨hi, e⟩ := key e
    obtain ⟨v, h3, h4⟩ := h2.get e
    exact ⟨hi, vs, v, h1, h3⟩
  · show s.us.length ≤ i
    have : s.us.reverse.length ≤ i := e
    simpa using this
  · obtain ⟨vs, h1, h2⟩ := l g c k
    obtain ⟨hi, e⟩ := key e
    obtain ⟨v, h3, h4⟩ := h2.get e
    obtain ⟨rfl, y⟩ := y
    have := y vs h1
    rw [h3] at this
    cases this
    exact ⟨.refl, c, h4, fun _ _ h => h⟩
theorem get_ofD {xs : List PyData} {i : Nat} {u : U} (e : (ofD xs)[i]? = some u) : ∃ x, xs[i]? = some x ∧ u = .d x := by
  unfold ofD at e
  rw [List.getElem?_map, Option.map_eq_some_iff] at e
  obtain ⟨x, h1, h2⟩ := e
  exact ⟨x, h1, h2.symm⟩
theorem ofD_len {xs : List PyData} : (ofD xs).length = xs.length := by simp [ofD]
theorem drv_tup {a : Addr} {vs : List V} {xs : List PyData} (r1 : FzT C.K H1 a vs) (r2 : RpAll C.K C.w H1 vs xs) : Drv C A1 H1 (Itt C.K a) ⟨[], ofD xs⟩ := by
  have key : ∀ {A : List Addr} {H : Hp}, Gr A1 H1 A H → SqT C.K H a vs ∧ RpUs C A H vs (ofD xs) := fun g => ⟨(r1.mono g.fz).sq, .ofD (r2.mono g.fz)⟩
  refine ⟨fun {base A τ st σ H i u} g c k e => ?_, fun {base A τ st σ H i} g c k e => ?_, fun {base A τ st σ H H' i u x} g c k e y => ?_⟩
  · obtain ⟨h1, h2⟩ := key g
    obtain ⟨v, h3, h4⟩ := h2.get e
    exact ⟨vs, v, h1, h3⟩
  · obtain ⟨h1, h2⟩ := key g
    exact ⟨vs, h1, by rw [us_len h2]; exact e⟩
  · obtain ⟨h1, h2⟩ := key g
    obtain ⟨v, h3, h4⟩ := h2.get e
    obtain ⟨rfl, y⟩ := y
    have := y vs h1
    rw [h3] at this
    cases this
    exact ⟨.refl, c, h4, fun _ _ h => h⟩
theorem drv_str {z : Str} : Drv C A1 H1 (Its z) ⟨[], ofD (signs z)⟩ := by
  have key : ∀ {i : Nat} {u : U}, (ofD (signs z))[i]? = some u → ∃ c, z.cps[i]? = some c ∧ u = .d (.str ⟨#[c]⟩) := fun {i u} e => by
    obtain ⟨x, h1, rfl⟩ := get_ofD e
    unfold signs at h1
    rw [List.getElem?_map, Option.map_eq_some_iff] at h1
    obtain ⟨c, h1, rfl⟩ := h1
    exact ⟨c, by simpa using h1, rfl⟩
  refine ⟨fun {base A τ st σ H i u} g c k e => ?_, fun {base A τ st σ H i} g c k e => ?_, fun {base A τ st σ H H' i u x} g c k e y => ?_⟩
  · obtain ⟨d, h1, h2⟩ := key e
    exact (Array.getElem?_eq_some_iff.mp h1).1
  · show z.cps.size ≤ i
    have : (ofD (signs z)).length ≤ i := e
    simpa [ofD, signs] using this
  · obtain ⟨d, h1, rfl⟩ := key e
    obtain ⟨rfl, d2, h2, rfl⟩ := y
    rw [h1] at h2
    cases h2
    exact ⟨.refl, c, .d (.str _), fun _ _ h => h⟩
theorem drv_rng {lo : Int} {n : Nat} : Drv C A1 H1 (Itr lo n) ⟨[], rangeOf lo n⟩ := by
  have key : ∀ {i : Nat} {u : U}, (rangeOf lo n)[i]? = some u → i < n ∧ u = .d (.int (lo + (i : Int))) := fun {i u} e => by
    unfold rangeOf at e
    rw [List.getElem?_map, Option.map_eq_some_iff] at e
    obtain ⟨j, h1, h2⟩ := e
    obtain ⟨h3, h4⟩ := List.getElem?_eq_some_iff.mp h1
    simp at h3 h4
    subst h4
    exact ⟨h3, h2.symm⟩
  refine ⟨fun {base A τ st σ H i u} g c k e => (key e).1, fun {base A τ st σ H i} g c k e => ?_, fun {base A τ st σ H H' i u x} g c k e y => ?_⟩
  · show n ≤ i
    have : (rangeOf lo n).length ≤ i := e
    simpa [rangeOf] using this
  · obtain ⟨h1, rfl⟩ := key e
    obtain ⟨rfl, rfl⟩ := y
    exact ⟨.refl, c, .d (.int _), fun _ _ h => h⟩
theorem drv_rngC {lo k : Int} {n : Nat} : Drv C A1 H1 (Itc lo k n) ⟨[], rangeBy lo k n⟩ := by
  have key : ∀ {i : Nat} {u : U}, (rangeBy lo k n)[i]? = some u → i < n ∧ u = .d (.int (lo + (i : Int) * k)) := fun {i u} e => by
    unfold rangeBy at e
    rw [List.getElem?_map, Option.map_eq_some_iff] at e
    obtain ⟨j, h1, h2⟩ := e
    obtain ⟨h3, h4⟩ := List.getElem?_eq_some_iff.mp h1
    simp at h3 h4
    subst h4
    exact ⟨h3, h2.symm⟩
  refine ⟨fun {base A τ st σ H i u} g c k e => (key e).1, fun {base A τ st σ H i} g c k2 e => ?_, fun {base A τ st σ H H' i u x} g c k e y => ?_⟩
  · show n ≤ i
    have : (rangeBy lo k n).length ≤ i := e
    simpa [rangeBy] using this
  · obtain ⟨h1, rfl⟩ := key e
    obtain ⟨rfl, rfl⟩ := y
    exact ⟨.refl, c, .d (.int _), fun _ _ h => h⟩
theorem rpall_get {H : Hp} {xs : List PyData} : ∀ {vs : List V} {i : Nat} {x : PyData}, RpAll C.K C.w H vs xs → xs[i]? = some x → ∃ v, vs[i]? = some v ∧ Rp C.K C.w H v x := by
  induction xs with
  | nil => intro vs i x h e; simp at e
  | cons y r ih =>
    intro vs i x h e
    cases h with
    | cons a b =>
      cases i with
      | zero => simp at e; subst e; exact ⟨_, rfl, a⟩
      | succ i =>
        obtain ⟨v, h1, h2⟩ := ih b (by simpa using e)
        exact ⟨v, by simpa using h1, h2⟩
theorem enumOf_get : ∀ {xs : List PyData} {k i : Nat} {u : U}, (enumOf k xs)[i]? = some u → ∃ x, xs[i]? = some x ∧ u = .d (.tuple [.int ((k + i : Nat) : Int), x]) := by
  intro xs
  induction xs with
  | nil => intro k i u e; simp [enumOf] at e
  | cons y r ih =>
    intro k i u e
    cases i with
    | zero => simp [enumOf] at e; exact ⟨y, rfl, e.symm⟩
    | succ i =>
      simp [enumOf] at e
      obtain ⟨x, h1, h2⟩ := ih e
      exact ⟨x, by simpa using h1, by rw [h2]; congr 4; omega⟩
theorem enumOf_len : ∀ {xs : List PyData} {k : Nat}, (enumOf k xs).length = xs.length := by
  intro xs
  induction xs with
  | nil => intro k; rfl
  | cons y r ih => intro k; simp [enumOf, ih]
theorem lay_tup {base : Nat} {A : List Addr} {τ : Vars} {st : Store} {σ : L2.St} {H : Hp} {T : Addr} {v w : V} {x y : PyData} (c : Cn C base A τ st σ H) (hT : H T = none) (r1 : Rp C.K C.w H v x) (r2 : Rp C.K C.w H w y) :
    Gr A H A (upd H T (.tup [v, w])) ∧ Cn C base A τ st σ (upd H T (.tup [v, w])) ∧ RpU C A (upd H T (.tup [v, w])) (.ref T) (.d (.tuple [x, y])) ∧ ∀ b o, H b = some o → (upd H T (.tup [v, w])) b = some o := by
  have g : Gr A H A (upd H T (.tup [v, w])) := Gr.lay hT
  refine ⟨g, c.beside hT, .d (.tup upd_same (.cons (r1.mono g.fz) (.cons (r2.mono g.fz) .nil))), fun b o h => ?_⟩
  rw [upd_ne (ne_of_none h hT)]; exact h
theorem drv_enum {a : Addr} {s : Src} {xs : List PyData} (l : LstA C A1 H1 a s) (ex : trees s.us = some xs) : Drv C A1 H1 (Ite C.K a) ⟨s.at_, enumOf 0 xs⟩ := by
  refine ⟨fun {base A τ st σ H i u} g c k e => ?_, fun {base A τ st σ H i} g c k e => ?_, fun {base A τ st σ H H' i u x} g c k e y => ?_⟩
  · obtain ⟨vs, h1, h2⟩ := l g c k
    obtain ⟨x, h3, rfl⟩ := enumOf_get e
    obtain ⟨v, h4, h5⟩ := rpall_get (h2.trees ex) h3
    exact ⟨vs, v, h1, h4⟩
  · obtain ⟨vs, h1, h2⟩ := l g c k
    have e' : (enumOf 0 xs).length ≤ i := e
    rw [enumOf_len] at e'
    exact ⟨vs, h1, by rw [(h2.trees ex).length]; exact e'⟩
  · obtain ⟨vs, h1, h2⟩ := l g c k
    obtain ⟨x, h3, rfl⟩ := enumOf_get e
    obtain ⟨v, h4, h5⟩ := rpall_get (h2.trees ex) h3
    obtain ⟨T, x2, rfl, hT, rfl, y⟩ := y
    have := y vs h1
    rw [h4] at this
    cases this
    have q := lay_tup (v := .int (i : Nat)) c hT (.int ((0 + i : Nat) : Int) |> fun (z : Rp C.K C.w H (.int ((0 + i : Nat) : Int)) _) => by simpa using z) h5
    simpa using q
theorem zipOf_get : ∀ {xs ys : List PyData} {i : Nat} {u : U}, (zipOf xs ys)[i]? = some u → ∃ x y, xs[i]? = some x ∧ ys[i]? = some y ∧ u = .d (.tuple [x, y]) := by
  intro xs
  induction xs with
  | nil => intro ys i u e; simp [zipOf] at e
  | cons x r ih =>
    intro ys i u e
    cases ys with
    | nil => simp [zipOf] at e
    | cons y q =>
      cases i with
      | zero => simp [zipOf] at e; exact ⟨x, y, rfl, rfl, e.symm⟩
      | succ i =>
        simp [zipOf] at e
        obtain ⟨a, b, h1, h2, h3⟩ := ih e
        exact ⟨a, b, by simpa using h1, by simpa using h2, h3⟩
theorem zipOf_len : ∀ {xs ys : List PyData} {i : Nat}, (zipOf xs ys).length ≤ i → xs.length ≤ i ∨ ys.length ≤ i := by
  intro xs
  induction xs with
  | nil => intro ys i h; exact .inl (Nat.zero_le _)
  | cons x r ih =>
    intro ys i h
    cases ys with
    | nil => exact .inr (Nat.zero_le _)
    | cons y q =>
      simp [zipOf] at h
      cases i with
      | zero => omega
      | succ i =>
        rcases ih (ys := q) (i := i) (by omega) with h | h
        · exact .inl (by simp; omega)
        · exact .inr (by simp; omega)
theorem keep_l {s t : Src} {st : Store} {us : List U} (h : Src.Keep ⟨s.at_ ++ t.at_, us⟩ st) : s.Keep st ∧ t.Keep st :=
  ⟨fun p hp => h p (List.mem_append_left _ hp), fun p hp => h p (List.mem_append_right _ hp)⟩
theorem drv_zip {a b : Addr} {s t : Src} {xs ys : List PyData} (l : LstA C A1 H1 a s) (l2 : LstA C A1 H1 b t) (ex : trees s.us = some xs) (ey : trees t.us = some ys) : Drv C A1 H1 (Itz C.K a b) ⟨s.at_ ++ t.at_, zipOf xs ys⟩ := by
  refine ⟨fun {base A τ st σ H i u} g c k e => ?_, fun {base A τ st σ H i} g c k e => ?_, fun {base A τ st σ H H' i u x} g c k e y => ?_⟩
  · obtain ⟨vs, h1, h2⟩ := l g c (keep_l k).1
    obtain ⟨ws, k1, k2⟩ := l2 g c (keep_l k).2
    obtain ⟨x, y, h3, k3, rfl⟩ := zipOf_get e
    obtain ⟨v, h4, h5⟩ := rpall_get (h2.trees ex) h3
    obtain ⟨w, k4, k5⟩ := rpall_get (k2.trees ey) k3
    exact ⟨vs, ws, v, w, h1, k1, h4, k4⟩
  · obtain ⟨vs, h1, h2⟩ := l g c (keep_l k).1
    obtain ⟨ws, k1, k2⟩ := l2 g c (keep_l k).2
    have e' : (zipOf xs ys).length ≤ i := e
    refine ⟨vs, ws, h1, k1, ?_⟩
    rw [(h2.trees ex).length, (k2.trees ey).length]
    exact zipOf_len e'
  · obtain ⟨vs, h1, h2⟩ := l g c (keep_l k).1
    obtain ⟨ws, k1, k2⟩ := l2 g c (keep_l k).2
    obtain ⟨x, z, h3, k3, rfl⟩ := zipOf_get e
    obtain ⟨v, h4, h5⟩ := rpall_get (h2.trees ex) h3
    obtain ⟨w, k4, k5⟩ := rpall_get (k2.trees ey) k3
    obtain ⟨T, x2, y2, rfl, hT, rfl, y, y'⟩ := y
    have := y vs h1
    rw [h4] at this
    cases this
    have := y' ws k1
    rw [k4] at this
    cases this
    exact lay_tup c hT h5 k5
end
section
variable {C : Cc} {A1 : List Addr} {H1 : Hp}
/-- the keys of a locked dict -/
theorem drv_keys {a : Addr} {o : Obj} {es : List (Key × V)} {kvs : List (PyData × U)} (h : H1 a = some (.frz o (.dK es))) (r : KvG C A1 H1 kvD es kvs) : Drv C A1 H1 (Itk a o es) ⟨[], kvs.map fun kv => U.d kv.1⟩ := by
  have at_ : ∀ {A : List Addr} {H : Hp}, Gr A1 H1 A H → H a = some (.frz o (.dK es)) := fun g => g.fz a _ trivial h
  have ln := Paired.length r
  have key : ∀ {i : Nat} {k : Key} {v : V}, es[i]? = some (k, v) → (kvs.map fun kv => U.d kv.1)[i]? = some (.d (kvD k)) := by
    clear at_ h ln
    induction r with
    | nil => intro i k v e; simp at e
    | cons a b ih =>
      intro i k v e
      cases i with
      | zero => simp at e; obtain ⟨a1, _⟩ := a; rw [e] at a1; simp [a1]
      | succ i => simpa using ih (by simpa using e)
  refine ⟨fun {base A τ st σ H i u} g c k e => ⟨at_ g, ?_⟩, fun {base A τ st σ H i} g c k e => ⟨at_ g, ?_⟩, fun {base A τ st σ H H' i u x} g c k e y => ?_⟩
  · have := (List.getElem?_eq_some_iff.mp e).1
    simp at this; omega
  · have e' : (kvs.map fun kv => U.d kv.1).length ≤ i := e
    simp at e'; omega
  · obtain ⟨rfl, kk, v, h2, rfl⟩ := y
    have := key h2
    rw [show (kvs.map fun kv => U.d kv.1)[i]? = some u from e] at this
    cases this
    exact ⟨.refl, c, .d (by cases kk with | inl i => exact .int i | inr s => exact .str s), fun _ _ h => h⟩
theorem rp_key {H : Hp} : ∀ (k : List Key), RpAll C.K C.w H (k.map kV) (k.map kvD)
  | [] => .nil
  | .inl i :: r => .cons (.int i) (rp_key r)
  | .inr s :: r => .cons (.str s) (rp_key r)
theorem drv_keysT {a : Addr} {o : Obj} {es : List (List Key × V)} {kvs : List (PyData × U)} (h : H1 a = some (.frz o (.dT es))) (r : KvG C A1 H1 kDs es kvs) : Drv C A1 H1 (Itkt a o es) ⟨[], kvs.map fun kv => U.d kv.1⟩ := by
  have at_ : ∀ {A : List Addr} {H : Hp}, Gr A1 H1 A H → H a = some (.frz o (.dT es)) := fun g => g.fz a _ trivial h
  have ln := Paired.length r
  have key : ∀ {i : Nat} {k : List Key} {v : V}, es[i]? = some (k, v) → (kvs.map fun kv => U.d kv.1)[i]? = some (.d (kDs k)) := by
    clear at_ h ln
    induction r with
    | nil => intro i k v e; simp at e
    | cons a b ih =>
      intro i k v e
      cases i with
      | zero => simp at e; obtain ⟨a1, _⟩ := a; rw [e] at a1; simp [a1]
      | succ i => simpa using ih (by simpa using e)
  refine ⟨fun {base A τ st σ H i u} g c k e => ⟨at_ g, ?_⟩, fun {base A τ st σ H i} g c k e => ⟨at_ g, ?_⟩, fun {base A τ st σ H H' i u x} g c k e y => ?_⟩
  · have := (List.getElem?_eq_some_iff.mp e).1
    simp at this; omega
  · have e' : (kvs.map fun kv => U.d kv.1).length ≤ i := e
    simp at e'; omega
  · obtain ⟨rfl, kk, v, q, h2, rfl, h3⟩ := y
    have := key h2
    rw [show (kvs.map fun kv => U.d kv.1)[i]? = some u from e] at this
    cases this
    exact ⟨.refl, c, .d (.tup h3 (rp_key kk)), fun _ _ h => h⟩
theorem rpk_len {H : Hp} : ∀ {es : List (Key × V)} {xs : List (PyData × PyData)}, RpK C.K C.w H es xs → es.length = xs.length
  | _, _, .nil => rfl
  | _, _, .cons _ b => by simp [rpk_len b]
theorem rpk_get {H : Hp} : ∀ {xs : List (PyData × PyData)} {es : List (Key × V)} {i : Nat} {k : Key} {v : V}, RpK C.K C.w H es xs → es[i]? = some (k, v) → ∃ y, xs[i]? = some (kvD k, y) ∧ Rp C.K C.w H v y := by
  intro xs
  induction xs with
  | nil => intro es i k v h e; cases h; simp at e
  | cons x xs ih =>
    intro es i k v h e
    cases h with
    | cons a b =>
      cases i with
      | zero => simp at e; obtain ⟨rfl, rfl⟩ := e; exact ⟨_, rfl, a⟩
      | succ i => obtain ⟨y, h1, h2⟩ := ih b (by simpa using e); exact ⟨y, by simpa using h1, h2⟩
/-- its pairs -/
theorem drv_items {a : Addr} {o : Obj} {es : List (Key × V)} {kvs : List (PyData × U)} {xs : List (PyData × PyData)} (h : H1 a = some (.frz o (.dK es))) (r : KvG C A1 H1 kvD es kvs) (ex : treesKv kvs = some xs) :
    Drv C A1 H1 (Iti a o es) ⟨[], xs.map fun kv => U.d (.tuple [kv.1, kv.2])⟩ := by
  have at_ : ∀ {A : List Addr} {H : Hp}, Gr A1 H1 A H → H a = some (.frz o (.dK es)) := fun g => g.fz a _ trivial h
  have rk := kvK_trees r ex
  have ln : es.length = xs.length := rpk_len rk
  have key : ∀ {i : Nat} {k : Key} {v : V}, es[i]? = some (k, v) → ∃ y, xs[i]? = some (kvD k, y) ∧ Rp C.K C.w H1 v y := fun e => rpk_get rk e
  refine ⟨fun {base A τ st σ H i u} g c k e => ⟨at_ g, ?_⟩, fun {base A τ st σ H i} g c k e => ⟨at_ g, ?_⟩, fun {base A τ st σ H H' i u x} g c k e y => ?_⟩
  · have := (List.getElem?_eq_some_iff.mp e).1
    simp at this; omega
  · have e' : (xs.map fun kv => U.d (.tuple [kv.1, kv.2])).length ≤ i := e
    simp at e'; omega
  · obtain ⟨T, kk, v, h2, rfl, hT, rfl⟩ := y
    obtain ⟨z, h3, h4⟩ := key h2
    have e' : (xs.map fun kv => U.d (.tuple [kv.1, kv.2]))[i]? = some u := e
    rw [List.getElem?_map, h3] at e'
    cases e'
    refine lay_tup c hT ?_ (h4.mono g.fz)
    cases kk with
    | inl i => exact .int i
    | inr s => exact .str s
theorem rpkt_len {H : Hp} : ∀ {es : List (List Key × V)} {xs : List (PyData × PyData)}, RpKT C.K C.w H es xs → es.length = xs.length
  | _, _, .nil => rfl
  | _, _, .cons _ b => by simp [rpkt_len b]
theorem rpkt_get {H : Hp} : ∀ {xs : List (PyData × PyData)} {es : List (List Key × V)} {i : Nat} {k : List Key} {v : V}, RpKT C.K C.w H es xs → es[i]? = some (k, v) → ∃ y, xs[i]? = some (.tuple (k.map kvD), y) ∧ Rp C.K C.w H v y := by
  intro xs
  induction xs with
  | nil => intro es i k v h e; cases h; simp at e
  | cons x xs ih =>
    intro es i k v h e
    cases h with
    | cons a b =>
      cases i with
      | zero => simp at e; obtain ⟨rfl, rfl⟩ := e; exact ⟨_, rfl, a⟩
      | succ i => obtain ⟨y, h1, h2⟩ := ih b (by simpa using e); exact ⟨y, by simpa using h1, h2⟩
/-- pairs of a dict of tuple keys -/
theorem drv_itemsT {a : Addr} {o : Obj} {es : List (List Key × V)} {kvs : List (PyData × U)} {xs : List (PyData × PyData)} (h : H1 a = some (.frz o (.dT es))) (r : KvG C A1 H1 kDs es kvs) (ex : treesKv kvs = some xs) :
    Drv C A1 H1 (ItiT a o es) ⟨[], xs.map fun kv => U.d (.tuple [kv.1, kv.2])⟩ := by
  have at_ : ∀ {A : List Addr} {H : Hp}, Gr A1 H1 A H → H a = some (.frz o (.dT es)) := fun g => g.fz a _ trivial h
  have rk := kvT_trees r ex
  have ln : es.length = xs.length := rpkt_len rk
  have key : ∀ {i : Nat} {k : List Key} {v : V}, es[i]? = some (k, v) → ∃ y, xs[i]? = some (.tuple (k.map kvD), y) ∧ Rp C.K C.w H1 v y := fun e => rpkt_get rk e
  refine ⟨fun {base A τ st σ H i u} g c k e => ⟨at_ g, ?_⟩, fun {base A τ st σ H i} g c k e => ⟨at_ g, ?_⟩, fun {base A τ st σ H H' i u x} g c k e y => ?_⟩
  · have := (List.getElem?_eq_some_iff.mp e).1
    simp at this; omega
  · have e' : (xs.map fun kv => U.d (.tuple [kv.1, kv.2])).length ≤ i := e
    simp at e'; omega
  · obtain ⟨T, kk, v, q, h2, rfl, hT, hq, rfl⟩ := y
    obtain ⟨z, h3, h4⟩ := key h2
    have e' : (xs.map fun kv => U.d (.tuple [kv.1, kv.2]))[i]? = some u := e
    rw [List.getElem?_map, h3] at e'
    cases e'
    exact lay_tup c hT (.tup hq (rp_key kk)) (h4.mono g.fz)
end
/-! ### readings -/
section
variable {X : Cx} {C : Cc} {base : Nat} {W : Z.WX} {tg : Expr}
theorem keep_of {st : Store} {u : U} {s : Src} (e3 : srcLst st u = some s) : s.Keep st := by
  unfold srcLst at e3
  split at e3
  · cases e3; intro p hp; cases hp
  · split at e3
    · rename_i us q
      cases e3
      intro p hp
      have : p = _ := List.mem_singleton.mp hp
      subst this
      exact q
    · cases e3
  · cases e3
/-- a locked dict at an address -/
def FzA (C : Cc) (A : List Addr) (H : Hp) (a : Addr) (o : Obj) (t : Bool) (kvs : List (PyData × U)) : Prop := match t with
  | false => ∃ es, H a = some (.frz o (.dK es)) ∧ KvG C A H kvD es kvs
  | true => ∃ es, H a = some (.frz o (.dT es)) ∧ KvG C A H kDs es kvs
theorem fz_run {A : List Addr} {τ : Vars} {σ : L2.St} {st : Store} {H : Hp} {u : U} {kvs : List (PyData × U)} {v : V} (c : Cn C base A τ st σ H) (e : fzOf st u = some kvs) (r : RpU C A H v u) : ∃ a o t, v = .ref a ∧ FzA C A H a o t kvs := by
  unfold fzOf at e
  split at e
  · cases e
    cases r with
    | d r =>
      cases r with
      | @dct a es _ h1 h2 => obtain ⟨o, h1⟩ := h1; exact ⟨a, o, false, rfl, es, h1, kvg_ofK h2⟩
      | @dctT a es _ h1 h2 => obtain ⟨o, h1⟩ := h1; exact ⟨a, o, true, rfl, es, h1, kvg_ofT h2⟩
  · split at e
    · rename_i t _ q
      cases e
      cases r with
      | @cell a _ ha =>
        obtain ⟨b, h1, h2⟩ := c.cells _ _ q
        rw [ha] at h1; cases h1
        cases t with
        | false => obtain ⟨es, o, h3, h4⟩ := h2; exact ⟨a, o, false, rfl, es, h3, kvg_mono pre_if h4⟩
        | true => obtain ⟨es, o, h3, h4⟩ := h2; exact ⟨a, o, true, rfl, es, h3, kvg_mono pre_if h4⟩
    · cases e
  · cases e
/-- d.items() -/
theorem pi_itms (k : Okc X C W) {e : Expr} {m : Mn} {apos cpos tpos : Pos} {elts : List Expr} {kk : Nat} (h : SE X C base W e m) (hp : plainE e = true) (hl : (apos.endLine == cpos.line) = true) :
    PI X (.Tuple elts kk tpos) (.Call (.Attribute e "items" apos) [] [] cpos) (RdI C base W fun τ st => (m.val τ st).bind fun u st1 => .opt (srcItems st1 u) fun s => .ok s st1) := by
  refine pi_imp (pi_itemsB h.val (base_plain hp) hl) fun σ H R q => ?_
  refine Rd.imp (Rd.bind q) fun v H1 ⟨A1, τ, st1, u, c, r, q⟩ => ?_
  obtain ⟨s, e, q⟩ := opt_run q
  unfold srcItems at e
  rw [Option.bind_eq_some_iff] at e
  obtain ⟨kvs, e1, e⟩ := e
  rw [Option.map_eq_some_iff] at e
  obtain ⟨xs, e2, rfl⟩ := e
  obtain ⟨a, o, t, rfl, d⟩ := fz_run c e1 r
  cases t with
  | false =>
    obtain ⟨es, h1, h2⟩ := d
    exact ⟨a, o, rfl, .inl ⟨es, h1, q _ H1 A1 .refl c (drv_items h1 h2 e2)⟩⟩
  | true =>
    obtain ⟨es, h1, h2⟩ := d
    exact ⟨a, o, rfl, .inr ⟨es, h1, q _ H1 A1 .refl c (drv_itemsT h1 h2 e2)⟩⟩
theorem pi_val (k : Okc X C W) {e : Expr} {m : Mn} (h : SE X C base W e m) : PI X tg e (RdI C base W fun τ st => (m.val τ st).bind fun u st1 => .opt (srcVal st1 u) fun s => .ok s st1) := by
  refine pi_imp (pi_or (pi_or (pi_list h.val) (pi_or (pi_tup h.val) (pi_str h.val))) (pi_keys h.val)) fun σ H R q => ?_
  obtain ⟨A, τ, st, c, q⟩ := q
  rw [k.K]
  have q : Aft C base W (Drv C) A H τ σ ((m.val τ st).bind fun u st1 => .opt (srcVal st1 u) fun s => .ok s st1) R := q
  cases e1 : m.val τ st with
  | exc x st1 => exact .inl (.inl ⟨A, τ, st, c, by rw [e1]; rw [e1] at q; exact q⟩)
  | bad => rw [e1] at q; exact q.elim
  | ok u st1 =>
    rw [e1] at q
    obtain ⟨s, e2, q⟩ := opt_run (show Aft C base W (Drv C) A H τ σ (.opt (srcVal st1 u) fun s => .ok s st1) R from q)
    have lst : srcLst st1 u = some s → iList C.K (RdU C base W m.val) σ H R := fun e3 => by
      refine ⟨A, τ, st, c, ?_⟩
      rw [e1]
      intro v H' A' g c' r
      obtain ⟨a, rfl, l⟩ := lstA_of e3 r
      have kp : s.Keep st1 := keep_of e3
      obtain ⟨vs, h1, _⟩ := l .refl c' kp
      exact ⟨a, rfl, ⟨vs, h1⟩, q _ H' A' g c' (drv_lst l)⟩
    unfold srcVal at e2
    split at e2
    · rename_i xs
      cases e2
      refine .inl (.inr (.inl ⟨A, τ, st, c, ?_⟩))
      rw [e1]
      intro v H' A' g c' r
      cases r with
      | d r =>
        cases r with
        | @tup a vs _ r1 r2 => exact ⟨a, rfl, ⟨vs, r1.sq⟩, q _ H' A' g c' (drv_tup r1 r2)⟩
    · rename_i z
      cases e2
      refine .inl (.inr (.inr ⟨A, τ, st, c, ?_⟩))
      rw [e1]
      intro v H' A' g c' r
      exact ⟨z, rstr r, q _ H' A' g c' drv_str⟩
    · split at e2
      · rename_i s' e3
        cases e2
        exact .inl (.inl (lst e3))
      · rw [Option.map_eq_some_iff] at e2
        obtain ⟨kvs, e3, rfl⟩ := e2
        refine .inr ⟨A, τ, st, c, ?_⟩
        rw [e1]
        intro v H' A' g c' r
        obtain ⟨a, o, t, rfl, d⟩ := fz_run c' e3 r
        cases t with
        | false =>
          obtain ⟨es, h1, h2⟩ := d
          exact ⟨a, o, rfl, .inl ⟨es, h1, q _ H' A' g c' (drv_keys h1 h2)⟩⟩
        | true =>
          obtain ⟨es, h1, h2⟩ := d
          exact ⟨a, o, rfl, .inr ⟨es, h1, q _ H' A' g c' (drv_keysT h1 h2)⟩⟩
theorem rints1 {A : List Addr} {H : Hp} {vs : List V} {i : Int} (r : RpUs C A H vs [.d (.int i)]) : vs = [.int i] := by
  cases r with
  | cons r rr => cases rr; rw [rint r]
theorem ses1 {es : List Expr} {ms : List Mn} (h : SEs X C base W es ms) (e : ms.length = 1) : ∃ a m, es = [a] ∧ ms = [m] ∧ SE X C base W a m ∧ noStar a = true := by
  cases h with
  | nil => cases e
  | cons a b c =>
    cases c with
    | nil => exact ⟨_, _, rfl, rfl, a, b⟩
    | cons _ _ _ => simp at e
theorem ses2 {es : List Expr} {ms : List Mn} (h : SEs X C base W es ms) (e : ms.length = 2) : ∃ a b m n, es = [a, b] ∧ ms = [m, n] ∧ SE X C base W a m ∧ noStar a = true ∧ SE X C base W b n ∧ noStar b = true := by
  cases h with
  | nil => cases e
  | cons a b c =>
    obtain ⟨x, m, rfl, rfl, h1, h2⟩ := ses1 c (by simpa using e)
    exact ⟨_, x, _, m, rfl, rfl, a, b, h1, h2⟩
theorem ses3 {es : List Expr} {ms : List Mn} (h : SEs X C base W es ms) (e : ms.length = 3) : ∃ a b c, es = [a, b, c] ∧ noStar a = true ∧ noStar b = true ∧ noStar c = true := by
  cases h with
  | nil => cases e
  | cons a b c =>
    obtain ⟨x, y, m, n, rfl, rfl, h1, h2, h3, h4⟩ := ses2 c (by simpa using e)
    exact ⟨_, x, y, rfl, b, h2, h4⟩
theorem star1 {e : Expr} (h : noStar e = true) : starEach [e] X.env = [(false, eval e X.env)] := by rw [star_cons h]; rfl
theorem pi_never {e : Expr} : PI X tg e (fun _ _ _ => False) := ⟨fun _ _ _ _ _ _ h => h.elim⟩
theorem pi_rng (k : Okc X C W) {es : List Expr} {ms : List Mn} {p pos : Pos} (hg : Gl X "range") (hm : X.mg "range" = none) (h : SEs X C base W es ms) (hn : ms.length = 1 ∨ ms.length = 2 ∨ ms.length = 3) :
    PI X tg (.Call (.Name "range" p) es [] pos) (RdI C base W fun τ st => (evs ms τ st).bind fun us st1 => .opt (srcRng ms.length us) fun s => .ok s st1) := by
  have ha := pa_evs h
  rcases hn with hn | hn | hn
  · obtain ⟨a, m, rfl, rfl, h1, h2⟩ := ses1 h hn
    refine pi_imp (pi_range1 hg hm ha (star1 h2)) fun σ H R q => ?_
    refine Rd.imp (Rd.bind q) fun vs H1 ⟨A1, τ, st1, us, c, r, q⟩ => ?_
    obtain ⟨s, e, q⟩ := opt_run q
    unfold srcRng at e
    split at e <;> try (first | cases e | (simp at hn; done))
    all_goals try (rename_i heq; simp at heq; done)
    rename_i j _
    obtain ⟨⟨e1, e2⟩, rfl⟩ := chk_run e
    exact ⟨j, rints1 r, e1, e2, q _ H1 A1 .refl c drv_rng⟩
  · obtain ⟨a, b, m, n, rfl, rfl, h1, h2, h3, h4⟩ := ses2 h hn
    refine pi_imp (pi_range2 hg hm ha (by rw [star_cons h2, star1 h4]) (star1 h4)) fun σ H R q => ?_
    refine Rd.imp (Rd.bind q) fun vs H1 ⟨A1, τ, st1, us, c, r, q⟩ => ?_
    obtain ⟨s, e, q⟩ := opt_run q
    unfold srcRng at e
    split at e <;> try (first | cases e | (simp at hn; done))
    all_goals try (rename_i heq; simp at heq; done)
    rename_i i j _
    obtain ⟨e1, rfl⟩ := chk_run e
    cases r with
    | cons r rr => exact ⟨i, j, by rw [rint r, rints1 rr], e1, q _ H1 A1 .refl c drv_rng⟩
  · obtain ⟨a, b, c, rfl, h2, h3, h4⟩ := ses3 h hn
    refine pi_imp (pi_range3 hg hm ha (by rw [star_cons h2]) (by rw [star_cons h3, star1 h4]; rfl)) fun σ H R q => ?_
    refine Rd.imp (Rd.bind q) fun vs H1 ⟨A1, τ, st1, us, c, r, q⟩ => ?_
    obtain ⟨s, e, q⟩ := opt_run q
    unfold srcRng at e
    rw [hn] at e
    split at e <;> try (first | cases e | (rename_i heq; exact absurd heq (by decide)))
    rename_i i j c' _
    obtain ⟨⟨e1, e2, e3, e4⟩, rfl⟩ := chk_run e
    cases r with
    | cons r rr =>
      cases rr with
      | cons r' rr => exact ⟨i, j, c', _, by rw [rint r, rint r', rints1 rr], ⟨e1, e2, e3, (Int.toNat_of_nonneg e4).symm⟩, q _ H1 A1 .refl c drv_rngC⟩
theorem pa_one {e : Expr} {f : Md U} (h : PE X e (RdU C base W f)) (hs : noStar e = true) : PA X [e] (fun σ H Q => RdU C base W f σ H fun v H1 => Q [v] H1) := by
  refine pa_imp (pa_cons h pa_nil (star_cons hs)) fun σ H Q q => q
theorem pi_enm (k : Okc X C W) {e : Expr} {m : Mn} {p pos tpos : Pos} {elts : List Expr} {kk : Nat} (hg : Gl X "enumerate") (hm : X.mg "enumerate" = none) (h : SE X C base W e m) (hs : noStar e = true) :
    PI X (.Tuple elts kk tpos) (.Call (.Name "enumerate" p) [e] [] pos) (RdI C base W fun τ st => (m.val τ st).bind fun u st1 => .opt (srcEnum st1 u) fun s => .ok s st1) := by
  refine pi_imp (pi_enum hg hm (pa_one h.val hs) (star1 hs)) fun σ H R q => ?_
  rw [k.K]
  refine Rd.imp (Rd.bind q) fun v H1 ⟨A1, τ, st1, u, c, r, q⟩ => ?_
  obtain ⟨s, e, q⟩ := opt_run q
  unfold srcEnum at e
  rw [Option.bind_eq_some_iff] at e
  obtain ⟨s0, e0, e⟩ := e
  rw [Option.map_eq_some_iff] at e
  obtain ⟨xs, e1, rfl⟩ := e
  obtain ⟨a, rfl, l⟩ := lstA_of e0 r
  obtain ⟨vs, h1, _⟩ := l .refl c (keep_of e0)
  exact ⟨a, vs, rfl, h1, q _ H1 A1 .refl c (drv_enum l e1)⟩
theorem pi_rev (k : Okc X C W) {e : Expr} {m : Mn} {p pos : Pos} (hg : Gl X "reversed") (hm : X.mg "reversed" = none) (h : SE X C base W e m) (hs : noStar e = true) :
    PI X tg (.Call (.Name "reversed" p) [e] [] pos) (RdI C base W fun τ st => (m.val τ st).bind fun u st1 => .opt (srcRev st1 u) fun s => .ok s st1) := by
  refine pi_imp (pi_reversed hg hm (pa_one h.val hs) (star1 hs)) fun σ H R q => ?_
  rw [k.K]
  refine Rd.imp (Rd.bind q) fun v H1 ⟨A1, τ, st1, u, c, r, q⟩ => ?_
  obtain ⟨s, e, q⟩ := opt_run q
  unfold srcRev at e
  rw [Option.map_eq_some_iff] at e
  obtain ⟨s0, e0, rfl⟩ := e
  obtain ⟨a, rfl, l⟩ := lstA_of e0 r
  obtain ⟨vs, h1, h2⟩ := l .refl c (keep_of e0)
  refine ⟨a, vs, rfl, h1, ?_⟩
  rw [us_len h2]
  exact q _ H1 A1 .refl c (drv_rev l)
theorem pi_zp (k : Okc X C W) {es : List Expr} {ms : List Mn} {p pos tpos : Pos} {elts : List Expr} {kk : Nat} (hg : Gl X "zip") (hm : X.mg "zip" = none) (h : SEs X C base W es ms) (hn : ms.length = 2) :
    PI X (.Tuple elts kk tpos) (.Call (.Name "zip" p) es [] pos) (RdI C base W fun τ st => (evs ms τ st).bind fun us st1 => .opt (srcZip st1 us) fun s => .ok s st1) := by
  have ha := pa_evs h
  obtain ⟨a, b, m, n, rfl, rfl, h1, h2, h3, h4⟩ := ses2 h hn
  refine pi_imp (pi_zip hg hm ha (by rw [star_cons h2]) (by rw [star1 h4]; rfl)) fun σ H R q => ?_
  rw [k.K]
  refine Rd.imp (Rd.bind q) fun vs H1 ⟨A1, τ, st1, us, c, r, q⟩ => ?_
  obtain ⟨s, e, q⟩ := opt_run q
  unfold srcZip at e
  split at e
  · rename_i u w
    rw [Option.bind_eq_some_iff] at e
    obtain ⟨s0, e0, e⟩ := e
    rw [Option.bind_eq_some_iff] at e
    obtain ⟨t0, f0, e⟩ := e
    rw [Option.bind_eq_some_iff] at e
    obtain ⟨xs, e1, e⟩ := e
    rw [Option.map_eq_some_iff] at e
    obtain ⟨ys, e2, rfl⟩ := e
    cases r with
    | cons r rr =>
      cases rr with
      | cons r' rr =>
        cases rr
        obtain ⟨a, rfl, l⟩ := lstA_of e0 r
        obtain ⟨b, rfl, l2⟩ := lstA_of f0 r'
        obtain ⟨vs, g1, _⟩ := l .refl c (keep_of e0)
        obtain ⟨ws, g2, _⟩ := l2 .refl c (keep_of f0)
        exact ⟨a, b, vs, ws, rfl, g1, g2, q _ H1 A1 .refl c (drv_zip l l2 e1 e2)⟩
  · cases e
end
end Z
/-! ZQ: dict(pairs) of tuple keys. -/
namespace Z
open PySem PySem.Spec PyProof.Rows L2
theorem storedAll_new {K : Type} [DecidableEq K] : ∀ (ps acc : List (K × Addr × Value)), ((acc ++ ps).map (·.1)).Nodup → storedAllH acc ps = acc ++ ps
  | [], acc, _ => by simp [storedAllH]
  | p :: ps, acc, h => by
    have h1 : atKey acc p.1 = none := by
      cases e : atKey acc p.1 with
      | none => rfl
      | some q =>
        exfalso
        have hm : p.1 ∈ acc.map (·.1) := by
          unfold atKey at e
          rw [Option.map_eq_some_iff] at e
          obtain ⟨y, e1, _⟩ := e
          have h2 := List.find?_some e1
          have h3 := List.mem_of_find?_eq_some e1
          exact List.mem_map.mpr ⟨y, h3, by simpa using h2⟩
        rw [List.map_append, List.map_cons, List.nodup_append] at h
        exact h.2.2 p.1 hm p.1 (by simp) rfl
    show storedAllH (storedH acc p.1 p.2.1 p.2.2) ps = _
    rw [storedH_new h1, storedAll_new ps (acc ++ [(p.1, p.2.1, p.2.2)]) (by simpa using h)]
    simp
/-- what the pairs are: the key's tuple, the value -/
structure PrT (K : PySem.W.Frag) (H : Hp) (v : V) (e : List Key × V) (p q : Addr) : Prop where
  v : v = .ref p
  t : SqT K H p [.ref q, e.2]
  k : H q = some (.tup (e.1.map kV))
section
variable {X : Cx}
theorem call_dictPT (hcalm : X.calm = true) (hun : X.A.units + 10 < cLine) : CallR X (.type "dict") (fun xs H Q => ∃ (a : Addr) (vs : List V) (es : List (List Key × V)) , xs = [.ref a] ∧ SqL X.K H a vs ∧ Paired (fun v e => ∃ p q, PrT X.K H v e p q) vs es ∧ (es.map (·.1)).Nodup ∧ es.length ≤ sizeLine ∧ ∀ d, H d = none → Q (.ref d) (upd H d (.dT es))) := by
  intro pins s σ H xs us Q I r ⟨a, vs, es, ex, hl, hp, nd, hz, q⟩
  subst ex
  obtain ⟨u, rfl, ra⟩ := vals1 r
  cases ra
  obtain ⟨its, rits, ⟨ol, nl, hol, holc, hold, hdat⟩, hz2⟩ := I.list hl
  -- the pairs as they stand
  obtain ⟨ps, hps⟩ : ∃ ps : List (List Key × Addr × Value × Value × Addr), Paired (fun (e : List Key × V) (x : List Key × Addr × Value × Value × Addr) => e.1 = x.1 ∧ H x.2.1 = some (.tup (e.1.map kV)) ∧ RelV e.2 x.2.2.1) es ps ∧ its = ps.map (fun x => .ref x.2.2.2.2) ∧ ∀ x ∈ ps, IsTup s.heap x.2.2.2.2 #[.ref x.2.1, x.2.2.1] := by
    clear q nd hl hdat hz hz2
    induction hp generalizing its with
    | nil => cases rits; exact ⟨[], .nil, rfl, by simp⟩
    | @cons v e vs es h t ih =>
      cases rits with
      | @cons _ w _ ws rw' rt =>
        obtain ⟨ps, g1, g2, g3⟩ := ih ws rt
        obtain ⟨p, q, hv, ht, hk⟩ := h
        subst hv
        cases rw'
        obtain ⟨it2, r2, tup, _⟩ := I.tuple ht
        cases r2 with
        | cons ra rb =>
          cases rb with
          | cons rb rc =>
            cases rc
            cases ra
            exact ⟨(e.1, q, _, .none, p) :: ps, .cons ⟨rfl, hk, rb⟩ g1, by rw [g2]; rfl, fun x hx => by
              rcases List.mem_cons.mp hx with z | z
              · subst z; exact tup
              · exact g3 x z⟩
  obtain ⟨hps1, hits, htup⟩ := hps
  have hln : es.length = ps.length := Paired.length hps1
  have hlv : vs.length = es.length := Paired.length hp
  have hli : its.length = ps.length := by rw [hits, List.length_map]
  obtain ⟨Ts, hTs⟩ : ∃ Ts : Nat → Addr, Ts = fun j => match ps[j]? with | some x => x.2.2.2.2 | none => 0 := ⟨_, rfl⟩
  have eq1 : (es.map (·.1)) = ps.map (·.1) := by
    clear q nd hl hdat hz hz2 hln hlv hli hits htup hTs hp
    induction hps1 with
    | nil => rfl
    | cons a b ih => simp [a.1, ih]
  refine call_dict_pairsH (knd := tupleKind (mixKind X.prog X.w)) (ps := ps.map fun x => (x.1, x.2.1, x.2.2.1)) (PairArg.list (prog := X.prog) (w := X.w) a its.toArray Ts (ps.map fun x => (.ref x.2.1, x.2.2.1))) (I.ok.hd hcalm) ?_ ⟨⟨ol, nl, hol, holc, hold, hdat⟩, ?_, ?_⟩ ⟨by simp, fun i key v e => ?_⟩ (fun h' k x hx => ?_) (by simp; omega) fun h' tk hd' hk => ?_
  · show X.A.units + 1 + 1 < cLine; omega
  · simp [hli]
  · intro j k v e
    rw [List.getElem?_map, Option.map_eq_some_iff] at e
    obtain ⟨x, e1, e2⟩ := e
    cases e2
    refine ⟨?_, ?_⟩
    · rw [List.getElem?_toArray, hits, List.getElem?_map, e1, hTs]
      simp [e1]
    · have : Ts j = x.2.2.2.2 := by rw [hTs]; simp [e1]
      rw [this]
      obtain ⟨o, g1, g2, g3⟩ := htup x (List.mem_of_getElem? e1)
      exact .inl ⟨o, g1, g2, g3⟩
  · have e' : (ps.map fun x => (Value.ref x.2.1, x.2.2.1))[i]? = some (key, v) := e
    rw [List.getElem?_map, Option.map_eq_some_iff] at e'
    obtain ⟨x, e1, e2⟩ := e'
    cases e2
    exact ⟨x.1, x.2.1, by rw [List.getElem?_map, e1]; rfl, rfl⟩
  · obtain ⟨y, hy, rfl⟩ := List.mem_map.mp hx
    obtain ⟨i, hi, e⟩ := List.mem_iff_getElem.mp hy
    have : ∃ e : List Key × V, e.1 = y.1 ∧ H y.2.1 = some (.tup (e.1.map kV)) := by
      have : ∀ {es : List (List Key × V)} {ps : List (List Key × Addr × Value × Value × Addr)}, Paired (fun (e : List Key × V) (x : List Key × Addr × Value × Value × Addr) => e.1 = x.1 ∧ H x.2.1 = some (.tup (e.1.map kV)) ∧ RelV e.2 x.2.2.1) es ps → y ∈ ps → ∃ e : List Key × V, e.1 = y.1 ∧ H y.2.1 = some (.tup (e.1.map kV)) := by
        intro es ps h
        induction h with
        | nil => intro h; cases h
        | cons a b ih =>
          intro h
          rcases List.mem_cons.mp h with z | z
          · subst z; exact ⟨_, a.1, a.2.1⟩
          · exact ih z
      exact this hps1 hy
    obtain ⟨e, e1, e2⟩ := this
    rw [e1] at e2
    obtain ⟨o, vs', n', g1, g2, g3, g4⟩ := key_of I.hok e2
    refine ⟨o, vs', n', k _ _ (Nat.ne_of_lt (Heap.lt_size g1)) (by simp) g1, g2, g3, g4⟩
  · have hnd : ((ps.map fun x => (x.1, x.2.1, x.2.2.1)).map (·.1)).Nodup := by rw [List.map_map]; rw [eq1] at nd; exact nd
    rw [storedAll_new _ [] (by simpa using hnd), List.nil_append] at hd'
    obtain ⟨o, es', ep, ho, hx, hdt, he, his, _⟩ := hd'
    have hno : H s.heap.objs.size = none := I.hok.fresh (Nat.le_refl _)
    refine ⟨.ref s.heap.objs.size, _, I.laid (t' := tk) (o := .dT es) (fun b u e => hk b u (by simp) e) (Nat.le_refl _) ?_, rfl, q _ hno⟩
    refine ⟨hz, beq_eq_false_iff_ne.mpr (Nat.ne_of_gt I.big), ps.map fun x => (x.1, x.2.1, x.2.2.1), ?_, o, es', ep, ho, hx, hdt, he, hnd⟩
    have : ∀ {es2 : List (List Key × V)} {ps : List (List Key × Addr × Value × Value × Addr)}, Paired (fun (e : List Key × V) (x : List Key × Addr × Value × Value × Addr) => e.1 = x.1 ∧ H x.2.1 = some (.tup (e.1.map kV)) ∧ RelV e.2 x.2.2.1) es2 ps →
        Paired (fun (p : List Key × V) (q : List Key × Addr × Value) => p.1 = q.1 ∧ (upd H s.heap.objs.size (.dT es)) q.2.1 = some (.tup (p.1.map kV)) ∧ RelV p.2 q.2.2) es2 (ps.map fun x => (x.1, x.2.1, x.2.2.1)) := by
      intro es2 ps h
      induction h with
      | nil => exact .nil
      | cons a b ih => exact .cons ⟨a.1, by rw [upd_ne (ne_of_none a.2.1 hno)]; exact a.2.1, a.2.2⟩ ih
    exact this hps1
end
section
variable {X : Cx} {C : Cc} {base : Nat} {W : Z.WX}
theorem boot_dict : bootBuiltins "dict" = some (.type "dict") := by decide +kernel
theorem keyD_eq : ∀ k : Key, keyD k = kvD k
  | .inl _ => rfl
  | .inr _ => rfl
theorem pairsT_run {A : List Addr} {H : Hp} : ∀ {vs : List V} {xs : List PyData} {ps : List (List Key × PyData)}, RpAll C.K C.w H vs xs → pairsT xs = some ps →
    ∃ es : List (List Key × V), Paired (fun v e => ∃ p q, PrT C.K H v e p q) vs es ∧ es.map (·.1) = ps.map (·.1) ∧ KvT C A H es (ps.map fun p => (.tuple (p.1.map keyD), .d p.2))
  | [], [], _, _, e => by cases e; exact ⟨[], .nil, rfl, .nil⟩
  | _ :: _, [], _, r, _ => by cases r
  | [], _ :: _, _, r, _ => by cases r
  | v :: vs, x :: xs, ps, r, e => by
    cases r with
    | cons a b =>
      unfold pairsT at e
      split at e
      · rename_i h; cases h
      · rename_i k y r' h
        cases h
        rw [Option.bind_eq_some_iff] at e
        obtain ⟨ks, e1, e⟩ := e
        rw [Option.map_eq_some_iff] at e
        obtain ⟨ps', e2, rfl⟩ := e
        obtain ⟨es, h1, h2, h3⟩ := pairsT_run (A := A) b e2
        have ek := unT_inv e1
        subst ek
        cases a with
        | @tup p ws _ t1 t2 =>
          cases t2 with
          | cons a1 a2 =>
            cases a2 with
            | cons a2 a3 =>
              cases a3
              cases a1 with
              | @tup q wk _ t3 t4 =>
                have hk := keys_eq t4
                subst hk
                refine ⟨(ks, _) :: es, .cons ⟨p, q, rfl, FzT.sq t1, t3⟩ h1, by simp [h2], .cons ⟨?_, .d a2⟩ h3⟩
                simp [keyD_eq]
      · cases e
theorem se_dctP (k : Okc X C W) {fr : Bool} {e : Expr} {m : Mn} {p pos : Pos} (hg : Gl X "dict") (hm : X.mg "dict" = none) (h : SE X C base W e m) (hs : noStar e = true) :
    SE X C base W (.Call (.Name "dict" p) [e] [] pos) (.of fun τ st => (m.val τ st).bind fun u st1 => .opt (dctPOf st1 u) fun mk => fin fr st1 mk) := by
  refine .of k (pe_fz (pe_callTy (call_dictPT k.calm (by have := k.units; omega)) hg hm boot_dict (pa_cons h.val pa_nil (star_cons hs)) (by decide) (by decide) (star_cons hs)) fun σ H Q z => ?_) fun _ => rfl
  refine Rd.imp (Rd.bind z) fun v H1 ⟨A1, τ, st1, u, c, r, z⟩ => ?_
  obtain ⟨mk, e1, z⟩ := opt_run z
  unfold dctPOf at e1
  rw [Option.bind_eq_some_iff] at e1
  obtain ⟨us, e2, e1⟩ := e1
  rw [Option.bind_eq_some_iff] at e1
  obtain ⟨xs, e3, e1⟩ := e1
  rw [Option.bind_eq_some_iff] at e1
  obtain ⟨ps, e4, e1⟩ := e1
  obtain ⟨⟨nd, hz⟩, rfl⟩ := chk_run e1
  obtain ⟨a, vs, rfl, s1, r1⟩ := lst_run c e2 r
  obtain ⟨es, h1, h2, h3⟩ := pairsT_run (A := A1) (r1.trees e3) e4
  have hl : es.length = ps.length := by have := congrArg List.length h2; simpa using this
  rw [k.K]
  exact ⟨a, vs, es, rfl, s1, h1, h2 ▸ nd, by rw [hl, sizeLine_eq]; omega, fun d hd => fin_run c z (.dT hd h3)⟩
end
end Z
/-! ZB: targets, comprehensions. -/
namespace Z
open PySem PySem.Spec PyProof.Rows L2
mutual
def gOf (K : PySem.W.Frag) : Tg → TG
  | .v i => gName i
  | .t ts => gTup K ts.length (gOfs K ts)
def gOfs (K : PySem.W.Frag) : List Tg → TGs
  | [] => gNil
  | t :: ts => gCons (gOf K t) (gOfs K ts)
end
mutual
def slots : Tg → List Nat
  | .v i => [i]
  | .t ts => slotss ts
def slotss : List Tg → List Nat
  | [] => []
  | t :: ts => slots t ++ slotss ts
end
theorem wipe_get {σ : L2.St} {i : Nat} : ∀ {vs : List Nat}, (wipe σ vs)[i]? = if i ∈ vs then (if i < σ.length then some none else none) else σ[i]?
  | [] => by simp [wipe]
  | v :: vs => by
    unfold wipe
    by_cases h : v = i
    · subst h
      by_cases hl : v < σ.length
      · rw [List.getElem?_set_self (by rw [wipe_length]; exact hl)]; simp [hl]
      · rw [List.getElem?_eq_none (by simp [wipe_length]; omega)]; simp [hl]
    · rw [List.getElem?_set_ne h, wipe_get]
      simp [show i ≠ v from fun e => h e.symm]
theorem wipeV_length : ∀ {vs : List Nat} {τ : Vars}, (wipeV τ vs).length = τ.length
  | [], _ => rfl
  | v :: vs, τ => by unfold wipeV; rw [List.length_set, wipeV_length]
theorem wipeV_get {τ : Vars} {i : Nat} : ∀ {vs : List Nat}, (wipeV τ vs)[i]? = if i ∈ vs then (if i < τ.length then some none else none) else τ[i]?
  | [] => by simp [wipeV]
  | v :: vs => by
    unfold wipeV
    by_cases h : v = i
    · subst h
      by_cases hl : v < τ.length
      · rw [List.getElem?_set_self (by rw [wipeV_length]; exact hl)]; simp [hl]
      · rw [List.getElem?_eq_none (by simp [wipeV_length]; omega)]; simp [hl]
    · rw [List.getElem?_set_ne h, wipeV_get]
      simp [show i ≠ v from fun e => h e.symm]
theorem wipe_set {σ : L2.St} {i : Nat} {x : Option V} {vs : List Nat} (h : i ∈ vs) : wipe (σ.set i x) vs = wipe σ vs := by
  apply List.ext_getElem?
  intro j
  rw [wipe_get, wipe_get]
  by_cases hj : j ∈ vs
  · simp [hj]
  · simp only [hj, if_false]
    rw [List.getElem?_set_ne (fun (e : i = j) => hj (e ▸ h))]
theorem wipe_wipe {σ : L2.St} {vs : List Nat} : wipe (wipe σ vs) vs = wipe σ vs := by
  apply List.ext_getElem?
  intro j
  rw [wipe_get, wipe_get, wipe_length]
  by_cases hj : j ∈ vs <;> simp [hj]
section
variable {C : Cc} {base : Nat} {A A' : List Addr} {τ τ1 : Vars} {st st' : Store} {σ σ1 : L2.St} {H H' : Hp}
theorem Cn.wiped (c : Cn C base A τ st σ H) (vs : List Nat) : Cn C base A (wipeV τ vs) st (wipe σ vs) H := by
  refine ⟨c.len, c.nd, c.le, c.cells, by rw [wipeV_length, wipe_length]; exact c.vlen, fun i u e => ?_, c.sys⟩
  rw [wipeV_get] at e
  by_cases hi : i ∈ vs
  · simp only [hi, if_true] at e
    split at e <;> cases e
  · simp only [hi, if_false] at e
    obtain ⟨v, h1, h2⟩ := c.vars i u e
    exact ⟨v, by rw [wipe_out hi]; exact h1, h2⟩
theorem Cn.back (c : Cn C base A τ st σ H) (g : Gr A H A' H') (c' : Cn C base A' τ1 st' σ1 H') : Cn C base A' τ st' σ H' :=
  ⟨c'.len, c'.nd, c'.le, c'.cells, c.vlen, fun i u e => by obtain ⟨v, h1, h2⟩ := c.vars i u e; exact ⟨v, h1, h2.gr g⟩, c'.sys⟩
mutual
theorem setT_run {v : V} {u : U} {Q : L2.St → Hp → Prop} : ∀ {tg : Tg} {τ τ1 : Vars} {σ : L2.St}, setT tg u τ = some τ1 → Cn C base A τ st σ H → RpU C A H v u →
    (∀ σ1, Cn C base A τ1 st σ1 H → (∀ vs : List Nat, (∀ i ∈ slots tg, i ∈ vs) → wipe σ1 vs = wipe σ vs) → Q σ1 H) → gOf C.K tg v σ H Q
  | .v i, τ, _, σ, e, c, r, q => by
    simp only [setT] at e
    cases e
    exact q _ (c.setVar r) fun vs hv => wipe_set (hv i (by simp [slots]))
  | .t ts, τ, _, σ, e, c, r, q => by
    cases u with
    | d x =>
      cases x <;> try (simp only [setT] at e; cases e; done)
      rename_i xs
      simp only [setT] at e
      split at e
      · rename_i hl
        cases r with
        | d r =>
          cases r with
          | @tup a vs _ r1 r2 =>
            exact ⟨a, vs, rfl, r1.sq, by rw [r2.length]; exact hl, setTs_run e c (.ofD r2) fun σ1 c1 hw => q σ1 c1 hw⟩
      · cases e
    | cell n => simp only [setT] at e; cases e
    | fn n => simp only [setT] at e; cases e
    | exc n => simp only [setT] at e; cases e
theorem setTs_run {vs : List V} {us : List U} {Q : L2.St → Hp → Prop} : ∀ {ts : List Tg} {τ τ1 : Vars} {σ : L2.St}, setTs ts us τ = some τ1 → Cn C base A τ st σ H → RpUs C A H vs us →
    (∀ σ1, Cn C base A τ1 st σ1 H → (∀ ws : List Nat, (∀ i ∈ slotss ts, i ∈ ws) → wipe σ1 ws = wipe σ ws) → Q σ1 H) → gOfs C.K ts vs σ H Q
  | [], τ, _, σ, e, c, r, q => by
    cases r with
    | nil => simp only [setTs] at e; cases e; exact ⟨rfl, q σ c fun _ _ => rfl⟩
    | cons _ _ => simp only [setTs] at e; cases e
  | t :: ts, τ, _, σ, e, c, r, q => by
    cases r with
    | nil => simp only [setTs] at e; cases e
    | cons a b =>
      simp only [setTs] at e
      rw [Option.bind_eq_some_iff] at e
      obtain ⟨τ2, e1, e2⟩ := e
      refine ⟨_, _, rfl, setT_run e1 c a fun σ1 c1 hw => ?_⟩
      refine setTs_run e2 c1 b fun σ2 c2 hw2 => q σ2 c2 fun ws h => ?_
      rw [hw2 ws fun i hi => h i (by simp only [slotss]; exact List.mem_append_right _ hi), hw ws fun i hi => h i (by simp only [slotss]; exact List.mem_append_left _ hi)]
end
end
/-! which targets of the program these are -/
mutual
def tgC (N : List Str) (loc : Str → Bool) : Expr → Tg → Bool
  | .Name x _, .v i => decide (N[i]? = some x) && loc x
  | .Tuple es _ _, .t ts => tgsC N loc es ts
  | _, _ => false
def tgsC (N : List Str) (loc : Str → Bool) : List Expr → List Tg → Bool
  | [], [] => true
  | e :: es, t :: ts => tgC N loc e t && tgsC N loc es ts
  | _, _ => false
end
section
variable {X : Cx} {loc : Str → Bool}
theorem asg_cons {N : List Str} {e : Expr} {es : List Expr} {t : Tg} (h : tgC N loc e t = true) (env : Env) : assignEach (e :: es) env = (false, assign e env) :: assignEach es env := by
  cases e <;> first | rfl | (cases t <;> simp [tgC] at h)
mutual
theorem pg_of (hN : X.N.Nodup) (hc : X.calm = true) (hl : ∀ x, loc x = true → Loc X.env.scope x ∧ (X.fn x = true ∨ X.env.scope.names.lookup x = some .local)) : ∀ {t : Tg} {e : Expr}, tgC X.N loc e t = true → PG X e (gOf X.K t)
  | .v i, e, h => by
    cases e <;> try (simp [tgC] at h; done)
    rename_i x p
    simp only [tgC, Bool.and_eq_true, decide_eq_true_eq] at h
    exact pg_name hN h.1 (hl x h.2).1 (hl x h.2).2
  | .t ts, e, h => by
    cases e <;> try (simp [tgC] at h; done)
    rename_i es k p
    simp only [tgC] at h
    obtain ⟨h1, h2, h3⟩ := pgs_of hN hc hl h
    exact pg_tup hc h1 h2 h3
theorem pgs_of (hN : X.N.Nodup) (hc : X.calm = true) (hl : ∀ x, loc x = true → Loc X.env.scope x ∧ (X.fn x = true ∨ X.env.scope.names.lookup x = some .local)) : ∀ {ts : List Tg} {es : List Expr}, tgsC X.N loc es ts = true →
    PGs X es (gOfs X.K ts) ∧ (assignEach es X.env).length = ts.length ∧ (assignEach es X.env).findIdx? (·.1) = none
  | [], es, h => by
    cases es with
    | nil => exact ⟨pgs_nil, rfl, rfl⟩
    | cons _ _ => simp [tgsC] at h
  | t :: ts, es, h => by
    cases es with
    | nil => simp [tgsC] at h
    | cons e es =>
      simp only [tgsC, Bool.and_eq_true] at h
      obtain ⟨h1, h2, h3⟩ := pgs_of hN hc hl h.2
      have q := asg_cons (es := es) h.1 X.env
      refine ⟨pgs_cons (pg_of hN hc hl h.1) h1 (by rw [q]; rfl), by rw [q]; simp [h2], by rw [q, List.findIdx?_cons]; simp [h3]⟩
end
end
/-! ### a list that is being made -/
section
variable {C : Cc} {base : Nat} {A A' : List Addr} {τ τ1 : Vars} {st st' : Store} {σ σ1 : L2.St} {H H' : Hp} {D : Addr} {vs : List V}
theorem Gr.beside {o : HO} (g : Gr A H A' H') (h : H D = none) : Gr A H A' (upd H' D o) := by
  refine ⟨g.pre, g.new, fun b x e t q => ?_, fun b x e t => ?_⟩
  · rw [upd_ne (ne_of_none e h)]; exact g.ext b x e t q
  · rw [upd_ne (ne_of_none e h)]; exact g.dom b x e t
theorem fz_keepD {o : HO} (h : H D = some (.lst vs)) : ∀ b x, Fz x → H b = some x → upd H D o b = some x := fun b x f e => by
  rw [upd_ne (fun z => by rw [z, h] at e; cases e; exact f)]; exact e
theorem Cn.keepD {o : HO} (c : Cn C base A τ st σ H) (h : H D = some (.lst vs)) (n : D ∉ A) : Cn C base A τ st σ (upd H D o) := by
  refine ⟨c.len, c.nd, c.le, fun m x e => ?_, c.vlen, fun i u e => ?_, c.sys.mono (fz_keepD h) fun b ps e => by rw [upd_ne (fun z => by rw [z, h] at e; cases e)]; exact e⟩
  · obtain ⟨a, h1, h2⟩ := c.cells m x e
    have hne : a ≠ D := fun z => n (z ▸ List.mem_of_getElem? h1)
    exact ⟨a, h1, h2.mono (fz_keepD h) List.prefix_rfl fun q h _ => by rw [upd_ne hne]; exact h⟩
  · obtain ⟨v, h1, h2⟩ := c.vars i u e
    exact ⟨v, h1, h2.mono (fz_keepD h) List.prefix_rfl⟩
theorem Cn.adopt {p : Addr} {k : Cont} (c : Cn C base A τ st σ H) (hp : p ∉ A) (hk : CellR C (A ++ [p]) H p k) : Cn C base (A ++ [p]) τ (st ++ [k]) σ H := by
  have mm : ∀ b o, Fz o → H b = some o → H b = some o := fun _ _ _ h => h
  refine ⟨by simp [c.len], ?_, by have := c.le; simp; omega, fun n x e => ?_, c.vlen, fun i u e => ?_, c.sys⟩
  · rw [List.nodup_append]
    refine ⟨c.nd, by simp, fun x hx y hy e => ?_⟩
    rw [List.mem_singleton.mp hy] at e
    exact hp (e ▸ hx)
  · by_cases hlt : n < st.length
    · rw [List.getElem?_append_left hlt] at e
      obtain ⟨a, h1, h2⟩ := c.cells n x e
      refine ⟨a, by rw [List.getElem?_append_left (by rw [c.len]; exact hlt)]; exact h1, h2.mono mm ?_ fun q h _ => h⟩
      exact ifpre (List.prefix_append _ _) (by rw [c.len]; exact c.le)
    · have e2 : n = st.length := by
        have := (List.getElem?_eq_some_iff.mp e).1
        simp at this; omega
      subst e2
      rw [List.getElem?_append_right (by omega)] at e
      simp at e
      subst e
      refine ⟨p, by rw [List.getElem?_append_right (by rw [c.len]; omega)]; simp [c.len], ?_⟩
      rw [if_neg (by have := c.le; omega)]
      exact hk
  · obtain ⟨v, h1, h2⟩ := c.vars i u e
    exact ⟨v, h1, h2.mono mm (List.prefix_append _ _)⟩
theorem Gr.adopt (g : Gr A H A' H') (h : H D = none) : Gr A H (A' ++ [D]) H' := by
  refine ⟨g.pre.trans (List.prefix_append _ _), fun a ha n => ?_, g.ext, g.dom⟩
  rcases List.mem_append.mp ha with q | q
  · exact g.new a q n
  · rw [List.mem_singleton.mp q]; intro o e; rw [h] at e; cases e
/-- the list is there -/
theorem fin_made {W : Z.WX} {A1 : List Addr} {H1 : Hp} {fr : Bool} {us : List U} {Q : VK} (g : Gr A1 H1 A H) (c : Cn C base A τ st σ H) (hD : H1 D = none) (h : H D = some (.lst vs)) (n : D ∉ A) (r : RpUs C A H vs us)
    (q : Aft C base W (RU C) A1 H1 τ σ (fin fr st (.lst us)) Q) : QF Q (.ref D) H := by
  by_cases hz : us.length ≤ sizeLine
  · cases fr with
    | true =>
      have e : fin true st (.lst us) = .ok (.cell st.length) (st ++ [.lst us]) := by simp only [fin]; rw [if_pos hz]; rfl
      rw [e] at q
      have c' := c.adopt (k := .lst us) n ⟨vs, h, RpUs.mono (fun _ _ _ h => h) (List.prefix_append _ _) r⟩
      exact .inl (q (.ref D) H _ (g.adopt hD) c' c.cellNew)
    | false =>
      have e : fin false st (.lst us) = Res.opt (trees us) fun xs => .ok (.d (.list xs)) st := by simp only [fin]; rw [if_pos hz]; rfl
      rw [e] at q
      obtain ⟨xs, e1, q⟩ := opt_run q
      refine .inr ⟨D, _, rfl, h, trivial, fun o => ?_⟩
      exact q (.ref D) _ A (g.beside hD) (c.keepD h n) (.d (.lst (.inl ⟨o, upd_same⟩) (RpAll.mono (fz_keepD h) (r.trees e1))))
  · have e : fin fr st (.lst us) = .bad := by simp only [fin]; rw [if_neg hz]
    rw [e] at q
    exact False.elim q
end
theorem nox_bind {α β γ : Type} (r : Res α) (f : α → Store → Res β) (k : β → Store → Res γ) : ((r.bind f).nox).bind k = r.nox.bind fun a st => (f a st).nox.bind k := by
  cases r <;> rfl
theorem pts_imp {X : Cx} {e : List Expr} {t t' : TT} (h : PTs X e t) (i : ∀ σ H Q, t' σ H Q → t σ H Q) : PTs X e t' := ⟨fun pins s σ H Q I q => h.run pins s σ H Q I (i σ H Q q)⟩
abbrev W0 : Z.WX := fun _ _ _ _ => False
theorem pts_of {X : Cx} {C : Cc} {base : Nat} {W : Z.WX} {es : List Expr} {ms : List Mn} (h : SEs X C base W es ms) (hn : ms.length ≤ 1) : PTs X es (RdB C base W (evA ms)) := by
  cases h with
  | nil => exact pts_imp pts_nil fun σ H Q ⟨A, τ, st, c, q⟩ => q true H A .refl c rfl
  | cons a b c =>
    cases c with
    | nil => exact pts_one a.tst
    | cons _ _ _ => simp at hn
section
variable {X : Cx} {C : Cc} {base : Nat} {W : Z.WX}
def LcI (C : Cc) (base : Nat) (W : Z.WX) (A1 : List Addr) (H1 : Hp) (τ : Vars) (σ : L2.St) (D : Addr) (step : U → Store → Res (Option U)) (src : Src) (fr : Bool) (Q : VK) (i : Nat) (H2 : Hp) : Prop :=
  i ≤ src.us.length ∧ ∃ A2 st2 acc vs, Gr A1 H1 A2 H2 ∧ Cn C base A2 τ st2 σ H2 ∧ H2 D = some (.lst vs) ∧ D ∉ A2 ∧ RpUs C A2 H2 vs acc ∧
    Aft C base W (RU C) A1 H1 τ σ ((compL src step (src.us.drop i) acc st2).bind fun us st5 => fin fr st5 (.lst us)) Q
theorem lc_read {fr : Bool} {own : List Nat} {elt : Mn} {tg : Tg} {it : Md Src} {cs : List Mn} {σ : L2.St} {H : Hp} {Q : VK} (hs : ∀ i ∈ slots tg, i ∈ own) (q : RdU C base W (compU fr own elt tg it cs) σ H Q) :
    tLc (RdI C base W it) (gOf C.K tg) (RdB C base W0 (evA cs)) (RdU C base W0 elt.val) own σ H (QF Q) := by
  refine Rd.imp (Rd.bind q) fun J H1 ⟨A1, τ, st1, src, c1, dr, q⟩ => ?_
  intro D hD
  generalize hstep : (fun u st2 => Res.opt (setT tg u (wipeV τ own)) fun τ1 => (evA cs τ1 st2).bind fun b st3 =>
    if b then (elt.val τ1 st3).bind fun x st4 => .ok (some x) st4 else .ok none st3 : U → Store → Res (Option U)) = step at q
  refine ⟨fun i m H2 => m = src.us.length - i ∧ LcI C base W A1 H1 τ σ D step src fr Q i H2,
    ⟨src.us.length, by simp, Nat.zero_le _, A1, st1, [], [], Gr.lay hD, c1.beside hD, upd_same, c1.fresh hD, .nil, q⟩, ?_⟩
  rintro i m H2 ⟨rfl, hi, A2, st2, acc, vs, g2, c2, hv, hn, r2, q⟩
  by_cases hlt : i < src.us.length
  · rw [List.drop_eq_getElem_cons hlt] at q
    unfold compL at q
    by_cases hk : src.Keep st2 ∧ acc.length < sizeLine
    · rw [if_pos hk] at q
      have hg : src.us[i]? = some src.us[i] := List.getElem?_eq_getElem hlt
      refine .inr ⟨dr.go g2 c2 hk.1 hg, LcI C base W A1 H1 τ σ D step src fr Q (i + 1), fun H' n => ⟨src.us.length - (i + 1), by omega, rfl, n⟩, ?_⟩
      · intro x H3 y
        obtain ⟨g3, c3, r3, hk3⟩ := dr.yld g2 c2 hk.1 hg y
        have hv3 := hk3 _ _ hv
        have r2' := r2.gr g3
        have g13 := g2.trans g3
        rw [← hstep] at q
        cases e1 : setT tg src.us[i] (wipeV τ own) with
        | none => simp only [e1, Res.opt_none, Res.nox_bad, Res.bind_bad] at q; exact q.elim
        | some τ1 =>
          simp only [e1, Res.opt_some] at q
          rw [nox_bind] at q
          refine setT_run e1 (c3.wiped own) r3 fun σ2 c4 hw => ⟨by rw [hw own hs, wipe_wipe], A2, τ1, st2, c4, ?_⟩
          cases e2 : evA cs τ1 st2 with
          | bad => rw [e2] at q; exact q.elim
          | exc a b => rw [e2] at q; exact q.elim
          | ok b st3 =>
            rw [e2] at q
            simp only [Res.nox_ok, Res.bind_ok] at q
            intro b' H4 A4 g4 c5 hb
            cases (show b' = b from hb)
            have hv4 : H4 D = some (.lst vs) := g4.ext D _ hv3 (fun _ e => nomatch e) (.inl hn)
            have hn4 : D ∉ A4 := fun z => by
              by_cases z2 : D ∈ A2
              · exact hn z2
              · exact absurd (fun _ e => nomatch e) (g4.new D z z2 _ hv3)
            cases b with
            | false =>
              simp only [Bool.false_eq_true, if_false, Res.nox_ok, Res.bind_ok, Option.toList, List.append_nil] at q ⊢
              exact ⟨hlt, A4, st3, acc, vs, g13.trans g4, c3.back g4 c5, hv4, hn4, r2'.gr g4, by rw [hstep] at q; exact q⟩
            | true =>
              simp only [if_true] at q ⊢
              rw [nox_bind] at q
              refine ⟨A4, τ1, st3, c5, ?_⟩
              cases e3 : elt.val τ1 st3 with
              | bad => rw [e3] at q; exact q.elim
              | exc a b => rw [e3] at q; exact q.elim
              | ok w st4 =>
                rw [e3] at q
                simp only [Res.nox_ok, Res.bind_ok, Option.toList] at q
                intro z H5 A5 g5 c6 r6
                have hv5 : H5 D = some (.lst vs) := g5.ext D _ hv4 (fun _ e => nomatch e) (.inl hn4)
                have hn5 : D ∉ A5 := fun z => by
                  by_cases z2 : D ∈ A4
                  · exact hn4 z2
                  · exact absurd (fun _ e => nomatch e) (g5.new D z z2 _ hv4)
                have r5 := (r2'.gr g4).gr g5
                refine ⟨vs, hv5, by rw [us_len r2]; exact hk.2, hlt, A5, st4, acc ++ [w], vs ++ [z], ((g13.trans g4).trans g5).beside hD, ((c3.back g4 c5).back g5 c6).keepD hv5 hn5, upd_same, hn5, ?_, by rw [hstep] at q; exact q⟩
                exact RpUs.mono (fz_keepD hv5) List.prefix_rfl (pair_app r5 (.cons r6 .nil))
    · rw [if_neg hk] at q; exact q.elim
  · have e : i = src.us.length := by omega
    subst e
    rw [List.drop_eq_nil_of_le (Nat.le_refl _)] at q
    unfold compL at q
    by_cases hk : src.Keep st2
    · rw [if_pos hk] at q
      exact .inl ⟨dr.stop g2 c2 hk (Nat.le_refl _), fin_made g2 c2 hD hv hn r2 q⟩
    · rw [if_neg hk] at q; exact q.elim
theorem se_cp (k : Okc X C W) {fr : Bool} {own : List (Str × Nat)} {e : Expr} {tgE iter : Expr} {ifs : List Expr} {scope : Scope} {pos : Pos} {elt : Mn} {tg : Tg} {it : Md Src} {cs : List Mn}
    (hi : PI X tgE iter (RdI C base W it)) (ok : BlkOk X.N X.env.scope scope own)
    (hg : ∀ (s : Shared) (H : Hp) (D : Addr) (cl : List (Str × Addr)) (fp : List Addr), PG (X.blk s H scope (compEnvC scope cl D X.env) fp) tgE (gOf X.K tg))
    (ht : ∀ (s : Shared) (H : Hp) (D : Addr) (cl : List (Str × Addr)) (fp : List Addr), SEs (X.blk s H scope (compEnvC scope cl D X.env) fp) C base W0 ifs cs) (hl : cs.length ≤ 1)
    (he : ∀ (s : Shared) (H : Hp) (D : Addr) (cl : List (Str × Addr)) (fp : List Addr), SE (X.blk s H scope (compEnvC scope cl D X.env) fp) C base W0 e elt)
    (hsl : ∀ i ∈ slots tg, i ∈ own.map (·.2)) (hs : ∀ x, foldedSetIterable iter X.env x = pure x) :
    SE X C base W (.ListComp e [⟨tgE, iter, ifs, 0⟩] scope pos) (.of (compU fr (own.map (·.2)) elt tg it cs)) := by
  refine .of k (pe_fz (pe_lc k.calm k.nd hi ok hg (fun s H D cl fp => pts_of (ht s H D cl fp) hl) (fun s H D cl fp => (he s H D cl fp).val) hs) fun σ H Q q => ?_) fun _ => rfl
  rw [k.K]
  exact lc_read hsl q
end
end Z
/-! ZY: dicts that are written, dict(enumerate(..)). -/
namespace Z
open PySem PySem.Spec PyProof.Rows L2
/-- each item by its place -/
def enumV (i : Nat) : List V → List (Key × V)
  | [] => []
  | v :: r => (.inl (i : Int), v) :: enumV (i + 1) r
theorem enumV_len : ∀ (i : Nat) (vs : List V), (enumV i vs).length = vs.length
  | _, [] => rfl
  | i, v :: r => by simp [enumV, enumV_len (i + 1) r]
def enumW (i : Nat) : List Value → List (Key × Value)
  | [] => []
  | v :: r => (.inl (i : Int), v) :: enumW (i + 1) r
theorem enumW_get : ∀ (us : List Value) (i j : Nat) (v : Value), us[j]? = some v → (enumW i us)[j]? = some (.inl ((i + j : Nat) : Int), v)
  | [], _, _, _, h => by simp at h
  | u :: r, i, 0, v, h => by simp at h; subst h; rfl
  | u :: r, i, j + 1, v, h => by
    have := enumW_get r (i + 1) j v (by simpa using h)
    simp only [enumW, List.getElem?_cons_succ, this]
    congr 3
    omega
theorem enumW_len : ∀ (i : Nat) (us : List Value), (enumW i us).length = us.length
  | _, [] => rfl
  | i, v :: r => by simp [enumW, enumW_len (i + 1) r]
theorem enum_kv : ∀ (i : Nat) {vs : List V} {us : List Value}, Vals vs us → KV (enumV i vs) (enumW i us)
  | _, _, _, .nil => .nil
  | i, _, _, .cons r t => .cons ⟨rfl, r⟩ (enum_kv (i + 1) t)
theorem merge_enum : ∀ (vs : List V) (acc : List (Key × V)) (i : Nat), (∀ p ∈ acc, ∃ j : Nat, j < i ∧ p.1 = .inl (j : Int)) → mergeK acc (enumV i vs) = acc ++ enumV i vs
  | [], acc, i, _ => by simp [enumV, mergeK]
  | v :: r, acc, i, h => by
    have no : (acc.any fun kv => decide (kv.1 = (.inl (i : Int) : Key))) = false := by
      rw [List.any_eq_false]
      intro p hp
      obtain ⟨j, hj, e⟩ := h p hp
      rw [e]
      simp only [decide_eq_true_eq]
      intro z
      have z' : (j : Int) = (i : Int) := Sum.inl.inj z
      omega
    have pk : putK acc (.inl (i : Int) : Key) v = acc ++ [(.inl (i : Int), v)] := by
      unfold putK
      rw [no]
      rfl
    have ih := merge_enum r (acc ++ [(.inl (i : Int), v)]) (i + 1) fun p hp => by
      rcases List.mem_append.mp hp with q | q
      · obtain ⟨j, hj, e⟩ := h p q
        exact ⟨j, by omega, e⟩
      · rw [List.mem_singleton.mp q]; exact ⟨i, by omega, rfl⟩
    show mergeK (putK acc (.inl (i : Int) : Key) v) (enumV (i + 1) r) = _
    rw [pk, ih, List.append_assoc]
    rfl
section
variable {X : Cx} {C : Cc} {base : Nat} {W : Z.WX}
/-- dict(enumerate(xs)) -/
theorem pe_dictEnum (hcalm : X.calm = true) {e : Expr} {ta : TA} {p p2 pos pos2 : Pos} (hg : Gl X "dict") (hm : X.mg "dict" = none) (hg2 : Gl X "enumerate") (hm2 : X.mg "enumerate" = none) (ha : PA X [e] ta) (hs : starEach [e] X.env = [(false, eval e X.env)]) :
    PE X (.Call (.Name "dict" p) [.Call (.Name "enumerate" p2) [e] [] pos2] [] pos) (fun σ H Q => ta σ H fun vs H1 => ∃ a xs, vs = [.ref a] ∧ SqL X.K H1 a xs ∧ xs.length ≤ sizeLine ∧ ∀ d, H1 d = none → Q (.ref d) (upd H1 d (.dK (enumV 0 xs)))) := by
  refine ⟨fun pins s σ H Q I h => ?_⟩
  refine Call_ (ld_blt I hg hm PyProof.Rows.boot_dict (PyProof.Rows.callWith_type1 ?_ (star_cons (es := []) rfl) rfl))
  show wpAny _ _ (spliced ((false, eval (.Call (.Name "enumerate" p2) [e] [] pos2) X.env) :: backTo pos (starEach [] X.env))) _ _ s
  refine Calls.spliced_cons ?_
  refine Call_ (ld_blt I hg2 hm2 PyProof.Rows.boot_enumerate (PyProof.Rows.callWith_type1 (thn (ha.run pos2 pins s σ H _ I h) fun us s1 ⟨vs, H1, I1, r1, q1⟩ => ?_) hs rfl))
  obtain ⟨a, xs, ex, hq, hz, q⟩ := q1
  subst ex
  cases r1 with
  | cons r rr =>
    cases rr
    cases r
    obtain ⟨its, rv, pl, _⟩ := I1.list hq
    have hlen := rv.length
    refine PySem.call_enumerate_list pl.isList fun h1 he hit hsz hk => ?_
    refine wpAny_pure ?_
    -- the dict of its pairs
    have al : a < s1.heap.objs.size := by obtain ⟨⟨_, _, _, _⟩, ho, _⟩ := pl.isList; exact Heap.lt_size ho
    have hh : X.A.handled = none := I1.ok.hd hcalm
    have ok : (∃ old, IsEnum h1 (s1.heap.objs.size + 1) s1.heap.objs.size 0 old) ∧ h1.IsListIter s1.heap.objs.size a 0 ∧ h1.IsList a its.toArray := ⟨⟨_, he⟩, hit, pl.isList.at fun o x => hk _ o x⟩
    refine PySem.call_dict_pairs (knd := mixKind X.prog X.w) (kvs := enumW 0 its) (PairArg.enumerate (s1.heap.objs.size + 1) s1.heap.objs.size a (Nat.succ_ne_self _) (Nat.ne_of_lt (Nat.lt_succ_of_lt al)) (Nat.ne_of_lt al) its.toArray) hh ok ⟨by simp [enumW_len], fun i key v ⟨hk2, hv⟩ => ?_⟩ (by simp; omega) fun h2 tk hd keep => ?_
    · obtain ⟨t, rfl⟩ := hk2
      refine ⟨.inl (i : Int), by have := enumW_get its 0 i v (by simpa using hv); simpa using this, ?_⟩
      exact mixKind_int X.prog X.w i t
    · have hsz2 : h1.objs.size = s1.heap.objs.size + 2 := hsz
      have kp : ∀ b o, s1.heap.get? b = some o → h2.get? b = some o := fun b o e => by
        have hb := Heap.lt_size e
        refine keep b o (fun z => ?_) (hk b o e)
        rcases List.mem_cons.mp z with z | z
        · rw [z] at hb; exact absurd hb (Nat.not_lt.mpr (Nat.le_succ _))
        · rw [List.mem_singleton.mp z] at hb; exact absurd hb (Nat.lt_irrefl _)
      have new : H1 h1.objs.size = none := I1.hok.fresh (by omega)
      have hmd : (h1.objs.size == sysModules) = false := beq_eq_false_iff_ne.mpr (Nat.ne_of_gt (Nat.lt_of_lt_of_le I1.big (by rw [hsz2]; exact Nat.le_add_right _ _)))
      have kvr := enum_kv 0 rv
      have mg := KV.merge kvr (kvs := []) (vs := []) .nil
      rw [merge_enum xs [] 0 (fun p hp => nomatch hp)] at mg
      exact ⟨.ref h1.objs.size, upd H1 h1.objs.size (.dK (enumV 0 xs)), I1.laid (t' := tk) kp (by omega) (show ObjOk X.prog X.w _ _ _ (.dK (enumV 0 xs)) from ⟨by rw [enumV_len]; exact hz, hmd, merged [] (enumW 0 its), mg, hd⟩), rfl, q _ new⟩
theorem enumK_len : ∀ (i : Nat) (us : List U), (enumK i us).length = us.length
  | _, [] => rfl
  | i, v :: r => by simp [enumK, enumK_len (i + 1) r]
theorem enum_rel {A : List Addr} {H : Hp} : ∀ (i : Nat) {vs : List V} {us : List U}, RpUs C A H vs us → KvK C A H (enumV i vs) (enumK i us)
  | _, _, _, .nil => .nil
  | i, _, _, .cons r t => .cons ⟨rfl, r⟩ (enum_rel (i + 1) t)
theorem fin_lenD {fr : Bool} {A : List Addr} {H : Hp} {τ : Vars} {σ : L2.St} {st : Store} {t : Bool} {kvs : List (PyData × U)} {Q : VK} (h : Aft C base W (RU C) A H τ σ (fin fr st (.dct t kvs)) Q) : kvs.length ≤ sizeLine := by
  by_cases hz : kvs.length ≤ sizeLine
  · exact hz
  · have e : fin fr st (.dct t kvs) = .bad := by simp only [fin]; rw [if_neg hz]
    rw [e] at h
    exact False.elim h
theorem se_dctE (k : Okc X C W) {fr : Bool} {e : Expr} {m : Mn} {p p2 pos pos2 : Pos} (hg : Gl X "dict") (hm : X.mg "dict" = none) (hg2 : Gl X "enumerate") (hm2 : X.mg "enumerate" = none) (h : SE X C base W e m) (hs : noStar e = true) :
    SE X C base W (.Call (.Name "dict" p) [.Call (.Name "enumerate" p2) [e] [] pos2] [] pos) (.of fun τ st => (m.val τ st).bind fun u st1 => .opt ((lstOf st1 u).map fun us => Mk.dct false (enumK 0 us)) fun mk => fin fr st1 mk) := by
  refine .of k (pe_fz (pe_dictEnum k.calm hg hm hg2 hm2 (pa_cons h.val pa_nil (star_cons hs)) (star_cons hs)) fun σ H Q q => ?_) fun _ => rfl
  refine Rd.imp (Rd.bind q) fun v H1 ⟨A1, τ, st1, u, c, r, q⟩ => ?_
  obtain ⟨mk, e, q⟩ := opt_run q
  rw [Option.map_eq_some_iff] at e
  obtain ⟨us, e1, rfl⟩ := e
  obtain ⟨a, vs, rfl, s1, r1⟩ := lst_run c e1 r
  have hz := fin_lenD q
  rw [enumK_len] at hz
  exact ⟨a, vs, rfl, k.K ▸ s1, by rw [us_len r1]; exact hz, fun d hd => fin_run c q (.dK hd (enum_rel 0 r1))⟩
theorem se_dct1 (k : Okc X C W) {fr : Bool} {i j : Int} {n1 n2 : Nat} {p1 p2 pos : Pos} : SE X C base W (.Dict [some (.Constant (.int i) n1 p1)] [.Constant (.int j) n2 p2] pos) (.of fun _ st => fin fr st (.dct false [(.int i, .d (.int j))])) := by
  refine .of k (pe_fz (pe_disp (pps_cons pe_int pe_int pps_nil) rfl rfl (by simp) (by simp)) fun σ H Q ⟨A, τ, st, c, h⟩ d hd => ?_) fun _ => rfl
  refine ⟨upd_same, [(.inl i, .int j)], rfl, by simp, ?_⟩
  rw [upd2]
  exact fin_run c h (.dK hd (.cons ⟨rfl, .d (.int j)⟩ .nil))
/-! a display of a dict -/
theorem Cn.keepF {A : List Addr} {τ : Vars} {σ : L2.St} {st : Store} {H H' : Hp} (c : Cn C base A τ st σ H) (m : ∀ b o, Fz o → H b = some o → H' b = some o) (t : ∀ b ps, H b = some (.tbl ps) → H' b = some (.tbl ps)) (k : ∀ b ∈ A, ∀ o, H b = some o → NTbl o → H' b = some o) : Cn C base A τ st σ H' := by
  refine ⟨c.len, c.nd, c.le, fun n x e => ?_, c.vlen, fun i u e => ?_, c.sys.mono m t⟩
  · obtain ⟨a, h1, h2⟩ := c.cells n x e
    exact ⟨a, h1, h2.mono m List.prefix_rfl (k a (List.mem_of_getElem? h1))⟩
  · obtain ⟨v, h1, h2⟩ := c.vars i u e
    exact ⟨v, h1, h2.mono m List.prefix_rfl⟩
inductive SPs (X : Cx) (C : Cc) (base : Nat) (W : Z.WX) : List (Option Expr) → List Expr → List Mn → List (TE × TE) → Prop
  | nil : SPs X C base W [] [] [] []
  | cons {k v : Expr} {m1 m2 : Mn} {ks : List (Option Expr)} {vs : List Expr} {ms : List Mn} {trs : List (TE × TE)} : SE X C base W k m1 → SE X C base W v m2 → SPs X C base W ks vs ms trs →
      SPs X C base W (some k :: ks) (v :: vs) (m1 :: m2 :: ms) ((RdU C base W m1.val, RdU C base W m2.val) :: trs)
theorem sps_pps {pos : Pos} {ks : List (Option Expr)} {vs : List Expr} {ms : List Mn} {trs : List (TE × TE)} (h : SPs X C base W ks vs ms trs) : PPs X pos ks vs trs := by
  induction h with
  | nil => exact pps_nil
  | cons a b _ ih => exact pps_cons a.val b.val ih
theorem sps_len {ks : List (Option Expr)} {vs : List Expr} {ms : List Mn} {trs : List (TE × TE)} (h : SPs X C base W ks vs ms trs) : ks.length = vs.length ∧ ks.all (·.isSome) = true := by
  induction h with
  | nil => exact ⟨rfl, rfl⟩
  | cons a b _ ih => exact ⟨by simp [ih.1], by simp [ih.2]⟩
def interl : List (Option Expr) → List Expr → Option (List Expr)
  | [], [] => some []
  | some k :: ks, v :: vs => (interl ks vs).map fun r => k :: v :: r
  | _, _ => none
theorem sps_of : ∀ {ks : List (Option Expr)} {vs es : List Expr} {ms : List Mn}, interl ks vs = some es → SEs X C base W es ms → ∃ trs, SPs X C base W ks vs ms trs
  | [], [], _, _, e, h => by cases e; cases h; exact ⟨_, .nil⟩
  | some k :: ks, v :: vs, _, _, e, h => by
    simp only [interl, Option.map_eq_some_iff] at e
    obtain ⟨r, e, rfl⟩ := e
    cases h with
    | cons a _ h =>
      cases h with
      | cons b _ h =>
        obtain ⟨trs, t⟩ := sps_of e h
        exact ⟨_, .cons a b t⟩
  | [], _ :: _, _, _, e, _ => by cases e
  | some _ :: _, [], _, _, e, _ => by cases e
  | none :: _, _, _, _, e, _ => by cases e
def pairV : List V → List (V × V)
  | a :: b :: r => (a, b) :: pairV r
  | _ => []
theorem sps_run {ks : List (Option Expr)} {vs : List Expr} {ms : List Mn} {trs : List (TE × TE)} (h : SPs X C base W ks vs ms trs) : ∀ {σ : L2.St} {H : Hp} {Q : List (V × V) → Hp → Prop}, RdUs C base W (evs ms) σ H (fun vs H' => Q (pairV vs) H') → tPairs trs σ H Q := by
  induction h with
  | nil => intro σ H Q ⟨A, τ, st, c, q⟩; exact q [] H A .refl c .nil
  | cons a b _ ih =>
    intro σ H Q q
    refine Rd.imp (Rd.bind q) fun x H1 ⟨A1, τ, st1, u, c, r, q⟩ => ?_
    refine Rd.imp (Aft.next c (Aft.bind (R1 := RUs C) q)) fun y H2 ⟨A2, st2, w, g, c2, r2, q2⟩ => ?_
    refine ih (Rd.imp (Aft.next c2 q2) fun vs H3 ⟨A3, st3, us, g3, c3, r3, q3⟩ => ?_)
    obtain ⟨A4, st4, a, g4, c4, r4, q4⟩ := q3 (y :: vs) H3 A3 .refl c3 (.cons (r2.gr g3) r3)
    exact q4 (x :: y :: vs) H3 A4 .refl c4 (.cons (r.gr g4) r4)
theorem pairs_rel {A : List Addr} {H : Hp} : ∀ {us : List U} {vs : List V} {ps : List (PyData × U)}, RpUs C A H vs us → pairsU us = some ps → ps.all (fun kv => (unK kv.1).isSome) = true → ∃ kvs : List (Key × V), pairV vs = kvs.map (fun kv => (kV kv.1, kv.2)) ∧ KvG C A H kvD kvs ps
  | [], _, _, .nil, e, _ => by cases e; exact ⟨[], rfl, .nil⟩
  | [_], _, _, _, e, _ => by simp [pairsU] at e
  | .d k :: u :: r, _, _, .cons a (.cons b t), e, hk => by
    simp only [pairsU, Option.map_eq_some_iff] at e
    obtain ⟨ps, e, rfl⟩ := e
    simp only [List.all_cons, Bool.and_eq_true] at hk
    obtain ⟨kvs, h1, h2⟩ := pairs_rel t e hk.2
    obtain ⟨kk, hkk⟩ := Option.isSome_iff_exists.mp hk.1
    have ex := unK_inv hkk
    subst ex
    refine ⟨(kk, _) :: kvs, ?_, .cons ⟨rfl, b⟩ h2⟩
    rw [List.map_cons, ← h1]
    cases a with
    | d a => cases kk with
      | inl i => cases a; rfl
      | inr s => cases a; rfl
  | .cell _ :: _ :: _, _, _, _, e, _ => by simp [pairsU] at e
  | .fn _ :: _ :: _, _, _, _, e, _ => by simp [pairsU] at e
  | .exc _ :: _ :: _, _, _, _, e, _ => by simp [pairsU] at e
theorem merge_rel {A : List Addr} {H : Hp} {es : List (Key × V)} {ps : List (PyData × U)} (h : KvG C A H kvD es ps) : ∀ {as : List (Key × V)} {bs : List (PyData × U)}, KvG C A H kvD as bs → KvG C A H kvD (mergeK as es) (ps.foldl putK2 bs) := by
  induction h with
  | nil => intro as bs r; exact r
  | @cons e kv es ps a b ih =>
    intro as bs r
    have e1 : putK2 bs kv = putD unK kv.1 e.1 kv.2 bs := by
      unfold putK2
      rw [a.1, unK_kvD]
    rw [List.foldl_cons, e1]
    exact ih (by rw [a.1]; exact put_rel unK_kvD r a.2)
theorem se_disp (k : Okc X C W) {fr : Bool} {ks : List (Option Expr)} {vs es : List Expr} {ms : List Mn} {pos : Pos} (hi : interl ks vs = some es) (h : SEs X C base W es ms) (h0 : ks ≠ []) (h15 : ks.length ≤ 15) :
    SE X C base W (.Dict ks vs pos) (.of fun τ st => (evs ms τ st).bind fun us st1 => .opt (dispOf us) fun mk => fin fr st1 mk) := by
  obtain ⟨trs, h⟩ := sps_of hi h
  refine .of k (pe_fz (pe_disp (sps_pps h) (sps_len h).2 (sps_len h).1 h0 h15) fun σ H Q q => ?_) fun _ => rfl
  intro p hp
  obtain ⟨A, τ, st, c, q⟩ := q
  have c1 := c.beside (o := .dK []) hp
  have g1 : Gr A H A (upd H p (.dK [])) := Gr.lay hp
  have hpA := c.fresh hp
  refine sps_run h ⟨A, τ, st, c1, ?_⟩
  have q : Aft C base W (RU C) A H τ σ ((evs ms τ st).bind fun us st1 => .opt (dispOf us) fun mk => fin fr st1 mk) Q := q
  cases e : evs ms τ st with
  | bad => rw [e] at q; exact q.elim
  | exc x st1 => rw [e] at q; exact fun H' A' kk g => q H' A' kk (g1.trans g)
  | ok us st1 =>
    rw [e] at q
    intro vs H2 A2 g2 c2 r2
    obtain ⟨mk, e1, q⟩ := opt_run (show Aft C base W (RU C) A H τ σ (.opt (dispOf us) fun mk => fin fr st1 mk) Q from q)
    unfold dispOf at e1
    rw [Option.bind_eq_some_iff] at e1
    obtain ⟨ps, e2, e1⟩ := e1
    obtain ⟨⟨_, e4, e5⟩, rfl⟩ := chk_run e1
    have h2p : H2 p = some (.dK []) := g2.ext p _ upd_same (fun _ z => nomatch z) (.inl hpA)
    obtain ⟨kvs, h1, h2⟩ := pairs_rel r2 e2 e5
    refine ⟨h2p, kvs, h1, by rw [Paired.length h2]; exact e4, ?_⟩
    have hp2 : p ∉ A2 := fun z => by
      exact absurd (fun _ e => nomatch e) (g2.new p z hpA _ upd_same)
    -- the heap without the dict
    let H3 : Hp := fun b => if b = p then none else H2 b
    have h3p : H3 p = none := if_pos rfl
    have h3 : ∀ b, b ≠ p → H3 b = H2 b := fun b hb => if_neg hb
    have eu : ∀ o, upd H3 p o = upd H2 p o := fun o => by
      funext b
      by_cases hb : b = p
      · subst hb; rw [upd_same, upd_same]
      · rw [upd_ne hb, upd_ne hb, h3 b hb]
    have mm : ∀ b o, Fz o → H2 b = some o → H3 b = some o := fun b o f eb => by
      have hb : b ≠ p := fun z => by subst z; rw [h2p] at eb; cases eb; exact f
      rw [h3 b hb]; exact eb
    have tt : ∀ b ps, H2 b = some (.tbl ps) → H3 b = some (.tbl ps) := fun b ps eb => by
      have hb : b ≠ p := fun z => by subst z; rw [h2p] at eb; cases eb
      rw [h3 b hb]; exact eb
    have c3 : Cn C base A2 τ st1 σ H3 := c2.keepF mm tt fun b hb o eb _ => by
      rw [h3 b (fun z => hp2 (z ▸ hb))]; exact eb
    have g12 := g1.trans g2
    have g3 : Gr A H A2 H3 := by
      refine ⟨g12.pre, g12.new, fun b o hb ht hc => ?_, fun b o hb ht => ?_⟩
      · rw [h3 b (fun z => by subst z; rw [hp] at hb; cases hb)]; exact g12.ext b o hb ht hc
      · rw [h3 b (fun z => by subst z; rw [hp] at hb; cases hb)]; exact g12.dom b o hb ht
    have kr : KvG C A2 H3 kvD kvs ps := Paired.mapP h2 fun _ _ z => ⟨z.1, z.2.mono mm List.prefix_rfl⟩
    have := fin_run c3 (q.gr g3) (.dK h3p (merge_rel kr (as := []) (bs := []) .nil))
    rw [eu] at this
    exact this
end
end Z
/-! ZP: == of dicts whose keys are tuples. -/
namespace Z
open PySem PySem.Spec PyProof.Rows L2 PySem.W
section
variable {prog : Program} {w : World} {K : Type} [DecidableEq K] {knd : HeapKind prog w K} {A : Around} {E : Value → Shared → Prop} {s : Shared}
inductive HitsH {K : Type} [DecidableEq K] (A : Around) (s : Shared) (xb : List (K × Addr × Value)) : List (K × Addr × Value) → Bool → Prop
  | nil : HitsH A s xb [] true
  | miss {k : K} {p : Addr × Value} {r : List (K × Addr × Value)} : (∀ (j : Nat) (q : Addr × Value), xb[j]? ≠ some (k, q)) → HitsH A s xb ((k, p) :: r) false
  | diff {k : K} {a : Addr} {v : Value} {r : List (K × Addr × Value)} {j : Nat} {b : Addr} {y : Value} : xb[j]? = some (k, b, y) → SeqAt.EqAt A s v y false → HitsH A s xb ((k, a, v) :: r) false
  | hit {k : K} {a : Addr} {v : Value} {r : List (K × Addr × Value)} {j : Nat} {b : Addr} {y : Value} {t : Bool} : xb[j]? = some (k, b, y) → SeqAt.EqAt A s v y true → HitsH A s xb r t → HitsH A s xb ((k, a, v) :: r) t
theorem HitsH.inv {xb : List (K × Addr × Value)} {k : K} {a : Addr} {v : Value} {r : List (K × Addr × Value)} {t : Bool} (h : HitsH A s xb ((k, a, v) :: r) t) :
    ((∀ (j : Nat) (q : Addr × Value), xb[j]? ≠ some (k, q)) ∧ t = false) ∨ ∃ (j : Nat) (b : Addr) (y : Value), xb[j]? = some (k, b, y) ∧ ((SeqAt.EqAt A s v y false ∧ t = false) ∨ (SeqAt.EqAt A s v y true ∧ HitsH A s xb r t)) := by
  cases h with
  | miss hn => exact .inl ⟨hn, rfl⟩
  | diff hj he => exact .inr ⟨_, _, _, hj, .inl ⟨he, rfl⟩⟩
  | hit hj he hr => exact .inr ⟨_, _, _, hj, .inr ⟨he, hr⟩⟩
theorem samePairsH {nm : String} {a b : Addr} {xa xb : List (K × Addr × Value)} {r : Bool} {Q : Bool → Shared → Prop} (ha : (a == sysModules) = false) (hb : (b == sysModules) = false) (hu : knd.room A)
    (da : s.heap.DictOfH knd a xa) (db : s.heap.DictOfH knd b xb) (hits : xa.length = xb.length → HitsH A s xb xa r) (h : Q (xa.length == xb.length && r) s) :
    wpAny (model prog w) A (Builtin.Dict.samePairs nm a b) Q E s := by
  obtain ⟨oa, es, ep, hoa, _, hda, hea, hia, hna⟩ := da
  obtain ⟨ob, es', ep', hob, _, hdb, heb, hib, hnb⟩ := db
  have hla : xa.length = es.size := (size_of_entries hea).symm
  have hlb : xb.length = es'.size := (size_of_entries heb).symm
  rw [hla, hlb] at h
  unfold Builtin.Dict.samePairs Builtin.Dict.showsAll
  rw [if_neg (show ¬ (a == sysModules) = true by rw [ha]; exact Bool.false_ne_true), if_neg (show ¬ (b == sysModules) = true by rw [hb]; exact Bool.false_ne_true)]
  refine wpAny_bind (wpAny_pure (wpAny_bind (wpAny_pure ?_)))
  refine wpAny_bind (wpAny_dictEntries hoa hda ?_)
  dsimp only
  refine wpAny_bind (wpAny_dictEntries hob hdb ?_)
  by_cases hsz : es.size = es'.size
  case neg =>
    rw [if_pos (by simpa using hsz)]
    have hbf : (es.size == es'.size) = false := by simpa using hsz
    rw [hbf, Bool.false_and] at h
    exact wpAny_bind (wpAny_rule (wpAny_pure h))
  case pos =>
    have h' : Q r s := by simpa [hsz] using h
    have hits' := hits (by rw [hla, hlb]; exact hsz)
    rw [if_neg (by rw [hsz]; simp)]
    refine wpAny_bind (wpAny_dictEpoch hoa hda ?_)
    refine wpAny_bind ?_
    rw [Std.Legacy.Range.forIn_eq_forIn_range']
    simp only [Std.Legacy.Range.size, Nat.sub_zero, Nat.add_sub_cancel, Nat.div_one]
    refine wpAny_forIn_list _
      (fun rest q s' => s' = s ∧ q = (none, ()) ∧ ∃ i, rest = List.range' i (es.size - i) ∧ i ≤ es.size ∧ HitsH A s xb (xa.drop i) r)
      _ ?_ ?_ _ _ ⟨rfl, rfl, 0, by simp, Nat.zero_le _, hits'⟩
    · rintro x rest q s' ⟨rfl, rfl, i, hr, hi, hpre⟩
      have hlt : i < es.size := by
        rcases Nat.lt_or_ge i es.size with h | h
        · exact h
        · rw [Nat.sub_eq_zero_of_le h] at hr; simp at hr
      obtain ⟨rfl, hrest⟩ : x = i ∧ rest = List.range' (i + 1) (es.size - (i + 1)) := by
        have e : es.size - i = (es.size - (i + 1)) + 1 := by omega
        rw [e, List.range'_succ] at hr
        injection hr with h1 h2
        exact ⟨h1, h2⟩
      refine wpAny_bind (wpAny_dictEntries hoa hda ?_)
      have hlt' : x < xa.length := by rw [hla]; exact hlt
      obtain ⟨k, p, v, hkv⟩ : ∃ k p v, xa[x] = (k, p, v) := ⟨_, _, _, rfl⟩
      have hdrop : xa.drop x = (k, p, v) :: xa.drop (x + 1) := by rw [← hkv]; exact List.drop_eq_getElem_cons hlt'
      have hin : (k, p, v) ∈ xa := hkv ▸ List.getElem_mem hlt'
      have hex : es[x]? = some ⟨knd.hash k, .ref p, v⟩ := by
        rw [entry_at hea x, List.getElem?_eq_getElem hlt', hkv]; rfl
      rw [hex]
      have hkey : knd.is s'.heap k p := hia _ hin
      rw [hdrop] at hpre
      show wpAny _ _ (holding [Value.ref p, v] _ >>= _) _ _ _
      refine wpAny_bind (wpAny_holding (wpAny_bind (wpAny_dictFind_heap hu hkey hob hdb heb hib hnb (fun hno => ?_) (fun j q hj => ?_))))
      · rcases hpre.inv with ⟨_, er⟩ | ⟨j, b', y, hj, _⟩
        · rw [er] at h'
          refine wpAny_pure ?_
          show wpAny _ _ (if (!false) = true then _ else _) _ _ _
          rw [if_pos (by decide)]
          exact wpAny_pure (wpAny_pure h')
        · exact absurd hj (hno j _)
      · refine wpAny_bind (wpAny_dictEntries hob hdb ?_)
        have hex' : es'[j]? = some ⟨knd.hash k, .ref q.1, q.2⟩ := by rw [entry_at heb j, hj]; rfl
        rw [hex']
        rcases hpre.inv with ⟨hn, _⟩ | ⟨j', b', y, hj', hc⟩
        · exact absurd hj (hn j q)
        · have ej := idxH_unique hnb hj hj'
          subst ej
          rw [hj] at hj'
          have eq' : q = (b', y) := by injection hj' with z; injection z
          subst eq'
          rcases hc with ⟨he, er⟩ | ⟨he, hrr⟩
          · refine wpAny_holding (he prog w _ _ ?_)
            rw [er] at h'
            show wpAny _ _ (if (!false) = true then _ else _) _ _ _
            rw [if_pos (by decide)]
            exact wpAny_pure (wpAny_pure h')
          · refine wpAny_holding (he prog w _ _ ?_)
            show wpAny _ _ (if (!true) = true then _ else _) _ _ _
            rw [if_neg (by decide)]
            refine wpAny_bind (wpAny_dictEpoch hoa hda ?_)
            rw [if_neg (by simp)]
            exact wpAny_pure ⟨rfl, rfl, x + 1, hrest, hlt, hrr⟩
    · rintro q s' ⟨rfl, rfl, i, hr, hi, hpre⟩
      have hin : i = es.size := by
        rcases Nat.lt_or_ge i es.size with h | h
        · have e : es.size - i = (es.size - (i + 1)) + 1 := by omega
          rw [e, List.range'_succ] at hr; exact nomatch hr
        · exact Nat.le_antisymm hi h
      refine wpAny_pure ?_
      rw [hin, ← hla, List.drop_length] at hpre
      cases hpre
      exact h'
theorem dict_typeIs {a : Addr} {xa : List (K × Addr × Value)} (da : s.heap.DictOfH knd a xa) : s.TypeIs (.ref a) "dict" := da.typeIs
theorem samePairs_cmp {neg : Bool} {a b : Addr} {xa xb : List (K × Addr × Value)} {r : Bool} {Q : Value → Shared → Prop} (ha : (a == sysModules) = false) (hb : (b == sysModules) = false) (hr : knd.room A.in1)
    (da : s.heap.DictOfH knd a xa) (db : s.heap.DictOfH knd b xb) (hu : A.units < cLine) (hits : xa.length = xb.length → HitsH A.in1 s xb xa r) (h : Q (.bool (if neg then !(xa.length == xb.length && r) else (xa.length == xb.length && r))) s) :
    wpAny (model prog w) A (compareOp (if neg then .NotEq else .Eq) (.ref a) (.ref b)) Q E s := by
  cases neg with
  | false =>
    refine wpAny_richCompare_same_room (op := .Eq) da.typeIs db.typeIs PySem.F.slot_dict_eq (wpAny_call_entry PySem.F.slot_dict_eq da.typeIs PySem.F.entry_dict_eq ?_ (PySem.F.args_dict_eq_2 _ _)) hu
    show wpAny _ _ (Builtin.Dict.dictSlotArgs "__eq__" ⟨[.ref a, .ref b], []⟩ >>= _) _ _ s
    refine wpAny_bind ?_
    unfold Builtin.Dict.dictSlotArgs
    refine wpAny_bind (wpAny_notOrdered_dict da.typeIs ?_)
    show wpAny _ _ (pure (Value.ref a, Value.ref b)) _ _ s
    refine wpAny_pure ?_
    refine wpAny_bind (wpAny_isInstance (T := "dict") db.typeIs PySem.F.sub_dict_dict ?_)
    simp only [Bool.not_true, Bool.false_eq_true, if_false]
    refine wpAny_bind (wpAny_pure (wpAny_bind (wpAny_pure ?_)))
    refine wpAny_bind (samePairsH ha hb hr da db hits ?_)
    refine wpAny_pure ⟨_, rfl, ?_, ?_⟩
    · exact fun x => nomatch x
    · simpa using h
  | true =>
    refine wpAny_richCompare_same_room (op := .NotEq) da.typeIs db.typeIs PySem.F.slot_dict_ne (wpAny_call_entry PySem.F.slot_dict_ne da.typeIs PySem.F.entry_dict_ne ?_ (PySem.F.args_dict_ne_2 _ _)) hu
    show wpAny _ _ (Builtin.Dict.dictSlotArgs "__ne__" ⟨[.ref a, .ref b], []⟩ >>= _) _ _ s
    refine wpAny_bind ?_
    unfold Builtin.Dict.dictSlotArgs
    refine wpAny_bind (wpAny_notOrdered_dict da.typeIs ?_)
    show wpAny _ _ (pure (Value.ref a, Value.ref b)) _ _ s
    refine wpAny_pure ?_
    refine wpAny_bind (wpAny_isInstance (T := "dict") db.typeIs PySem.F.sub_dict_dict ?_)
    simp only [Bool.not_true, Bool.false_eq_true, if_false]
    refine wpAny_bind (wpAny_pure (wpAny_bind (wpAny_pure ?_)))
    refine wpAny_bind (samePairsH ha hb hr da db hits ?_)
    refine wpAny_pure ⟨_, rfl, ?_, ?_⟩
    · exact fun x => nomatch x
    · simpa using h
end
end Z
/-! ZI: == of dicts whose keys are tuples; displays of these. -/
namespace Z
open PySem PySem.Spec PyProof.Rows L2 PySem.W
inductive EqW (K : PySem.W.Frag) (H : Hp) (fs : List (List Key × V)) : List (List Key × V) → Bool → Prop
  | nil : EqW K H fs [] true
  | miss {k : List Key} {v : V} {r : List (List Key × V)} : valV fs k = none → EqW K H fs ((k, v) :: r) false
  | diff {k : List Key} {v y : V} {r : List (List Key × V)} {d f : PyData} : valV fs k = some y → Dp K H v d → Dp K H y f → SeqAt.shaped d = true → SeqAt.shaped f = true → d.eqv f = false → EqW K H fs ((k, v) :: r) false
  | hit {k : List Key} {v y : V} {r : List (List Key × V)} {d f : PyData} {t : Bool} : valV fs k = some y → Dp K H v d → Dp K H y f → SeqAt.shaped d = true → SeqAt.shaped f = true → d.eqv f = true → EqW K H fs r t → EqW K H fs ((k, v) :: r) t
section
theorem atKey_none {xs : List (List Key × Addr × Value)} {k : List Key} (h : atKey xs k = none) : ∀ (j : Nat) (q : Addr × Value), xs[j]? ≠ some (k, q) := by
  intro j q e
  unfold atKey at h
  rw [Option.map_eq_none_iff, List.find?_eq_none] at h
  have := h _ (List.mem_of_getElem? e)
  simp at this
theorem atKey_some {xs : List (List Key × Addr × Value)} {k : List Key} {p : Addr × Value} (h : atKey xs k = some p) : ∃ j : Nat, xs[j]? = some (k, p) := by
  unfold atKey at h
  rw [Option.map_eq_some_iff] at h
  obtain ⟨⟨k', p'⟩, h1, rfl⟩ := h
  have h2 := List.find?_some h1
  have h3 := List.mem_of_find?_eq_some h1
  obtain ⟨j, hj⟩ := List.getElem?_of_mem h3
  have : k' = k := by simpa using h2
  subst this
  exact ⟨j, hj⟩
end
section
variable {X : Cx} {C : Cc} {W : Z.WX} {base : Nat}
theorem hits_of {pins : List (Addr × Obj)} {σ : L2.St} {H : Hp} {s : Shared} (I : Inv X pins σ H s) (hu : X.A.in1.units + 64 < cLine) {fs : List (List Key × V)} {ys : List (List Key × Addr × Value)} (r2 : KT H fs ys) {es : List (List Key × V)} {t : Bool} (h : EqW X.K H fs es t) :
    ∀ {xs : List (List Key × Addr × Value)}, KT H es xs → HitsH X.A.in1 s ys xs t := by
  have look : ∀ {k : List Key} {y : V}, valV fs k = some y → ∃ (j : Nat) (b : Addr) (w : Value), ys[j]? = some (k, b, w) ∧ RelV y w := fun {k y} e => by
    obtain ⟨w', hw, rw'⟩ := RelO.some_of (v := y) (o := (atKey ys k).map (·.2)) (by rw [← e]; exact KT.val r2 k)
    rw [Option.map_eq_some_iff] at hw
    obtain ⟨⟨b, w⟩, h1, rfl⟩ := hw
    obtain ⟨j, hj⟩ := atKey_some h1
    exact ⟨j, b, w, hj, rw'⟩
  have eqs : ∀ {v y : V} {u w : Value} {d f : PyData}, Dp X.K H v d → Dp X.K H y f → RelV v u → RelV y w → SeqAt.shaped d = true → SeqAt.shaped f = true → SeqAt.EqAt X.A.in1 s u w (d.eqv f) := fun {v y u w d f} hd hf rv rw1 sd sf => by
    obtain ⟨as, r1⟩ := Dp.reads I d v u hd rv
    obtain ⟨bs, r3⟩ := Dp.reads I f y w hf rw1
    exact keq_at r1 r3 sd sf hu
  induction h with
  | nil => intro xs r; cases r; exact .nil
  | @miss k v r hn =>
    intro xs r1
    cases r1 with
    | @cons _ q _ qs a b =>
      obtain ⟨kq, pq⟩ := q
      obtain ⟨h1, h2, h3⟩ := a
      cases (show k = kq from h1)
      have h4 := KT.val r2 k
      rw [hn] at h4
      refine .miss (atKey_none ?_)
      cases e : atKey ys k with
      | none => rfl
      | some p => rw [e] at h4; exact False.elim h4
  | @diff k v y r d f e hd hf sd sf ne =>
    intro xs r1
    cases r1 with
    | @cons _ q _ qs a b =>
      obtain ⟨kq, aq, vq⟩ := q
      obtain ⟨h1, h2, h3⟩ := a
      cases (show k = kq from h1)
      obtain ⟨j, b', w, hj, rw'⟩ := look e
      have := eqs hd hf h3 rw' sd sf
      rw [ne] at this
      exact .diff hj this
  | @hit k v y r d f t e hd hf sd sf ne _ ih =>
    intro xs r1
    cases r1 with
    | @cons _ q _ qs a b =>
      obtain ⟨kq, aq, vq⟩ := q
      obtain ⟨h1, h2, h3⟩ := a
      cases (show k = kq from h1)
      obtain ⟨j, b', w, hj, rw'⟩ := look e
      have := eqs hd hf h3 rw' sd sf
      rw [ne] at this
      exact .hit hj this (ih b)
theorem op_eqT (k : Okc X C W) (neg : Bool) : OpR X (compareOp (if neg then .NotEq else .Eq)) (fun x y H Q => ∃ (a b : Addr) (es fs : List (List Key × V)) (t : Bool), x = .ref a ∧ y = .ref b ∧ L2.Rd H a (.dT es) ∧ L2.Rd H b (.dT fs) ∧ (es.length = fs.length → EqW X.K H fs es t) ∧
    Q (.bl (if neg then !(es.length == fs.length && t) else (es.length == fs.length && t))) H) := by
  intro pins s σ H x y v u Q I rx ry h
  obtain ⟨a, b, es, fs, t, rfl, rfl, h1, h2, hw, q⟩ := h
  cases (show v = Value.ref a from rx)
  cases (show u = Value.ref b from ry)
  obtain ⟨_, ha, xs, r1, d1⟩ := dt_rd I.hok h1
  obtain ⟨_, hb, ys, r2, d2⟩ := dt_rd I.hok h2
  have l1 : es.length = xs.length := Paired.length r1
  have l2 : fs.length = ys.length := Paired.length r2
  have hu : X.A.units + 100 < cLine := k.units
  have hi : X.A.in1.units + 64 < cLine := by
    have e : X.A.in1.units = X.A.units + 1 := rfl
    omega
  refine samePairs_cmp (r := t) ha hb (tupleKind_room_in1 (by omega)) d1 d2 (by omega) (fun hl => hits_of I hi r2 (hw (by rw [l1, l2]; exact hl)) r1) ?_
  rw [← l1, ← l2]
  exact ⟨.bl _, H, I, rfl, q⟩
variable {A : List Addr} {τ : Vars} {σ : L2.St} {st : Store} {H : Hp}
theorem dctT_run {u : U} {kvs : List (PyData × U)} {v : V} (c : Cn C base A τ st σ H) (e : dctT st u = some kvs) (r : RpU C A H v u) : ∃ a es, v = .ref a ∧ L2.Rd H a (.dT es) ∧ KvG C A H kDs es kvs := by
  unfold dctT at e
  split at e
  · split at e
    · cases e
      obtain ⟨a, h1, es, h2, h3⟩ := tree_tup r
      exact ⟨a, es, h1, h2, h3⟩
    · cases e
  · split at e
    · rename_i q
      cases e
      obtain ⟨a, h1, es, h2, h3⟩ := dct_cell c (.inl q) r
      exact ⟨a, es, h1, h2, h3⟩
    · rename_i q
      cases e
      obtain ⟨a, h1, es, h2, h3⟩ := dct_cell c (.inr q) r
      exact ⟨a, es, h1, h2, h3⟩
    · cases e
  · cases e
theorem eqW_run {fs : List (List Key × V)} {ls : List (PyData × U)} (r2 : KvG C A H kDs fs ls) {es : List (List Key × V)} {kvs : List (PyData × U)} (r : KvG C A H kDs es kvs) : ∀ {t : Bool}, eqW ls kvs = some t → EqW C.K H fs es t := by
  induction r with
  | nil => intro t e; cases e; exact .nil
  | @cons e kv es kvs a b ih =>
    intro t h
    obtain ⟨ek, ev⟩ := e
    obtain ⟨kk, ku⟩ := kv
    obtain ⟨a1, a2⟩ := a
    have a1' : kk = kDs ek := a1
    subst a1'
    have e1 : unT (kDs ek) = some ek := unT_kDs ek
    unfold eqW at h
    rw [e1, Option.bind_some] at h
    obtain ⟨g1, g2⟩ := get_rel (un := unT) (sh := kDs) unT_kDs r2 ek
    split at h
    · rename_i q
      cases h
      exact .miss (g2 q)
    · rename_i w q
      rw [Option.bind_eq_some_iff] at h
      obtain ⟨x, e2, h⟩ := h
      rw [Option.bind_eq_some_iff] at h
      obtain ⟨y, e3, h⟩ := h
      rw [Option.bind_eq_some_iff] at h
      obtain ⟨z, e4, h⟩ := h
      obtain ⟨⟨s1, s2⟩, rfl⟩ := chk_run e4
      obtain ⟨v, hv, rv⟩ := g1 w q
      have ex : ku = .d x := by cases ku <;> cases e2; rfl
      have ey : w = .d y := by cases w <;> cases e3; rfl
      subst ex ey
      cases a2 with
      | d a2 => cases rv with
        | d rv =>
          have d1 := Rp.dp (shaped_lay s1) a2
          have d2 := Rp.dp (shaped_lay s2) rv
          split at h
          · rename_i hz
            exact .hit hv d1 d2 s1 s2 hz (ih h)
          · rename_i hz
            cases h
            exact .diff hv d1 d2 s1 s2 (by simpa using hz)
theorem deqT_run {x y : V} {u w : U} {t : Bool} (c : Cn C base A τ st σ H) (ra : RpU C A H x u) (rb : RpU C A H y w) (e : eqDct st u w = some t) :
    ∃ (a b : Addr) (es fs : List (List Key × V)) (t' : Bool), x = .ref a ∧ y = .ref b ∧ L2.Rd H a (.dT es) ∧ L2.Rd H b (.dT fs) ∧ (es.length = fs.length → EqW C.K H fs es t') ∧ t = (es.length == fs.length && t') := by
  unfold eqDct at e
  rw [Option.bind_eq_some_iff] at e
  obtain ⟨kvs, e1, e⟩ := e
  rw [Option.bind_eq_some_iff] at e
  obtain ⟨ls, e2, e⟩ := e
  obtain ⟨a, es, rfl, h1, h2⟩ := dctT_run c e1 ra
  obtain ⟨b, fs, rfl, h3, h4⟩ := dctT_run c e2 rb
  have l1 : es.length = kvs.length := Paired.length h2
  have l2 : fs.length = ls.length := Paired.length h4
  split at e
  · rename_i hl
    refine ⟨a, b, es, fs, t, rfl, rfl, h1, h3, fun _ => eqW_run h4 h2 e, ?_⟩
    have : (es.length == fs.length) = true := by rw [l1, l2]; simpa using hl
    rw [this, Bool.true_and]
  · rename_i hl
    cases e
    refine ⟨a, b, es, fs, true, rfl, rfl, h1, h3, fun z => absurd (by rw [← l1, ← l2]; exact z) hl, ?_⟩
    have : (es.length == fs.length) = false := by rw [l1, l2]; simpa using hl
    rw [this, Bool.false_and]
/-- what the comparison wants -/
theorem one_deq (k : Okc X C W) {neg : Bool} {e : Expr} {m : Mn} (h : SE X C base W e m) {pins : List (Addr × Obj)} {s : Shared} {σ : L2.St} {H : Hp} {v : V} {u : Value} {Q : Bool → Hp → Prop} (I : Inv X pins σ H s) (r : RelV v u)
    (q : ∃ A τ st x, Cn C base A τ st σ H ∧ RpU C A H v x ∧ Aft C base W RB A H τ σ ((m.val τ st).bind fun w st2 => .opt (eqDct st2 x w) fun t => .ok (if neg then !t else t) st2) Q) :
    wpAny (model X.prog X.w) X.A (eval e X.env) (fun w s1 => wpAny (model X.prog X.w) X.A (compareOp (if neg then .NotEq else .Eq) u w) (EP X pins σ fun z H2 => ∃ b, z = .bl b ∧ Q b H2) X.xe s1) X.xe s := by
  obtain ⟨A, τ, st, x, c, rx, q⟩ := q
  refine thn (h.val.run pins s σ H _ I (Aft.next c q)) fun w s1 ⟨y, H1, I1, r1, A1, st1, z, g, c1, rz, q1⟩ => ?_
  obtain ⟨b, e1, q1⟩ := opt_run q1
  obtain ⟨a, b', es, fs, t', ea, eb, h1, h2, h3, rfl⟩ := deqT_run c1 (rx.gr g) rz e1
  refine op_eqT k neg pins s1 σ H1 v y u w _ I1 r r1 ⟨a, b', es, fs, t', ea, eb, h1, h2, k.K ▸ h3, ?_⟩
  exact ⟨_, rfl, q1 _ H1 A1 .refl c1 rfl⟩
theorem se_deq (k : Okc X C W) {neg : Bool} {a e : Expr} {m m2 : Mn} {pos : Pos} (ha : SE X C base W a m) (h : SE X C base W e m2) (hm : lastMarks [if neg then CmpOp.NotEq else CmpOp.Eq] [e] = false) :
    SE X C base W (.Compare a [if neg then CmpOp.NotEq else CmpOp.Eq] [e] pos) ⟨fun τ st => (deqU neg m m2 τ st).bind fun t st1 => .ok (.d (.bool t)) st1, deqU neg m m2⟩ := by
  refine ⟨⟨fun pins s σ H Q I q => ?_⟩, ⟨fun pins s σ H Q I q => ?_⟩⟩
  · show wpAny _ _ (do compareChain pos (← eval a X.env) _ (markedEach _ [e] (evalEach [e] X.env))) _ _ s
    rw [markedEach_of_false _ _ _ hm]
    obtain ⟨A, τ, st, c, q⟩ := q
    have q0 : Aft C base W (RU C) A H τ σ ((m.val τ st).bind fun u st1 => ((m2.val τ st1).bind fun w st2 => .opt (eqDct st2 u w) fun t => .ok (if neg then !t else t) st2).bind fun b st2 => .ok (.d (.bool b)) st2) Q := by
      have e : ((deqU neg m m2 τ st).bind fun b st2 => Res.ok (U.d (.bool b)) st2) = ((m.val τ st).bind fun u st1 => ((m2.val τ st1).bind fun w st2 => .opt (eqDct st2 u w) fun t => .ok (if neg then !t else t) st2).bind fun b st2 => .ok (.d (.bool b)) st2) := by
        unfold deqU
        cases m.val τ st <;> rfl
      rw [← e]; exact q
    refine wpAny_bind (thn (ha.val.run pins s σ H _ I (Aft.next c q0)) fun u s1 ⟨v, H1, I1, r1, A1, st1, x, g, c1, rx, q1⟩ => ?_)
    refine thn (chain_last (one_deq k h I1 r1 (Q := fun b H2 => Q (.bl b) H2) ⟨A1, τ, st1, x, c1, rx, ?_⟩)) fun z s2 ⟨z', H2, I2, r2, b, ez, q2⟩ => ⟨z', H2, I2, r2, by rw [ez]; exact q2⟩
    refine (q1.bind).imp fun b H2 ⟨A2, st2, b', g2, c2, r2, q2⟩ => ?_
    cases (show b = b' from r2)
    exact q2 _ H2 A2 .refl c2 (.d (.bl b))
  · show wpAny _ _ (do testChain pos (← eval a X.env) _ (markedEach _ [e] (evalEach [e] X.env))) _ _ s
    rw [markedEach_of_false _ _ _ hm]
    obtain ⟨A, τ, st, c, q⟩ := q
    refine wpAny_bind (thn (ha.val.run pins s σ H _ I (Aft.next c q)) fun u s1 ⟨v, H1, I1, r1, A1, st1, x, g, c1, rx, q1⟩ => ?_)
    exact test_last (thn (one_deq k h I1 r1 ⟨A1, τ, st1, x, c1, rx, q1⟩) fun w s1 h => thn h fun c s2 ⟨z, H2, I2, r2, b, ez, q2⟩ => by
      subst ez
      cases r2
      exact wpAny_truthy_bool ⟨H2, I2, q2⟩)
/-- keys that are tuples -/
abbrev TupKeys (H : Hp) : List (V × V) → List (List Key × V) → Prop := Paired fun p kv => (∃ b, p.1 = .ref b ∧ H b = some (.tup (kv.1.map kV))) ∧ p.2 = kv.2
def mergeT (kvs more : List (List Key × V)) : List (List Key × V) := more.foldl (fun acc kv => putK acc kv.1 kv.2) kvs
theorem length_mergeT : ∀ (more kvs : List (List Key × V)), (mergeT kvs more).length ≤ kvs.length + more.length
  | [], kvs => by show kvs.length ≤ kvs.length + 0; omega
  | p :: r, kvs => by
    have h1 := length_mergeT r (putK kvs p.1 p.2)
    have h2 := length_putK kvs p.1 p.2
    show (mergeT (putK kvs p.1 p.2) r).length ≤ _
    rw [List.length_cons]; omega
theorem carriesT {P : Program} {w : World} {H : Hp} {h : Heap} (ok : HOk P w H h) : ∀ {ps : List (V × V)} {kvs : List (List Key × V)} {ws : List (Value × Value)}, TupKeys H ps kvs → VV ps ws →
    ∃ xs, CarriesH (tupleKind (mixKind P w)) h ws xs ∧ KT H kvs xs
  | _, _, _, .nil, r => by cases r; exact ⟨[], True.intro, .nil⟩
  | _, _, _, .cons (a := p) (b := kv) ⟨⟨b, e1, e2⟩, e3⟩ t, r => by
    cases r with
    | @cons _ q _ qs h1 t1 =>
      obtain ⟨xs, c1, c2⟩ := carriesT ok t t1
      obtain ⟨q1, q2⟩ := q
      obtain ⟨p1, p2⟩ := p
      obtain ⟨h2, h3⟩ := h1
      have e1' : p1 = .ref b := e1
      subst e1'
      have hq : q1 = .ref b := h2
      subst hq
      have e3' : p2 = kv.2 := e3
      exact ⟨(kv.1, b, q2) :: xs, ⟨rfl, rfl, key_of ok e2, c1⟩, .cons ⟨rfl, e2, by rw [← e3']; exact h3⟩ c2⟩
theorem KT.mergeT {H : Hp} : ∀ {more : List (List Key × V)} {rs : List (List Key × Addr × Value)} {kvs : List (List Key × V)} {xs : List (List Key × Addr × Value)}, KT H more rs → KT H kvs xs → KT H (mergeT kvs more) (storedAllH xs rs) := by
  intro more rs kvs xs r
  unfold KT at r
  induction r generalizing kvs xs with
  | nil => intro q; exact q
  | @cons p q ps qs h t ih =>
    intro r0
    obtain ⟨h1, h2, h3⟩ := h
    have := KT.put r0 p.1 h2 h3
    have e : storedH xs p.1 q.2.1 q.2.2 = storedH xs q.1 q.2.1 q.2.2 := by rw [h1]
    rw [e] at this
    exact ih this
def tDispT (trs : List (TE × TE)) : TE := fun σ H Q => ∀ p, H p = none → tPairs trs σ (upd H p (.dT [])) fun ps H2 => H2 p = some (.dT []) ∧ ∃ kvs : List (List Key × V), TupKeys H2 ps kvs ∧ kvs.length ≤ 15 ∧ Q (.ref p) (upd H2 p (.dT (mergeT [] kvs)))
theorem pe_dispT {X : Cx} {pos : Pos} {keys : List (Option Expr)} {values : List Expr} {trs : List (TE × TE)} (hu : X.A.units < cLine) (h : PPs X pos keys values trs) (hall : keys.all (·.isSome) = true) (hl : keys.length = values.length) (h0 : keys ≠ [])
    (h15 : keys.length ≤ 15) : PE X (.Dict keys values pos) (tDispT trs) := by
  refine ⟨fun pins s σ H Q I q => ?_⟩
  have hn := I.hok.fresh (Nat.le_refl s.heap.objs.size)
  have I1 := I.laid (a := s.heap.objs.size) (o := .dT []) (h' := s.heap.push { cls := .type "dict", data := .dict #[] }) (t' := s.toks) (fun _ _ q => Heap.get?_push_of_some _ q) (Nat.le_refl _) (dt_empty s.heap I.big)
  have hpl := pairTrees_length keys values X.env pos hall hl
  rw [arm_eval_Dict, zip_pairTrees keys values X.env pos hall hl, dictDisplay_pairs (pairTrees keys values X.env pos) (fun he => h0 (List.length_eq_zero_iff.mp (by rw [he] at hpl; exact hpl.symm))) (by rw [hpl]; omega)]
  refine wpAny_bind (wpAny_standAt (wpAny_bind (wpAny_subDictH (knd := tupleKind (mixKind X.prog X.w)) (Q := fun d s' => wpAny (model X.prog X.w) X.A (pure (Value.ref d)) (EP X pins σ Q) X.xe s') hu (by rw [hpl]; exact h15) ?_)))
  refine thn (h.run pins _ σ _ _ I1 (q _ hn)) fun ws s2 ⟨ps, H2, I2, rel, e, kvs, tk, lk, q2⟩ => ?_
  obtain ⟨xs, c, rk⟩ := carriesT I2.hok tk rel
  obtain ⟨z, hd, vs0, r0, dd⟩ := dt_rd I2.hok (.inl e)
  cases r0
  refine ⟨xs, c, dd, fun h' tk' dd' hs => wpAny_pure ⟨.ref s.heap.objs.size, _, ?_, rfl, q2⟩⟩
  have hz : (mergeT [] kvs).length ≤ sizeLine := by
    have h1 := length_mergeT kvs []
    rw [List.length_nil] at h1
    rw [sizeLine_eq]; omega
  have he : ∃ q, h'.get? s.heap.objs.size = some q := let ⟨q, _, _, hq, _⟩ := dd'; ⟨q, hq⟩
  refine d_write I2 (by rw [e]; exact True.intro) hs he ?_
  obtain ⟨o, es, ep, g1, g2, g3, g4, g5, g6⟩ := dd'
  refine ⟨hz, hd, storedAllH [] xs, KT.keeps (KT.mergeT rk .nil) (fun b ys hb => ?_), o, es, ep, g1, g2, g3, g4, g6⟩
  rw [upd_ne (fun z => by subst z; rw [e] at hb; cases hb)]
  exact hb
theorem pairs_relT {A : List Addr} {H : Hp} : ∀ {us : List U} {vs : List V} {ps : List (PyData × U)}, RpUs C A H vs us → pairsU us = some ps → ps.all (fun kv => (unT kv.1).isSome) = true → ∃ kvs : List (List Key × V), TupKeys H (pairV vs) kvs ∧ KvG C A H kDs kvs ps
  | [], _, _, .nil, e, _ => by cases e; exact ⟨[], .nil, .nil⟩
  | [_], _, _, _, e, _ => by simp [pairsU] at e
  | .d k :: u :: r, _, _, .cons a (.cons b t), e, hk => by
    simp only [pairsU, Option.map_eq_some_iff] at e
    obtain ⟨ps, e, rfl⟩ := e
    simp only [List.all_cons, Bool.and_eq_true] at hk
    obtain ⟨kvs, h1, h2⟩ := pairs_relT t e hk.2
    obtain ⟨kk, hkk⟩ := Option.isSome_iff_exists.mp hk.1
    have ex := unT_inv hkk
    subst ex
    refine ⟨(kk, _) :: kvs, .cons ?_ h1, .cons ⟨rfl, b⟩ h2⟩
    cases a with
    | d a => cases a with
      | tup f1 r1 =>
        have ew := keys_eq r1
        subst ew
        exact ⟨⟨_, rfl, f1⟩, rfl⟩
  | .cell _ :: _ :: _, _, _, _, e, _ => by simp [pairsU] at e
  | .fn _ :: _ :: _, _, _, _, e, _ => by simp [pairsU] at e
  | .exc _ :: _ :: _, _, _, _, e, _ => by simp [pairsU] at e
theorem merge_relT {A : List Addr} {H : Hp} {es : List (List Key × V)} {ps : List (PyData × U)} (h : KvG C A H kDs es ps) : ∀ {as : List (List Key × V)} {bs : List (PyData × U)}, KvG C A H kDs as bs → KvG C A H kDs (mergeT as es) (ps.foldl putT2 bs) := by
  induction h with
  | nil => intro as bs r; exact r
  | @cons e kv es ps a b ih =>
    intro as bs r
    have e1 : putT2 bs kv = putD unT kv.1 e.1 kv.2 bs := by
      unfold putT2
      have : unT kv.1 = some e.1 := by rw [a.1]; exact unT_kDs e.1
      rw [this]
    rw [List.foldl_cons, e1]
    exact ih (by rw [a.1]; exact put_rel (sh := kDs) unT_kDs r a.2)
theorem se_dispT (k : Okc X C W) {fr : Bool} {ks : List (Option Expr)} {vs es : List Expr} {ms : List Mn} {pos : Pos} (hi : interl ks vs = some es) (h : SEs X C base W es ms) (h0 : ks ≠ []) (h15 : ks.length ≤ 15) :
    SE X C base W (.Dict ks vs pos) (.of fun τ st => (evs ms τ st).bind fun us st1 => .opt (dispTOf us) fun mk => fin fr st1 mk) := by
  obtain ⟨trs, h⟩ := sps_of hi h
  refine .of k (pe_fz (pe_dispT (by have := k.units; omega) (sps_pps h) (sps_len h).2 (sps_len h).1 h0 h15) fun σ H Q q => ?_) fun _ => rfl
  intro p hp
  obtain ⟨A, τ, st, c, q⟩ := q
  have c1 := c.beside (o := .dT []) hp
  have g1 : Gr A H A (upd H p (.dT [])) := Gr.lay hp
  have hpA := c.fresh hp
  refine sps_run h ⟨A, τ, st, c1, ?_⟩
  have q : Aft C base W (RU C) A H τ σ ((evs ms τ st).bind fun us st1 => .opt (dispTOf us) fun mk => fin fr st1 mk) Q := q
  cases e : evs ms τ st with
  | bad => rw [e] at q; exact q.elim
  | exc x st1 => rw [e] at q; exact fun H' A' kk g => q H' A' kk (g1.trans g)
  | ok us st1 =>
    rw [e] at q
    intro vs H2 A2 g2 c2 r2
    obtain ⟨mk, e1, q⟩ := opt_run (show Aft C base W (RU C) A H τ σ (.opt (dispTOf us) fun mk => fin fr st1 mk) Q from q)
    unfold dispTOf at e1
    rw [Option.bind_eq_some_iff] at e1
    obtain ⟨ps, e2, e1⟩ := e1
    obtain ⟨⟨_, e4, e5⟩, rfl⟩ := chk_run e1
    have h2p : H2 p = some (.dT []) := g2.ext p _ upd_same (fun _ z => nomatch z) (.inl hpA)
    obtain ⟨kvs, h1, h2⟩ := pairs_relT r2 e2 e5
    refine ⟨h2p, kvs, h1, by rw [Paired.length h2]; exact e4, ?_⟩
    have hp2 : p ∉ A2 := fun z => by
      exact absurd (fun _ e => nomatch e) (g2.new p z hpA _ upd_same)
    -- the heap without the dict
    let H3 : Hp := fun b => if b = p then none else H2 b
    have h3p : H3 p = none := if_pos rfl
    have h3 : ∀ b, b ≠ p → H3 b = H2 b := fun b hb => if_neg hb
    have eu : ∀ o, upd H3 p o = upd H2 p o := fun o => by
      funext b
      by_cases hb : b = p
      · subst hb; rw [upd_same, upd_same]
      · rw [upd_ne hb, upd_ne hb, h3 b hb]
    have mm : ∀ b o, Fz o → H2 b = some o → H3 b = some o := fun b o f eb => by
      have hb : b ≠ p := fun z => by subst z; rw [h2p] at eb; cases eb; exact f
      rw [h3 b hb]; exact eb
    have tt : ∀ b ps, H2 b = some (.tbl ps) → H3 b = some (.tbl ps) := fun b ps eb => by
      have hb : b ≠ p := fun z => by subst z; rw [h2p] at eb; cases eb
      rw [h3 b hb]; exact eb
    have c3 : Cn C base A2 τ st1 σ H3 := c2.keepF mm tt fun b hb o eb _ => by
      rw [h3 b (fun z => hp2 (z ▸ hb))]; exact eb
    have g12 := g1.trans g2
    have g3 : Gr A H A2 H3 := by
      refine ⟨g12.pre, g12.new, fun b o hb ht hc => ?_, fun b o hb ht => ?_⟩
      · rw [h3 b (fun z => by subst z; rw [hp] at hb; cases hb)]; exact g12.ext b o hb ht hc
      · rw [h3 b (fun z => by subst z; rw [hp] at hb; cases hb)]; exact g12.dom b o hb ht
    have kr : KvG C A2 H3 kDs kvs ps := Paired.mapP h2 fun _ _ z => ⟨z.1, z.2.mono mm List.prefix_rfl⟩
    have := fin_run c3 (q.gr g3) (.dT h3p (merge_relT kr (as := []) (bs := []) .nil))
    rw [eu] at this
    exact this
end
end Z
/-! ZX: an exception that is caught and kept. -/
namespace Z
open PySem PySem.Spec PyProof.Rows L2
theorem exK_ok {P : Program} {w : World} {H : Hp} {h : Heap} {a : Addr} {cls : Value} {oe : Obj} {vs : Array Value} (e1 : h.get? a = some oe) (e2 : oe.cls = cls) (e3 : oe.dict = none) (e4 : oe.data = .fields vs) : ObjOk P w H h a (ExK cls a) := by
  refine ⟨⟨oe, vs, e1, e2, e3, e4⟩, ⟨oe, e1⟩, fun h1 h2 q k => ?_⟩
  obtain ⟨o, v, g1, g2⟩ := q
  exact ⟨o, v, k o g1, g2⟩
section
variable {X : Cx} {pins : List (Addr × Obj)} {σ : L2.St} {H : Hp} {s : Shared}
/-- out of the suite, the exception in hand -/
theorem suite_out {a : Addr} {oe : Obj} (S : Inv (X.suite a ((a, oe) :: (X.pn ++ pins))) [] σ H s) (ok : X.Ok) : Inv X ((a, oe) :: pins) σ H s where
  ok := ok
  os := S.os
  bare := S.bare
  base := S.base
  loc := S.loc
  cell := S.cell
  free := S.free
  freeC := S.freeC
  pin := fun p hp => S.pin p (by
    rw [List.append_nil]
    rcases List.mem_append.mp hp with z | z
    · exact List.mem_cons_of_mem _ (List.mem_append_left _ z)
    · rcases List.mem_cons.mp z with z | z
      · rw [z]; exact List.mem_cons_self
      · exact List.mem_cons_of_mem _ (List.mem_append_right _ z))
  hok := S.hok
  len := S.len
/-- what is in hand is tracked from now on -/
theorem keep_it {a : Addr} {oe : Obj} {cls : Value} {vs : Array Value} (I : Inv X ((a, oe) :: pins) σ H s) (e2 : oe.cls = cls) (e3 : oe.dict = none) (e4 : oe.data = .fields vs) (new : X.s_0.heap.get? a = none) (np : ∀ p ∈ X.pn ++ pins, p.1 ≠ a) :
    Inv X pins σ (upd H a (ExK cls a)) s := by
  obtain ⟨h1, h2, h3, h4, h5⟩ := I.pin (a, oe) (List.mem_append_right _ List.mem_cons_self)
  have old : ∀ b o, X.s_0.heap.get? b = some o → b ≠ a := fun b o e z => by rw [z, new] at e; cases e
  have bs := I.base
  refine ⟨I.ok, I.os, I.bare, ⟨bs.keep, bs.slot, fun b o q1 q2 q3 => ?_, bs.there, fun b xs q => ?_, fun b o u q => ?_, fun b ps q => ?_⟩, I.loc, I.cell, ?_, fun x c q => ?_, fun p hp => ?_, fun b u q => ?_, I.len⟩
  · rw [upd_ne (old b o q1)]; exact bs.free b o q1 q2 q3
  · have z := bs.tups b xs q
    rw [upd_ne (ne_of_none z h2)]; exact z
  · have z := bs.frzs b o u q
    rw [upd_ne (ne_of_none z h2)]; exact z
  · obtain ⟨m, z⟩ := bs.tbls b ps q
    exact ⟨m, by rw [upd_ne (ne_of_none z h2)]; exact z⟩
  · rw [upd_ne (Ne.symm h3)]; exact I.free
  · have : c ≠ a := fun z => by
      obtain ⟨v, o, g1, g2⟩ := I.cell x c q
      rw [z, h1] at g1
      cases g1
      exact h5 v g2
    rw [upd_ne this]; exact I.freeC x c q
  · have hp' : p ∈ X.pn ++ ((a, oe) :: pins) := by
      rcases List.mem_append.mp hp with z | z
      · exact List.mem_append_left _ z
      · exact List.mem_append_right _ (List.mem_cons_of_mem _ z)
    obtain ⟨g1, g2, g3⟩ := I.pin p hp'
    exact ⟨g1, by rw [upd_ne (np p hp)]; exact g2, g3⟩
  · by_cases hb : b = a
    · subst hb
      rw [upd_same] at q
      cases q
      exact exK_ok h1 e2 e3 e4
    · rw [upd_ne hb] at q
      exact (I.hok b u q).stay (fun c v _ z => z) (fun c z => by rw [upd_ne (ne_of_none z h2)]; exact z) fun c xs z => by rw [upd_ne (ne_of_none z h2)]; exact z
end
/-- what is wished of an exception that is caught and kept -/
def wKp (K : PySem.W.Frag) (c : Value) (i : Nat) (ts : TS) (Wout : L2.WX) (D : Ends) : L2.WX := fun cls d σ H =>
  ∃ b, PySem.W.exmOne K cls c = some b ∧ (b = false → Wout cls d σ H) ∧
    (b = true → d = none ∧ ∀ a, H a = none → ts { nx := fun σ' H' => H' a = none → D.nx (σ'.set i none) (upd H' a (ExK cls a)), rt := fun _ _ => False, bk := fun _ _ => False, ct := fun _ _ => False } (σ.set i (some (.ref a))) H)
section
variable {X : Cx}
/-- what comes of an exception at this try -/
def Lands (X : Cx) (hd : List ExceptHandler) (K1 : Flow → Shared → Prop) (e : Value) (s1 : Shared) : Prop :=
  wpAny (model X.prog X.w) X.A (noteFrame e X.env) (fun _ s2 => wpAny (model X.prog X.w) X.A (setFlight e none) (fun _ s3 => wpAny (model X.prog X.w) X.A (handleBy e X.env hd) K1 X.xe s3) X.xe s2) X.xe s1
/-- a class that an except clause names is looked up -/
theorem named {pins : List (Addr × Obj)} {σ : L2.St} {H : Hp} {s : Shared} {x : Str} {c : Value} {np : Pos} {Y : Cx} {Q E : Value → Shared → Prop} (S : Inv Y pins σ H s) (hc : Names Y x c) (q : Q c s) : wpAny (model Y.prog Y.w) Y.A (eval (.Name x np) Y.env) Q E s := by
  rcases hc with ⟨g1, g2, g3⟩
  rcases g3 with g3 | ⟨g3, g4, g5⟩
  · exact ld_glob S g1 g3 q g2
  · exact ld_blt S g1 g3 g4 q g5 g2
theorem land_kp {x n : Str} {c : Value} {i : Nat} {suite : List Stmt} {b0 : Stmt} {np hp : Pos} {ts : TS} {Wout : L2.WX} {pins : List (Addr × Obj)} {D : Ends} {xe2 : Value → Shared → Prop} (ok : X.Ok)
    (hs : X.stack = X.env :: X.outer) (hf : X.env.frame = some X.env.locals) (hex : X.ex = []) (hN : X.N.Nodup) (hi : X.N[i]? = some n) (hln : X.env.kindOf n = some .local) (hc : Names X x c) (tk : Takes X Wout)
    (hsu : ∀ (a : Addr) (oe : Obj) (pn : List (Addr × Obj)), PSs (X.suite a ((a, oe) :: pn)) (b0 :: suite) ts) {u : Value} {s1 : Shared} (xx : XE (X.tr (X.pn ++ pins) xe2) (wKp X.K c i ts Wout D) u s1) :
    Lands X [.ExceptHandler (some (.Name x np)) (some n) (b0 :: suite) hp] (SP X pins D) u s1 := by
  rcases xx with ⟨a, B, s0, pins0, σ1, H1, cls, d, eu, J0, inB, up1, sk, na, eos, bar, b, m1, mno, myes⟩
  subst eu
  have J : Inv X pins σ1 H1 s0 := J0.ofTry ok
  have frames : X.A.frames = some (X.env :: X.outer) := by rw [ok.frames, hs]
  rw [show (X.tr (X.pn ++ pins) xe2).stack = X.env :: X.outer from hs] at inB sk
  unfold Lands
  refine Sky.land Zc.steady frames hf sk fun h3 fl up3 => ?_
  -- where it stands, and that it is new
  have I3 : Inv X pins σ1 H1 { s1 with heap := h3 } := J.landed (by rw [hs]; exact inB) fl.1 (up1.trans up3) eos bar
  obtain ⟨o3, v3, g3, z3, d3⟩ := fl.there
  have out : a ∉ frs (X.env :: X.outer) := fun hm => by
    obtain ⟨_, o, g, no⟩ := fl.2.2.1.mem hm
    rw [g3] at g
    cases g
    exact no _ d3
  have nloc : a ≠ X.env.locals := fun e => out (List.mem_filterMap.mpr ⟨X.env, by simp, by rw [hf, e]⟩)
  have nfs : a ∉ X.fs := fun hm => by
    rcases List.mem_filterMap.mp hm with ⟨e, h1, h2⟩
    exact out (List.mem_filterMap.mpr ⟨e, List.mem_cons_of_mem _ h1, h2⟩)
  have bn : B.get? a = none := fl.2.1
  have n0 : s0.heap.get? a = none := by
    cases e : s0.heap.get? a with
    | none => rfl
    | some o => exact absurd (inB a o e out) (by rw [bn]; exact fun z => nomatch z)
  have n1 : X.s_0.heap.get? a = none := by
    cases e : X.s_0.heap.get? a with
    | none => rfl
    | some o =>
      obtain ⟨o2, g⟩ := J.base.there a o e (by rw [hex]; exact fun z => nomatch z)
      rw [n0] at g; cases g
  have np0 : ∀ p ∈ X.pn ++ pins, p.1 ≠ a := fun p hp e => by
    have g := (J.pin p hp).1
    rw [e, n0] at g; cases g
  have S3 := I3.suite g3 d3 na nloc nfs
  refine wpAny_handleBy_cons (codeAny_handlers_test ?_) fun q => nomatch q
  have lt : PySem.W.Looks (model X.prog X.w) h3 (typeOf (.ref a)) cls := fun _ _ _ _ k q => wpAny_typeOf_ref (k _ _ g3) (z3.1 ▸ q)
  have lm := PySem.W.exm_one (M := model X.prog X.w) I3.kIn lt m1
  refine named (Y := X.suite a ((a, o3) :: (X.pn ++ pins))) S3 hc (lm.here ?_)
  cases b with
  | false =>
    show wpAny _ X.A (handleBy (.ref a) X.env []) _ _ _
    obtain ⟨_, _, _, oe, vs, T, oT, tsT, ge, _, de, f1, _⟩ := id fl
    refine wpAny_handleBy_nil ?_
    unfold PySem.passOn
    refine wpAny_bind (wpAny_field ge de f1 ?_)
    rw [if_neg (show ¬ ((Value.ref T == Value.none) = true) from by simp)]
    have again : wpAny (model X.prog X.w) X.A (setFlight (.ref a) X.env.frame) (fun _ s4 => wpAny (model X.prog X.w) X.A (throw (.ref a) : Sem Flow) (SP X pins D) X.xe s4) X.xe { s1 with heap := h3 } := by
      rw [hf]
      refine HandSPX.setFlight_upZ fl fun h4 held up4 => wpAny_throw (tk _ _ ⟨a, B, s0, pins, σ1, H1, cls, d, rfl, J, ?_, (up1.trans up3).trans up4, .inr (.inr ?_), na, eos, bar, mno rfl⟩)
      · rw [hs]; exact inB
      · rw [hs]; exact held
    first
      | exact wpAny_bind (wpAny_pure (wpAny_bind again))
      | exact wpAny_bind again
  | true =>
    obtain ⟨hd0, hy⟩ := myes rfl
    subst hd0
    refine codeAny_handlers_suite_as (HandSPX.lands_againZ fl fun h4 fl4 up4 => ?_)
    have I4 : Inv X pins σ1 H1 { s1 with heap := h4 } := J.landed (by rw [hs]; exact inB) fl4.1 ((up1.trans up3).trans up4) eos bar
    obtain ⟨o4, v4, g4, z4, d4⟩ := fl4.there
    refine store_ok (v := .ref a) (X := X.suite a ((a, o4) :: (X.pn ++ pins))) (I4.suite g4 d4 na nloc nfs) hN hi (.inl hln) rfl (fun s5 S5 => ?_) (.inr hln)
    refine wpAny_mono ((hsu a o4 (X.pn ++ pins)).run [] s5 _ H1 _ S5 (hy a na)) (fun f s6 z => ?_) fun _ _ z => z.elim
    cases f with
    | next =>
      obtain ⟨σ6, H6, S6, q6⟩ := z
      have nH : H6 a = none := (S6.pin (a, o4) (List.mem_append_left _ List.mem_cons_self)).2.1
      exact gone_ok (suite_out S6 ok) hN hi hln fun s7 J7 => ⟨_, _, keep_it J7 z4.1 z4.2 d4 n1 np0, q6 nH⟩
    | brk => obtain ⟨_, _, _, q⟩ := z; exact q.elim
    | cont => obtain ⟨_, _, _, q⟩ := z; exact q.elim
    | ret v => obtain ⟨_, _, _, _, _, q⟩ := z; exact q.elim
/-- try: body, except x as n: suite, the exception kept -/
theorem ps_try_kp {x n : Str} {c : Value} {i : Nat} {body suite : List Stmt} {b0 : Stmt} {np hp pos : Pos} {tb : L2.WX → TS} {ts : TS} {Wout : L2.WX}
    (hs : X.stack = X.env :: X.outer) (hf : X.env.frame = some X.env.locals) (hex : X.ex = []) (hN : X.N.Nodup) (hi : X.N[i]? = some n) (hln : X.env.kindOf n = some .local) (hc : Names X x c) (tk : Takes X Wout)
    (hb : ∀ (W : L2.WX) (pn : List (Addr × Obj)) (xe : Value → Shared → Prop), Takes (X.tr pn xe) W → PassesOwn (model X.prog X.w) X.A X.env xe → PSs (X.tr pn xe) body (tb W))
    (hsu : ∀ (a : Addr) (oe : Obj) (pn : List (Addr × Obj)), PSs (X.suite a ((a, oe) :: pn)) (b0 :: suite) ts) :
    PS X (.Try body [.ExceptHandler (some (.Name x np)) (some n) (b0 :: suite) hp] [] [] pos) (fun D σ H => tb (wKp X.K c i ts Wout D) D σ H) := by
  refine ⟨fun pins s σ H D I h => wpAny_Try_except ?_⟩
  have ok := I.ok
  have run := (hb (wKp X.K c i ts Wout D) (X.pn ++ pins) (Lands X [.ExceptHandler (some (.Name x np)) (some n) (b0 :: suite) hp] (SP X pins D)) (fun u s1 xx => land_kp ok hs hf hex hN hi hln hc tk hsu xx) PassesOwn.looking).run [] s σ H D (I.toTry _) h
  refine wpAny_mono run (fun f s1 z => ?_) fun _ _ z => z
  cases f with
  | next =>
    obtain ⟨σ', H', J, q⟩ := z
    exact wpAny_execs_nil ⟨σ', H', J.ofTry ok, q⟩
  | brk => obtain ⟨σ', H', J, q⟩ := z; exact ⟨σ', H', J.ofTry ok, q⟩
  | cont => obtain ⟨σ', H', J, q⟩ := z; exact ⟨σ', H', J.ofTry ok, q⟩
  | ret v => obtain ⟨w, σ', H', J, r, q⟩ := z; exact ⟨w, σ', H', J.ofTry ok, r, q⟩
end
/-! isinstance, asked of classes -/
theorem kit_ref {K : PySem.W.Frag} {a b : Addr} {v : Bool} (hd : PySem.W.hasDictIn K b = true) (ht : PySem.W.typeIn K (.ref b) = some (.type "type")) (hs : PySem.W.subIn K (.ref a) (.ref b) = some v) (h0 : PySem.W.subIn K (.ref a) (.ref a) = some true) :
    PySem.W.kitOne K (.ref a) (.ref b) = some v := by
  unfold PySem.W.kitOne
  by_cases e : (Value.ref a == Value.ref b) = true
  · rw [if_pos e]
    have : a = b := Value.ref.inj (eq_of_beq e)
    subst this
    rw [h0] at hs
    exact hs
  · rw [if_neg e]
    obtain ⟨cd, hc, _⟩ := PySem.W.any_some hd
    show (if ((PySem.W.clsIn K b).isSome && PySem.W.typeIn K (.ref b) == some (.type "type")) = true then PySem.W.subIn K (.ref a) (.ref b) else none) = some v
    rw [hc, ht, hs]
    rfl
theorem kit_val {K : PySem.W.Frag} {a : Addr} (hs : PySem.W.subIn K (.ref a) (.type "ValueError") = some true) : PySem.W.kitOne K (.ref a) (.type "ValueError") = some true := by
  have m : PySem.W.kitMeta "ValueError" = true := by decide +kernel
  unfold PySem.W.kitOne
  rw [if_neg (show ¬ (Value.ref a == Value.type "ValueError") = true from fun h => nomatch (eq_of_beq h))]
  show (if PySem.W.kitMeta "ValueError" = true then PySem.W.subIn K (.ref a) (.type "ValueError") else none) = some true
  rw [if_pos m, hs]
/-! what a module says of its exceptions -/
structure ExF (K : PySem.W.Frag) (a : Addr) : Prop where
  q : PySem.W.excIn K a [.type "ValueError", .type "Exception", .type "BaseException", .type "object"] "ValueError.__new__" = true
  k : PySem.W.keepIn K (.ref a) = true
  b : PySem.W.subIn K (.ref a) (.type "BaseException") = some true
  t : PySem.W.typeIn K (.ref a) = some (.type "type")
  e : ExcC K a
  v : PySem.W.kitOne K (.ref a) (.type "ValueError") = some true
/-- the class d stands at b -/
def ClsAt (C : Cc) (mg : Str → Option Value) (x : Str) (d : Nat) (b : Addr) : Prop := mg x = some (.ref b) ∧ ∀ k a, C.ca k = some a → PySem.W.kitOne C.K (.ref a) (.ref b) = some (subE k d)
section
variable {X : Cx} {C : Cc} {base : Nat} {W : Z.WX}
theorem se_isE (k : Okc X C W) {d : Nat} {b : Addr} {x : Str} {p p2 pos : Pos} {e : Expr} {m : Mn} (ex : ∀ k a, C.ca k = some a → ExF C.K a) (hb : ClsAt C X.mg x d b) (hg : Gl X "isinstance") (hm : X.mg "isinstance" = none) (hg2 : Gl X x) (hd : (x == ("__debug__" : Str)) = false) (h : SE X C base W e m) (hs : noStar e = true) :
    SE X C base W (.Call (.Name "isinstance" p) [e, .Name x p2] [] pos) (.of fun τ st => (m.val τ st).bind (isEU (some d))) := by
  refine .of k ⟨fun pins s σ H Q I z => ?_⟩ fun _ => rfl
  have pC : PE X (.Name x p2) (tC (.ref b)) := pe_glob (v := .ref b) hg2 hb.1 rfl hd
  have r0 : CallR X (.builtin "isinstance") (fun xs H Q => ∃ (a : Addr) (k : Nat) (D : Addr), xs = [.ref a, .ref b] ∧ C.ca k = some D ∧ H a = some (ExK (.ref D) a) ∧ Q (.bl (subE k d)) H) := by
    intro pins s σ H xs us Q I r ⟨a, kk, D, h1, h2, h3, h4⟩
    exact call_kept (by rw [k.K]; exact (ex kk D h2).e) pins s σ H xs us Q I r ⟨a, .ref b, .ref b, _, h1, h3, .own b, by rw [k.K]; exact hb.2 kk D h2, h4⟩
  refine (pe_callB r0 hg hm (by decide +kernel) (pa_cons h.val (pa_cons pC pa_nil) (star_cons hs)) (by decide +kernel) (by decide +kernel) (star_cons hs)).run pins s σ H Q I ?_
  obtain ⟨A, τ, st, c, z⟩ := z
  refine Rd.imp (Aft.next c z) fun v H1 ⟨A1, st1, u, g, c1, r, z⟩ => ?_
  unfold isEU at z
  split at z
  · rename_i kk
    cases r with
    | @exc a D _ h1 h2 => exact ⟨a, kk, D, rfl, h1, h2, z (.bl _) H1 A1 .refl c1 (.d (.bl _))⟩
  · exact z.elim
theorem se_isV (k : Okc X C W) {p p2 pos : Pos} {e : Expr} {m : Mn} (ex : ∀ k a, C.ca k = some a → ExF C.K a) (hg : Gl X "isinstance") (hm : X.mg "isinstance" = none) (hg2 : Gl X "ValueError") (hm2 : X.mg "ValueError" = none) (h : SE X C base W e m) (hs : noStar e = true) :
    SE X C base W (.Call (.Name "isinstance" p) [e, .Name "ValueError" p2] [] pos) (.of fun τ st => (m.val τ st).bind (isEU none)) := by
  refine .of k ⟨fun pins s σ H Q I z => ?_⟩ fun _ => rfl
  have pC : PE X (.Name "ValueError" p2) (tC (.ty "ValueError")) := pe_bltn hg2 hm2 (by decide +kernel) rfl (by decide +kernel) (by decide +kernel)
  have r0 : CallR X (.builtin "isinstance") (fun xs H Q => ∃ (a : Addr) (k : Nat) (D : Addr), xs = [.ref a, .ty "ValueError"] ∧ C.ca k = some D ∧ H a = some (ExK (.ref D) a) ∧ Q (.bl true) H) := by
    intro pins s σ H xs us Q I r ⟨a, kk, D, h1, h2, h3, h4⟩
    exact call_kept (by rw [k.K]; exact (ex kk D h2).e) pins s σ H xs us Q I r ⟨a, .ty "ValueError", .type "ValueError", _, h1, h3, .ty _, by rw [k.K]; exact (ex kk D h2).v, h4⟩
  refine (pe_callB r0 hg hm (by decide +kernel) (pa_cons h.val (pa_cons pC pa_nil) (star_cons hs)) (by decide +kernel) (by decide +kernel) (star_cons hs)).run pins s σ H Q I ?_
  obtain ⟨A, τ, st, c, z⟩ := z
  refine Rd.imp (Aft.next c z) fun v H1 ⟨A1, st1, u, g, c1, r, z⟩ => ?_
  unfold isEU at z
  split at z
  · rename_i kk
    cases r with
    | @exc a D _ h1 h2 => exact ⟨a, kk, D, rfl, h1, h2, z (.bl _) H1 A1 .refl c1 (.d (.bl _))⟩
  · exact z.elim
/-- names of classes -/
inductive ClsNs (X : Cx) (C : Cc) : List Expr → List Nat → List Addr → Prop
  | nil : ClsNs X C [] [] []
  | cons {x : Str} {p : Pos} {es : List Expr} {d : Nat} {ds : List Nat} {b : Addr} {bs : List Addr} : ClsAt C X.mg x d b → Gl X x → (x == ("__debug__" : Str)) = false → ClsNs X C es ds bs → ClsNs X C (.Name x p :: es) (d :: ds) (b :: bs)
theorem ClsNs.pa {es : List Expr} {ds : List Nat} {bs : List Addr} (h : ClsNs X C es ds bs) : PA X es (fun _ H Q => Q (bs.map V.ref) H) := by
  induction h with
  | nil => exact pa_imp pa_nil fun σ H Q q => q
  | cons a g d t ih => exact pa_imp (pa_cons (pe_glob (v := .ref _) g a.1 rfl d) ih) fun σ H Q q => q
theorem ClsNs.vs {es : List Expr} {ds : List Nat} {bs : List Addr} (h : ClsNs X C es ds bs) : Paired ClsV (bs.map V.ref) (bs.map Value.ref) := by
  induction h with
  | nil => exact .nil
  | cons a g d t ih => exact .cons (.own _) ih
theorem ClsNs.kit {es : List Expr} {ds : List Nat} {bs : List Addr} (h : ClsNs X C es ds bs) {k : Nat} {a : Addr} (hk : C.ca k = some a) : PySem.W.kitAny C.K (.ref a) (bs.map Value.ref) = some (ds.any (subE k)) := by
  induction h with
  | nil => rfl
  | @cons x p es d ds b bs q g dd t ih =>
    refine kitAny_cons (q.2 k a hk) (fun e => ?_) fun e => ?_
    · rw [ih, List.any_cons, e]; rfl
    · rw [List.any_cons, e]; rfl
theorem ClsNs.len {es : List Expr} {ds : List Nat} {bs : List Addr} (h : ClsNs X C es ds bs) : bs.length = ds.length := by
  induction h with
  | nil => rfl
  | cons a g d t ih => simp [ih]
theorem se_isEs (k : Okc X C W) {ds : List Nat} {bs : List Addr} {es : List Expr} {j : Nat} {p tp pos : Pos} {e : Expr} {m : Mn} (ex : ∀ k a, C.ca k = some a → ExF C.K a) (hb : ClsNs X C es ds bs) (hl : ds.length ≤ 20) (hg : Gl X "isinstance") (hm : X.mg "isinstance" = none) (h : SE X C base W e m) (hs : noStar e = true) :
    SE X C base W (.Call (.Name "isinstance" p) [e, .Tuple es j tp] [] pos) (.of fun τ st => (m.val τ st).bind (isEsU ds)) := by
  refine .of k ⟨fun pins s σ H Q I z => ?_⟩ fun _ => rfl
  have r0 : CallR X (.builtin "isinstance") (fun xs H Q => ∃ (a tp : Addr) (k : Nat) (D : Addr), xs = [.ref a, .ref tp] ∧ C.ca k = some D ∧ H a = some (ExK (.ref D) a) ∧ H tp = some (.tup (bs.map V.ref)) ∧ Q (.bl (ds.any (subE k))) H) := by
    intro pins s σ H xs us Q I r ⟨a, tp, kk, D, h1, h2, h3, h5, h4⟩
    exact call_keptT (by rw [k.K]; exact (ex kk D h2).e) pins s σ H xs us Q I r ⟨a, tp, bs.map V.ref, bs.map Value.ref, _, h1, h3, h5, hb.vs, by rw [k.K]; exact hb.kit h2, h4⟩
  refine (pe_callB r0 hg hm (by decide +kernel) (pa_cons h.val (pa_cons (pe_tup hb.pa) pa_nil) (star_cons hs)) (by decide +kernel) (by decide +kernel) (star_cons hs)).run pins s σ H Q I ?_
  obtain ⟨A, τ, st, c, z⟩ := z
  refine Rd.imp (Aft.next c z) fun v H1 ⟨A1, st1, u, g, c1, r, z⟩ => ?_
  unfold isEsU at z
  split at z
  · rename_i kk
    cases r with
    | @exc a D _ h1 h2 =>
      refine ⟨by rw [List.length_map, hb.len]; exact Nat.le_trans hl (by decide), fun q hq => ⟨a, q, kk, D, rfl, h1, ?_, upd_same, z (.bl _) _ A1 (Gr.lay hq) (c1.beside hq) (.d (.bl _))⟩⟩
      rw [upd_ne (ne_of_none h2 hq)]; exact h2
  · exact z.elim
end
end Z
/-! ZS: sorted(set(xs)) of a list of numbers. -/
namespace Z
open PySem PySem.Spec PyProof.Rows L2
section
variable {P : Program} {w : World} {A : Around} {E : Value → Shared → Prop} {s : Shared}
theorem call_set_listR {l : Addr} {items : Array Value} (ns : List Int) {Q : Value → Shared → Prop} (hh : A.handled = none) (hl : s.heap.IsList l items) (hit : IntsAre items.toList ns) (hb : ns.length + 1 < scanBound)
    (h : ∀ (h' : Heap) (tk c : Nat), SetR w h' s.heap.objs.size (fun j => decide (j ∈ ns)) c → c ≤ ns.length → (∀ b o, s.heap.get? b = some o → h'.get? b = some o) → Q (.ref s.heap.objs.size) { s with heap := h', toks := tk }) :
    wpAny (model P w) A (call (.type "set") [.ref l]) Q E s := by
  have hisz : items.size = ns.length := by
    have q := IntsAre.length hit
    rw [Array.length_toList] at q
    exact q
  obtain ⟨c, tl, hmro⟩ := F.called_set.mro
  have hmade := F.called_set.made
  have hsub := F.called_set.sub
  refine wpAny_call (codeAny_of_tree ?_)
  show wpAny _ _ (callAny (.type "set") _) _ _ _
  refine wpAny_pure ⟨Code.quiet_builtin _ (by decide +kernel), codeAny_builtin F.entry_type_call ?_⟩
  rw [Around.under_plain (weight_type_call_type "set" [.ref l] []) rfl]
  have h1 := F.called_set.notType
  have h2 := F.called_set.canCreate
  have hct := F.typeCall_set_1 (.ref l)
  repeat (any_goals (first | assumption | wp_step))

  refine codeAny_mono (code_set_led1 (.ref l) (E := E) (Q₁ := fun obj s₁ => obj = .ref s.heap.objs.size ∧ s₁ = { s with heap := s.heap.push { cls := .type "set", dict := none, data := .set #[] 0 (.fresh 0 0 (!w.params.followText "set-order")) } }) ⟨rfl, rfl⟩) fun r s₁ hr => ?_
  cases r with
  | error e => exact hr
  | ok fl =>
    cases fl with
    | ret obj =>
      obtain ⟨rfl, rfl⟩ := hr
      have hS : (s.heap.push { cls := .type "set", dict := none, data := .set #[] 0 (.fresh 0 0 (!w.params.followText "set-order")) }).get? s.heap.objs.size = some { cls := .type "set", dict := none, data := .set #[] 0 (.fresh 0 0 (!w.params.followText "set-order")) } := Heap.get?_push_size _ rfl
      have hT : Shared.TypeIs { s with heap := s.heap.push { cls := .type "set", dict := none, data := .set #[] 0 (.fresh 0 0 (!w.params.followText "set-order")) } } (.ref s.heap.objs.size) "set" := ⟨_, hS, rfl⟩
      have hli := F.called_set.init.lookup
      have hbi := F.called_set.init.bind (.ref s.heap.objs.size)
      repeat (any_goals (first | assumption | wp_step))

      refine codeAny_mono (codeAny_call_builtin (R := wants (fun r s₂ => r = .none ∧ ∃ h' tk c, s₂ = { s with heap := h', toks := tk } ∧ SetR w h' s.heap.objs.size (fun j => decide (j ∈ ns)) c ∧ c ≤ ns.length ∧
          (∀ b o, s.heap.get? b = some o → h'.get? b = some o)) E) F.called_set.init.plain F.entry_set_init (check_set_init_1 hT ?_)) fun r₂ s₂ hr₂ => ?_
      · obtain ⟨ol, hol, hcl, nl, hdl⟩ := hl
        obtain ⟨ocls, odict, odata, oslots⟩ := ol
        simp only at hcl hdl
        subst hcl; subst hdl
        have hol' : (s.heap.push { cls := .type "set", dict := none, data := .set #[] 0 (.fresh 0 0 (!w.params.followText "set-order")) }).get? l = some { cls := .type "list", dict := odict, data := .seq items nl, slots := oslots } := Heap.get?_push_of_some _ hol
        have hsls := F.sub_list_set
        have hslf := F.sub_list_frozenset
        have hne : (Value.type "list" == Value.type "dict") = false := by decide
        have hl1 : (s.heap.push { cls := .type "set", dict := none, data := .set #[] 0 (.fresh 0 0 (!w.params.followText "set-order")) }).IsList l items := ⟨_, hol', rfl, nl, rfl⟩
        unfold Builtin.«set.__init__» noKeywords Builtin.Frozenset.updateFrom
        generalize hPI : pyIter = PI
        wp_walk
        subst hPI

        refine wpAny_pyIter_list hl1 ?_
        refine wpAny_bind (wpAny_runValue ?_)
        have hlS : l < s.heap.objs.size := Heap.lt_size hol
        have hh3 : A.in1.in1.in1.handled = none := by simp [hh]
        have hz1 : (s.heap.push { cls := .type "set", dict := none, data := .set #[] 0 (.fresh 0 0 (!w.params.followText "set-order")) }).objs.size = s.heap.objs.size + 1 := Heap.size_push ..
        have hneI : l ≠ (s.heap.push { cls := .type "set", dict := none, data := .set #[] 0 (.fresh 0 0 (!w.params.followText "set-order")) }).objs.size := by
          rw [Heap.size_push]; exact Nat.ne_of_lt (Nat.lt_succ_of_lt hlS)
        have hSf : s.heap.objs.size ∉ [(s.heap.push { cls := .type "set", dict := none, data := .set #[] 0 (.fresh 0 0 (!w.params.followText "set-order")) }).objs.size, l] := by
          rw [Heap.size_push]; simp only [List.mem_cons, List.mem_singleton, List.not_mem_nil, or_false, not_or]
          exact ⟨Nat.ne_of_lt (Nat.lt_succ_self _), Nat.ne_of_gt hlS⟩
        have hval : ∀ (i : Nat) (v : Value), items[i]? = some v → ∃ k t, ns[i]? = some k ∧ v = .int k t := fun i v hv => by
          have hi : i < ns.length := by rw [← hisz]; exact (Array.getElem?_eq_some_iff.mp hv).1
          obtain ⟨t, e⟩ := PyProof.Rows.IntsAre.int_at hit i v (by rw [Array.getElem?_toList]; exact hv)
          refine ⟨ns[i], t, List.getElem?_eq_getElem hi, ?_⟩
          rw [e, List.getD_eq_getElem?_getD, List.getElem?_eq_getElem hi] <;> rfl
        refine set_update_ints ((Walks.list hh3 _ l hneI items).toS) s.heap.objs.size
          hSf ns hisz hb hval (items.size - 0) 0 _ (by omega) (Nat.zero_le _)
          ⟨⟨_, Heap.get?_push_size _ rfl, rfl, rfl⟩, (hl1.push _)⟩ ?hS0 ?hR
        case hS0 =>
          have hget : ((s.heap.push { cls := .type "set", dict := none, data := .set #[] 0 (.fresh 0 0 (!w.params.followText "set-order")) }).push { cls := .type "list_iterator", data := .fields #[.ref l, .int 0 0] }).get? s.heap.objs.size
              = some { cls := .type "set", dict := none, data := .set #[] 0 (.fresh 0 0 (!w.params.followText "set-order")) } := Heap.get?_push_of_some _ hS
          exact ⟨0, Nat.le_refl 0, setR_new_at hget⟩
        case hR =>
          intro s' c' hm hc' hS'
          obtain ⟨h', g2, d', tk', os'⟩ := s'
          have eg : g2 = s.gens := hm.gens
          have ed : d' = s.drawn := hm.drawn
          have eo : os' = s.os := hm.os
          subst eg; subst ed; subst eo
          show wpAny _ _ _ _ _ _
          refine wpAny_pure ?_
          show wpAny _ _ (ret Value.none) _ _ _
          rw [hisz] at hc'
          refine wpAny_pure ⟨rfl, h', tk', c', rfl, hS', hc', fun b o e => ?_⟩
          have hb0 : b < s.heap.objs.size := Heap.lt_size e
          have hb1 : b ≠ s.heap.objs.size := Nat.ne_of_lt hb0
          have hb2 : b ≠ (s.heap.push { cls := .type "set", dict := none, data := .set #[] 0 (.fresh 0 0 (!w.params.followText "set-order")) }).objs.size := by
            rw [Heap.size_push]; exact Nat.ne_of_lt (Nat.lt_succ_of_lt hb0)
          exact hm.heap b o (by simp only [List.mem_cons, List.mem_singleton, List.not_mem_nil, or_false, not_or]; exact ⟨hb1, hb2⟩) (Heap.get?_push_of_some _ (Heap.get?_push_of_some _ e))

      · cases r₂ with
        | error e => exact hr₂
        | ok fl₂ =>
          cases fl₂ with
          | ret r =>
            obtain ⟨rfl, h', tk, c', rfl, hS', hc', hk'⟩ := hr₂
            repeat (any_goals (first | assumption | wp_step))
            exact h _ _ _ hS' hc' hk'
          | _ => exact hr₂.elim
    | _ => exact hr.elim


theorem sorted_setN {a : Addr} {S : Int → Bool} {n : Nat} {Q : Value → Shared → Prop} (R : SetR w s.heap a S n) (hh : A.handled = none) (hn4 : n ≤ 4096)
    (hQ : ∀ s' p (out : List Value) (c : Nat) (ns : List Int), (∀ b o, s.heap.get? b = some o → s'.heap.get? b = some o) → s'.gens = s.gens → s'.os = s.os → s.heap.objs.size ≤ p →
      s'.heap.get? p = some (seqObj "list" out.toArray c) → IntsAre out ns → ns.Pairwise (· ≤ ·) → ns.Nodup → (∀ k, k ∈ ns ↔ S k = true) → ns.length = n → Q (.ref p) s') :
    wpAny (model P w) A (call (.builtin "sorted") [.ref a]) Q E s := by
  obtain ⟨o, es, ep, t, ho, hex, hd, g, nd, hm, hb, hf, hn, hr, hl⟩ := R
  refine Calls.call_function_entry kind_sorted plain_sorted entry_sorted (args_sorted1 _) ?_
  unfold Builtin.«sorted»
  refine wpAny_bind (m := checkCount "sorted" 1 1 _) (wpAny_pure ?_)
  refine wpAny_bind (collect_set (A := A.in1) hh ⟨o, ho, hex.1, hd⟩ hf hb hr hl fun s1 vs k1 hz g1 o1 pm => ?_)
  have hvl : vs.length = n := by rw [pm.length_eq, List.length_map, Array.length_toList]; exact hn
  have hI : IntsAre vs (vs.map Builtin.Re.reRawOf) := L2.ints_of vs fun v hv => by
    obtain ⟨e, he, q⟩ := List.mem_map.mp (pm.mem_iff.mp hv)
    obtain ⟨k, tk, h1, _⟩ := g e he
    exact ⟨k, tk, by rw [← q]; exact h1⟩
  have pk : (vs.map Builtin.Re.reRawOf).Perm (es.toList.map keyOf) := by
    have q := pm.map Builtin.Re.reRawOf
    rw [List.map_map] at q
    exact q
  have hz4 : vs.length ≤ sizeLine := by rw [hvl, sizeLine_eq]; omega
  refine wpAny_bind (wpAny_newList ?_ hz4)
  have hoL : (s1.heap.push (seqObj "list" vs.toArray 0)).get? s1.heap.objs.size = some (seqObj "list" vs.toArray 0) := Heap.get?_push_size _ rfl
  refine wpAny_bind (wpAny_holding (wpAny_call_entry PyProof.Rows.slot_list_sort ⟨_, hoL, rfl⟩ PyProof.Rows.entry_list_sort
    (SrtO.list_sort_ord SrtO.swo_int hoL hz4 (fun h2 => SrtO.ints_sortable hI h2) fun out a1 a2 => ⟨_, rfl, ?_⟩) (PyProof.Rows.args_list_sort _)))
  obtain ⟨k2, k3, k4⟩ := SrtO.ints_out hI a1 a2
  obtain ⟨c, hc⟩ := sortedHeap_at (vs := vs) (out := out.toArray) hoL
  have pn : (out.map SrtO.iv).Perm (es.toList.map keyOf) := k3.trans pk
  refine wpAny_pure ⟨_, rfl, hQ _ s1.heap.objs.size out c (out.map SrtO.iv) (fun b u e => ?_) g1 o1 hz hc k2 k4 (pn.nodup_iff.mpr nd) (fun k => by rw [pn.mem_iff, ← hm k]) (by rw [pn.length_eq, List.length_map, Array.length_toList]; exact hn)⟩
  have q := k1 b u e
  have hlt := Heap.lt_size q
  show (sortedHeap (s1.heap.push (seqObj "list" vs.toArray 0)) s1.heap.objs.size vs out.toArray).get? b = some u
  rw [sortedHeap_old (Nat.ne_of_lt hlt) (by rw [size_push']; exact Nat.lt_succ_of_lt hlt)]
  exact Heap.get?_push_of_some _ q
end
/-- sorted(set(e)) -/
def tSSet (K : PySem.W.Frag) (ta : TE) : TE := fun σ H Q => ta σ H fun x H1 => ∃ (l : Addr) (ns : List Int), x = .ref l ∧ SqL K H1 l (ns.map V.int) ∧ ns.length ≤ 4000 ∧
  ∀ (ns' : List Int) (p : Addr), ns'.Pairwise (· ≤ ·) → ns'.Nodup → (∀ k, k ∈ ns' ↔ k ∈ ns) → H1 p = none → Q (.ref p) (upd H1 p (.lst (ns'.map V.int)))
theorem pe_sset {X : Cx} {a : Expr} {ta : TE} {p p2 q pos : Pos} (hg : Gl X "sorted") (hm : X.mg "sorted" = none) (hg2 : Gl X "set") (hm2 : X.mg "set" = none) (ha : PE X a ta) (hc : X.calm = true)
    (na : starEach [a] X.env = (false, eval a X.env) :: starEach [] X.env) : PE X (.Call (.Name "sorted" p) [.Call (.Name "set" p2) [a] [] q] [] pos) (tSSet X.K ta) := by
  refine ⟨fun pins s σ H Q I h => ?_⟩
  refine Call_ (ld_blt I hg hm boot_sorted ?_)
  refine PyProof.Rows.callWith_builtin1 (PyProof.Rows.args_cons ?_ rfl) rfl rfl
  refine Call_ (ld_blt I hg2 hm2 boot_set ?_)
  refine PyProof.Rows.callWith_type1 (PyProof.Rows.args_cons (thn (ha.run pins s σ H _ I h) fun v s1 ⟨x, H1, I1, r1, q1⟩ => PyProof.Rows.args_nil ?_) na) na rfl
  obtain ⟨l, ns, rfl, hq, hl, q1⟩ := q1
  cases r1
  obtain ⟨its, r, pl, hz⟩ := I1.list hq
  have hh := I1.ok.hd hc
  refine call_set_listR ns hh pl.isList (by simpa using r.ints) (by unfold scanBound; omega) fun h' tk c R hcn k => ?_
  refine PyProof.Rows.args_nil ?_
  have I2 : Inv X pins σ H1 { s1 with heap := h', toks := tk } := I1.kept fun b o e => k b o e
  refine sorted_setN (s := { s1 with heap := h', toks := tk }) R hh (by omega) fun s' p out c2 ns' k2 g2 o2 hp hg hi hs hnd hmem hln => ?_
  have hlen : (ns'.map V.int).length ≤ sizeLine := by
    rw [List.length_map, sizeLine_eq]; omega
  have hno : H1 p = none := I2.hok.fresh hp
  have J : Inv X pins σ (upd H1 p (.lst (ns'.map V.int))) { s1 with heap := s'.heap, gens := s'.gens, drawn := s'.drawn, toks := s'.toks } :=
    Inv.call (s := { s1 with heap := h', toks := tk }) (ch := []) I2 (Un.laid k2 hp hno) (I2.hok.laid k2 hp ⟨hlen, out, c2, vals_of_ints hi, hg⟩) (by rw [g2]; exact I2.bare) (fun _ z => nomatch z)
  have e : s' = { s1 with heap := s'.heap, gens := s'.gens, drawn := s'.drawn, toks := s'.toks } := by
    cases s'
    cases s1
    cases o2
    rfl
  rw [e]
  exact ⟨.ref p, _, J, rfl, q1 ns' p hs hnd (fun z => by rw [hmem z]; simp) hno⟩
end Z
/-! ZW: isinstance of several built-in types; sorted(set(..)). -/
namespace Z
open PySem PySem.Spec PyProof.Rows L2
section
variable {X : Cx} {C : Cc} {base : Nat} {W : Z.WX}
inductive TyNs (X : Cx) : List Expr → List Ty → Prop
  | nil : TyNs X [] []
  | cons {p : Pos} {t : Ty} {es : List Expr} {ts : List Ty} : Gl X (tyStr t) → X.mg (tyStr t) = none → TyNs X es ts → TyNs X (.Name (tyStr t) p :: es) (t :: ts)
theorem TyNs.pa {es : List Expr} {ts : List Ty} (h : TyNs X es ts) : PA X es (fun _ H Q => Q (ts.map fun t => V.ty (tyName t)) H) := by
  induction h with
  | nil => exact pa_imp pa_nil fun σ H Q q => q
  | @cons p t es ts g m _ ih => exact pa_imp (pa_cons (pe_bltn (v := .ty (tyName t)) g m (boot_ty t) rfl (tyStr_ok t).1 (tyStr_ok t).2) ih) fun σ H Q q => q
theorem tyNs_vs (ts : List Ty) : Paired ClsV (ts.map fun t => V.ty (tyName t)) (ts.map fun t => Value.type (tyName t)) := by
  induction ts with
  | nil => exact .nil
  | cons t ts ih => exact .cons (.ty _) ih
theorem tyNs_len {es : List Expr} {ts : List Ty} (h : TyNs X es ts) : es.length = ts.length := by
  induction h with
  | nil => rfl
  | cons _ _ _ ih => simp [ih]
theorem isTy_all {st : Store} {u : U} {b0 : Bool} (t0 : Ty) (h : isTy st t0 u = some b0) (t : Ty) : ∃ b, isTy st t u = some b := by
  cases u with
  | d x => exact ⟨_, rfl⟩
  | cell n =>
    unfold isTy at h ⊢
    dsimp only at h ⊢
    cases e : st[n]? with
    | none => rw [e] at h; cases h
    | some c => rw [e] at h; cases c <;> first | exact ⟨_, rfl⟩ | cases h
  | fn => cases h
  | exc => cases h
theorem kit_tys {K : PySem.W.Frag} {st : Store} {u : U} {b0 : Bool} {n : String} (e0 : isTy st .int u = some b0) (h3 : ∀ (t : Ty) (b : Bool), isTy st t u = some b → kitB n (tyName t) = some b) : ∀ ts : List Ty,
    PySem.W.kitAny K (.type n) (ts.map fun t => Value.type (tyName t)) = some (ts.any fun t => isTy st t u == some true)
  | [] => rfl
  | t :: ts => by
    obtain ⟨b, hb⟩ := isTy_all .int e0 t
    refine kitAny_cons (kit_ty (h3 t b hb)) (fun e => ?_) fun e => ?_
    · rw [kit_tys e0 h3 ts, List.any_cons, hb, e]; rfl
    · rw [List.any_cons, hb, e]; rfl
theorem se_isTs (k : Okc X C W) {ts : List Ty} {es : List Expr} {j : Nat} {p tp pos : Pos} {e : Expr} {m : Mn} (hb : TyNs X es ts) (hl : ts.length ≤ 20) (hg : Gl X "isinstance") (hm : X.mg "isinstance" = none) (h : SE X C base W e m) (hs : noStar e = true) :
    SE X C base W (.Call (.Name "isinstance" p) [e, .Tuple es j tp] [] pos) (.of fun τ st => (m.val τ st).bind (isTsU ts)) := by
  refine .of k ⟨fun pins s σ H Q I z => ?_⟩ fun _ => rfl
  have r0 : CallR X (.builtin "isinstance") (fun xs H Q => ∃ (A : List Addr) (τ : Vars) (σ' : L2.St) (st : Store) (u : U) (v : V) (tp : Addr), Cn C base A τ st σ' H ∧ RpU C A H v u ∧ (∃ b, isTy st .int u = some b) ∧ xs = [v, .ref tp] ∧ H tp = some (.tup (ts.map fun t => V.ty (tyName t))) ∧
      Q (.bl (ts.any fun t => isTy st t u == some true)) H) := by
    intro pins s σ H xs us Q I r ⟨A, τ, σ', st, u, v, tp, c, r1, ⟨b0, e0⟩, h1, h5, h4⟩
    subst h1
    obtain ⟨w, w2, rfl, rv, r2⟩ := vals2 r
    cases (show w2 = Value.ref tp from r2)
    obtain ⟨n, P, h1, h2, h3, hx⟩ := ty_atG k I c r1 rv e0
    obtain ⟨_, its, rv2, o, g1, g2, n2, g3⟩ := (show ObjOk X.prog X.w H s.heap tp (.tup (ts.map fun t => V.ty (tyName t))) from I.hok tp _ h5)
    have e3 := ClsV.all (tyNs_vs ts) rv2
    subst e3
    obtain ⟨oc, od, dt, sl⟩ := o
    simp only at g2 g3
    subst g2 g3
    have kit := kit_tys (K := X.K) e0 h3 ts
    exact PySem.W.kia_tup h1 I.kIn h2 g1 kit hx fun tk => ⟨.bl _, H, I.tok tk, rfl, h4⟩
  refine (pe_callB r0 hg hm (by decide +kernel) (pa_cons h.val (pa_cons (pe_tup hb.pa) pa_nil) (star_cons hs)) (by decide +kernel) (by decide +kernel) (star_cons hs)).run pins s σ H Q I ?_
  obtain ⟨A, τ, st, c, z⟩ := z
  refine Rd.imp (Aft.next c z) fun v H1 ⟨A1, st1, u, g, c1, r, z⟩ => ?_
  unfold isTsU at z
  obtain ⟨b0, e0, z⟩ := opt_run z
  have hz : (ts.map fun t => V.ty (tyName t)).length ≤ sizeLine := by rw [List.length_map]; exact Nat.le_trans hl (by decide)
  refine ⟨hz, fun q hq => ⟨A1, τ, σ, st1, u, v, q, c1.beside hq, r.gr (Gr.lay hq), ⟨b0, e0⟩, rfl, upd_same, z (.bl _) _ A1 (Gr.lay hq) (c1.beside hq) (.d (.bl _))⟩⟩
/-! sorted(set(..)) -/
theorem insU_mem (x z : Int) : ∀ l : List Int, z ∈ insU x l ↔ z = x ∨ z ∈ l
  | [] => by simp [insU]
  | y :: r => by
    unfold insU
    split
    · simp
    · split
      · rename_i h; subst h; simp
      · simp [insU_mem x z r]
        constructor
        · rintro (h | h | h) <;> simp [h]
        · rintro (h | h | h) <;> simp [h]
theorem insU_lt (x : Int) : ∀ {l : List Int}, l.Pairwise (· < ·) → (insU x l).Pairwise (· < ·)
  | [], _ => by simp [insU]
  | y :: r, h => by
    unfold insU
    rw [List.pairwise_cons] at h
    split
    · rename_i h1
      refine List.pairwise_cons.mpr ⟨fun z hz => ?_, List.pairwise_cons.mpr h⟩
      rcases List.mem_cons.mp hz with e | e
      · omega
      · have := h.1 z e; omega
    · split
      · exact List.pairwise_cons.mpr h
      · refine List.pairwise_cons.mpr ⟨fun z hz => ?_, insU_lt x h.2⟩
        rcases (insU_mem x z r).mp hz with e | e
        · omega
        · exact h.1 z e
theorem ssetL_lt (ns : List Int) : (ssetL ns).Pairwise (· < ·) := by
  induction ns with
  | nil => exact .nil
  | cons x r ih => exact insU_lt x ih
theorem ssetL_mem (ns : List Int) (z : Int) : z ∈ ssetL ns ↔ z ∈ ns := by
  induction ns with
  | nil => simp [ssetL]
  | cons x r ih =>
    show z ∈ insU x (ssetL r) ↔ _
    rw [insU_mem, ih]; simp
theorem lt_unique : ∀ {l m : List Int}, l.Pairwise (· < ·) → m.Pairwise (· < ·) → (∀ z, z ∈ l ↔ z ∈ m) → l = m
  | [], [], _, _, _ => rfl
  | [], y :: m, _, _, h => by have := (h y).mpr (by simp); simp at this
  | x :: l, [], _, _, h => by have := (h x).mp (by simp); simp at this
  | x :: l, y :: m, h1, h2, h => by
    rw [List.pairwise_cons] at h1 h2
    have e : x = y := by
      have a := (h x).mp (by simp)
      have b := (h y).mpr (by simp)
      rcases List.mem_cons.mp a with a | a
      · exact a
      · rcases List.mem_cons.mp b with b | b
        · exact b.symm
        · have := h2.1 x a; have := h1.1 y b; omega
    subst e
    rw [lt_unique h1.2 h2.2 fun z => ?_]
    constructor
    · intro hz
      rcases List.mem_cons.mp ((h z).mp (List.mem_cons_of_mem _ hz)) with e | e
      · have := h1.1 z hz; omega
      · exact e
    · intro hz
      rcases List.mem_cons.mp ((h z).mpr (List.mem_cons_of_mem _ hz)) with e | e
      · have := h2.1 z hz; omega
      · exact e
theorem se_sset (k : Okc X C W) {fr : Bool} {e : Expr} {m : Mn} {p p2 q pos : Pos} (hg : Gl X "sorted") (hm : X.mg "sorted" = none) (hg2 : Gl X "set") (hm2 : X.mg "set" = none) (h : SE X C base W e m) (hs : noStar e = true) :
    SE X C base W (.Call (.Name "sorted" p) [.Call (.Name "set" p2) [e] [] q] [] pos) (.of fun τ st => (m.val τ st).bind fun u st1 => .opt (ssetOf st1 u) fun mk => fin fr st1 mk) := by
  refine .of k (pe_fz (pe_sset hg hm hg2 hm2 h.val k.calm (star_cons hs)) fun σ H Q z => ?_) fun _ => rfl
  refine Rd.imp (Rd.bind z) fun v H1 ⟨A1, τ, st1, u, c, r, z⟩ => ?_
  obtain ⟨mk, e1, z⟩ := opt_run z
  unfold ssetOf at e1
  rw [Option.bind_eq_some_iff] at e1
  obtain ⟨us, e2, e1⟩ := e1
  rw [Option.bind_eq_some_iff] at e1
  obtain ⟨xs, e3, e1⟩ := e1
  rw [Option.bind_eq_some_iff] at e1
  obtain ⟨ns, e4, e1⟩ := e1
  obtain ⟨e5, rfl⟩ := chk_run e1
  obtain ⟨a, vs, rfl, s1, r1⟩ := lst_run c e2 r
  have ev := intsOf_run e4 (r1.trees e3)
  subst ev
  refine ⟨a, ns, rfl, k.K ▸ s1, e5, fun ns' d hs' hn hmem hd => ?_⟩
  have e6 : ns' = ssetL ns := by
    refine lt_unique ?_ (ssetL_lt ns) fun y => by rw [hmem, ssetL_mem]
    refine (List.pairwise_and_iff.mpr ⟨hs', hn⟩).imp fun {a b} h => ?_
    have h2 := h.2
    omega
  subst e6
  refine fin_run c z (.lst hd (.ofD ?_))
  generalize ssetL ns = l
  induction l with
  | nil => exact .nil
  | cons i l ih => exact .cons (.int i) ih
end
end Z
/-! ZC: statements. -/
namespace Z
open PySem PySem.Spec PyProof.Rows L2
/-- what follows a statement -/
def AftS (C : Cc) (base : Nat) (W : Z.WX) (A : List Addr) (H : Hp) : FRes → Ends → Prop
  | .nx τ' st', D => ∀ σ' H' A', Gr A H A' H' → Cn C base A' τ' st' σ' H' → D.nx σ' H'
  | .ct τ' st', D => ∀ σ' H' A', Gr A H A' H' → Cn C base A' τ' st' σ' H' → D.ct σ' H'
  | .rt u st', D => ∀ v τ' σ' H' A', Gr A H A' H' → Cn C base A' τ' st' σ' H' → RpU C A' H' v u → D.rt v H'
  | .ex c τ' st', _ => ∀ σ' H' A' k, Gr A H A' H' → Cn C base A' τ' st' σ' H' → C.ca c = some k → W (.ref k) none σ' H'
  | .bad, _ => False
abbrev RdS (C : Cc) (base : Nat) (W : Z.WX) (f : Vars → Store → FRes) : TS := fun D σ H => ∃ A τ st, Cn C base A τ st σ H ∧ AftS C base W A H (f τ st) D
structure SS (X : Cx) (C : Cc) (base : Nat) (W : Z.WX) (s : Stmt) (f : Vars → Store → FRes) : Prop where
  run : PS X s (RdS C base W f)
structure SSs (X : Cx) (C : Cc) (base : Nat) (W : Z.WX) (s : List Stmt) (f : Vars → Store → FRes) : Prop where
  run : PSs X s (RdS C base W f)
theorem ps_imp {X : Cx} {s : Stmt} {t t' : TS} (h : PS X s t) (i : ∀ D σ H, t' D σ H → t D σ H) : PS X s t' := ⟨fun pins s σ H D I q => h.run pins s σ H D I (i D σ H q)⟩
theorem pss_imp {X : Cx} {s : List Stmt} {t t' : TS} (h : PSs X s t) (i : ∀ D σ H, t' D σ H → t D σ H) : PSs X s t' := ⟨fun pins s σ H D I q => h.run pins s σ H D I (i D σ H q)⟩
section
variable {C : Cc} {base : Nat} {W : Z.WX} {A A' : List Addr} {H H' : Hp} {τ : Vars} {st : Store} {σ : L2.St} {D D' : Ends}
theorem AftS.gr {r : FRes} (h : AftS C base W A H r D) (g : Gr A H A' H') : AftS C base W A' H' r D := by
  cases r with
  | nx τ st => exact fun σ H2 A2 k => h σ H2 A2 (g.trans k)
  | ct τ st => exact fun σ H2 A2 k => h σ H2 A2 (g.trans k)
  | rt u st => exact fun v τ σ H2 A2 k => h v τ σ H2 A2 (g.trans k)
  | ex c τ st => exact fun σ H2 A2 b k => h σ H2 A2 b (g.trans k)
  | bad => exact h
theorem AftS.of {α β : Type} {R : List Addr → Hp → β → α → Prop} {r : Res α} {k : α → Store → FRes} (h : AftS C base W A H (FRes.of τ r k) D) :
    Aft C base W R A H τ σ r (fun b H1 => ∃ A1 st1 a, Gr A H A1 H1 ∧ Cn C base A1 τ st1 σ H1 ∧ R A1 H1 b a ∧ AftS C base W A1 H1 (k a st1) D) := by
  cases r with
  | ok a st => exact fun b H1 A1 g c q => ⟨A1, st, a, g, c, q, AftS.gr h g⟩
  | exc c st => exact fun H1 A1 k g c => h σ H1 A1 k g c
  | bad => exact h
theorem rdS_of {α β : Type} {R : List Addr → Hp → β → α → Prop} {f : Vars → Store → Res α} {k : Vars → α → Store → FRes} (h : RdS C base W (fun τ st => FRes.of τ (f τ st) (k τ)) D σ H) :
    Rd C base W R f σ H (fun b H1 => ∃ A1 τ st1 a, Cn C base A1 τ st1 σ H1 ∧ R A1 H1 b a ∧ AftS C base W A1 H1 (k τ a st1) D) := by
  obtain ⟨A, τ, st, c, h⟩ := h
  exact ⟨A, τ, st, c, (AftS.of h).imp fun b H1 ⟨A1, st1, a, _, c1, r, q⟩ => ⟨A1, τ, st1, a, c1, r, q⟩⟩
theorem rdS_next {α β : Type} {R : List Addr → Hp → β → α → Prop} {f : Vars → Store → Res α} {k : α → Store → FRes} (c : Cn C base A τ st σ H) (h : AftS C base W A H (FRes.of τ (f τ st) k) D) :
    Rd C base W R f σ H (fun b H1 => ∃ A1 st1 a, Gr A H A1 H1 ∧ Cn C base A1 τ st1 σ H1 ∧ R A1 H1 b a ∧ AftS C base W A1 H1 (k a st1) D) := ⟨A, τ, st, c, AftS.of h⟩
theorem optS {α : Type} {o : Option α} {k : α → FRes} (h : AftS C base W A H (FRes.opt o k) D) : ∃ a, o = some a ∧ AftS C base W A H (k a) D := by
  cases o with
  | none => exact h.elim
  | some a => exact ⟨a, rfl, h⟩
/-- the first of two -/
theorem AftS.seq {r : FRes} {k : Vars → Store → FRes} (h : AftS C base W A H (r.seq k) D) : AftS C base W A H r { D with nx := RdS C base W k D } := by
  cases r with
  | nx τ st => exact fun σ H2 A2 g c => ⟨A2, τ, st, c, AftS.gr (r := k τ st) h g⟩
  | ct τ st => exact h
  | rt u st => exact h
  | ex c τ st => exact h
  | bad => exact h
end
/-- no display of another scope -/
def noComp : Expr → Bool
  | .ListComp _ _ _ _ => false
  | .SetComp _ _ _ _ => false
  | .DictComp _ _ _ _ _ => false
  | _ => true
theorem swaps_no {e : Expr} {t : Option Expr} {l : Nat} {env : Env} (h : noComp e = true) : swapsWith e t l env = pure false := by
  cases e <;> first | rfl | cases h
theorem sole_one {t v : Expr} {l : Nat} {env : Env} : swapsWithSole [t] v l env = swapsWith v (some t) l env := by rfl
def isTupE : Expr → Bool
  | .Tuple _ _ _ => true
  | .List _ _ => true
  | _ => false
theorem stores_no {t e : Expr} {env : Env} (h : isTupE e = false) : swappedStores [t] e env = pure none := by
  cases e <;> first | (cases h; done) | (cases t <;> rfl)
def okName2 (x : Str) : Bool := !(x == ("__debug__" : Str)) && !(x == ("__classdict__" : Str))
section
variable {X : Cx} {C : Cc} {base : Nat} {W : Z.WX} {pos : Pos}
theorem ss_pass : SS X C base W (.Pass pos) (fun τ st => .nx τ st) := ⟨ps_imp ps_pass fun D σ H ⟨A, τ, st, c, h⟩ => h σ H A .refl c⟩
theorem ss_never {s : Stmt} : SS X C base W s (fun _ _ => .bad) := ⟨ps_imp ps_never fun D σ H ⟨A, τ, st, c, h⟩ => h⟩
theorem ss_cont : SS X C base W (.Continue pos) (fun τ st => .ct τ st) := ⟨ps_imp ps_continue fun D σ H ⟨A, τ, st, c, h⟩ => h σ H A .refl c⟩
theorem ss_expr {e : Expr} {m : Mn} (h : SE X C base W e m) (hc : noComp e = true) : SS X C base W (.Expr e pos) (fun τ st => FRes.of τ (m.val τ st) fun _ st1 => .nx τ st1) :=
  ⟨ps_imp (ps_expr h.val (swaps_no hc)) fun D σ H q => Rd.imp (rdS_of q) fun v H1 ⟨A1, τ, st1, u, c, r, q⟩ => q σ H1 A1 .refl c⟩
theorem ss_ret {e : Expr} {m : Mn} (h : SE X C base W e m) : SS X C base W (.Return (some e) pos) (fun τ st => FRes.of τ (m.val τ st) fun u st1 => .rt u st1) :=
  ⟨ps_imp (ps_ret h.val) fun D σ H q => Rd.imp (rdS_of q) fun v H1 ⟨A1, τ, st1, u, c, r, q⟩ => q v τ σ H1 A1 .refl c r⟩
theorem ss_retn : SS X C base W (.Return none pos) (fun _ st => .rt (.d .none) st) := ⟨ps_imp ps_retN fun D σ H ⟨A, τ, st, c, h⟩ => h .non τ σ H A .refl c (.d .non)⟩
/-- what is stored -/
theorem set_aft {tg : Tg} {A : List Addr} {H : Hp} {τ : Vars} {σ : L2.St} {st : Store} {u : U} {v : V} {D : Ends} (c : Cn C base A τ st σ H) (r : RpU C A H v u)
    (q : AftS C base W A H (FRes.opt (setT tg u τ) fun τ1 => .nx τ1 st) D) : gOf C.K tg v σ H D.nx := by
  obtain ⟨τ1, e, q⟩ := optS q
  exact setT_run e c r fun σ1 c1 _ => q σ1 H A .refl c1
theorem ss_setN (k : Okc X C W) {i : Nat} {x : Str} {e : Expr} {m : Mn} {p : Pos} (hi : X.N[i]? = some x) (hx : Loc X.env.scope x) (hf : X.fn x = true ∨ X.env.scope.names.lookup x = some .local) (h : SE X C base W e m)
    (hs : swapsWith e (some (.Name x p)) pos.line X.env = pure false) : SS X C base W (.Assign [.Name x p] e pos) (fun τ st => FRes.of τ (m.val τ st) fun u st1 => FRes.opt (setT (.v i) u τ) fun τ1 => .nx τ1 st1) :=
  ⟨ps_imp (ps_set k.nd hi hx h.val hs hf) fun D σ H q => Rd.imp (rdS_of q) fun v H1 ⟨A1, τ, st1, u, c, r, q⟩ => set_aft c r q⟩
theorem ss_setT {es : List Expr} {n : Nat} {p : Pos} {tg : Tg} {e : Expr} {m : Mn} (hg : PG X (.Tuple es n p) (gOf C.K tg)) (h : SE X C base W e m) (hs : noComp e = true) (ht : isTupE e = false) :
    SS X C base W (.Assign [.Tuple es n p] e pos) (fun τ st => FRes.of τ (m.val τ st) fun u st1 => FRes.opt (setT tg u τ) fun τ1 => .nx τ1 st1) :=
  ⟨ps_imp (ps_asg h.val hg (by rw [sole_one]; exact swaps_no hs) (stores_no ht)) fun D σ H q => Rd.imp (rdS_of q) fun v H1 ⟨A1, τ, st1, u, c, r, q⟩ => set_aft c r q⟩
/-- behind a statement a list may be locked -/
theorem ps_fz {s : Stmt} {t t' : TS} (h : PS X s t) (i : ∀ D σ H, t' D σ H → t { D with nx := fun σ' H' => D.nx σ' H' ∨ ∃ p u, H' p = some u ∧ L2.Mut (some u) ∧ ∀ o, D.nx σ' (upd H' p (.frz o u)) } σ H) : PS X s t' := by
  refine ⟨fun pins s σ H D I q => thn (h.run pins s σ H _ I (i D σ H q)) fun f s1 z => ?_⟩
  cases f with
  | next =>
    obtain ⟨σ', H', I', z⟩ := z
    rcases z with z | ⟨p, u, e, mu, z⟩
    · exact ⟨σ', H', I', z⟩
    · obtain ⟨o, J⟩ := I'.lock e mu
      exact ⟨σ', _, J, z o⟩
  | brk => exact z
  | cont => exact z
  | ret v => exact z
theorem tlc_imp {wi : TI} {g : TG} {tt : TT} {te : TE} {vs : List Nat} {σ : L2.St} {H : Hp} {Q Q' : VK} (mono : ∀ (R R' : It → Hp → Prop), (∀ J H, R J H → R' J H) → wi σ H R → wi σ H R') (i : ∀ p H, Q (.ref p) H → Q' (.ref p) H) (h : tLc wi g tt te vs σ H Q) : tLc wi g tt te vs σ H Q' := by
  refine mono _ _ (fun J H1 z D hD => ?_) h
  obtain ⟨Wf, w0, z⟩ := z D hD
  exact ⟨Wf, w0, fun i' m H hw => (z i' m H hw).imp (fun ⟨a, b⟩ => ⟨a, i D H b⟩) fun x => x⟩
/-- name = [..] on one line -/
theorem ss_setC (k : Okc X C W) {i : Nat} {y : Str} {py spos : Pos} {fr : Bool} {own : List (Str × Nat)} {e : Expr} {tgE iter : Expr} {ifs : List Expr} {scope : Scope} {elt : Mn} {tg : Tg} {it : Md Src} {cs : List Mn}
    (hy : X.N[i]? = some y) (hyl : X.env.scope.names.lookup y = some .local) (hsw : swapsWith (.ListComp e [⟨tgE, iter, ifs, 0⟩] scope pos) (some (.Name y py)) spos.line X.env = pure true)
    (hi : PI X tgE iter (RdI C base W it)) (ok : BlkOk X.N X.env.scope scope own)
    (hg : ∀ (s : Shared) (H : Hp) (D : Addr) (cl : List (Str × Addr)) (fp : List Addr), PG (X.blk s H scope (compEnvC scope cl D X.env) fp) tgE (gOf X.K tg))
    (ht : ∀ (s : Shared) (H : Hp) (D : Addr) (cl : List (Str × Addr)) (fp : List Addr), SEs (X.blk s H scope (compEnvC scope cl D X.env) fp) C base W0 ifs cs) (hl : cs.length ≤ 1)
    (he : ∀ (s : Shared) (H : Hp) (D : Addr) (cl : List (Str × Addr)) (fp : List Addr), SE (X.blk s H scope (compEnvC scope cl D X.env) fp) C base W0 e elt)
    (hsl : ∀ i ∈ slots tg, i ∈ own.map (·.2)) (hs : ∀ x, foldedSetIterable iter X.env x = pure x) :
    SS X C base W (.Assign [.Name y py] (.ListComp e [⟨tgE, iter, ifs, 0⟩] scope pos) spos) (fun τ st => FRes.of τ (compU fr (own.map (·.2)) elt tg it cs τ st) fun u st1 => FRes.opt (setT (.v i) u τ) fun τ1 => .nx τ1 st1) := by
  refine ⟨ps_fz (ps_setLc k.calm k.nd hy hyl hsw hi ok hg (fun s H D cl fp => pts_of (ht s H D cl fp) hl) (fun s H D cl fp => (he s H D cl fp).val) hs) fun D σ H q => ?_⟩
  rw [k.K]
  have q1 : RdU C base W (compU fr (own.map (·.2)) elt tg it cs) σ H (fun v H1 => D.nx (σ.set i (some v)) H1) := Rd.imp (rdS_of q) fun v H1 ⟨A1, τ, st1, u, c, r, q⟩ => set_aft c r q
  refine tlc_imp (fun R R' h z => Rd.imp z h) (fun p H z => ?_) (lc_read hsl q1)
  rcases z with z | ⟨p', u, e1, e2, mu, z⟩
  · exact .inl z
  · cases e1
    exact .inr ⟨p, u, e2, mu, z⟩
theorem pair_set {α β : Type} {F : α → β → Prop} : ∀ {xs : List α} {us : List β} {j : Nat} {x : α} {u : β}, Paired F xs us → F x u → Paired F (xs.set j x) (us.set j u)
  | _, _, _, _, _, .nil, _ => .nil
  | _, _, 0, _, _, .cons a b, h => .cons h b
  | _, _, j + 1, _, _, .cons a b, h => .cons a (pair_set b h)
/-! dicts -/
theorem fz_write {a : Addr} {o o' : HO} {H : Hp} (h : H a = some o) (mu : MutC (some o)) : ∀ b q, Fz q → H b = some q → upd H a o' b = some q := by
  intro b q f e
  have : b ≠ a := by
    rintro rfl
    rw [h] at e
    cases e
    cases o <;> first | exact f | exact mu
  rw [upd_ne this]; exact e
theorem ss_sub (k : Okc X C W) {e o i : Expr} {m mo mi : Mn} {p : Pos} (h : SE X C base W e m) (ho : SE X C base W o mo) (hi : SE X C base W i mi) (hc : noComp e = true) (hns : ∀ v, assign (.Subscript o i p) X.env v = (do
      let ov ← holding [v] (eval o X.env)
      let iv ← holding [v, ov] (eval i X.env)
      standAt p
      holding [v, ov, iv] (setItem ov iv v)
      release [v, ov, iv] [])) :
    SS X C base W (.Assign [.Subscript o i p] e pos) (fun τ st => FRes.of τ (m.val τ st) fun u st1 => FRes.of τ (mo.val τ st1) fun x st2 => FRes.of τ (mi.val τ st2) fun y st3 => FRes.opt (setAt base st3 x y u) fun st4 => .nx τ st4) := by
  refine ⟨ps_imp (ps_asg h.val (pg_sub ho.val hi.val (set_any k) hns) (by rw [sole_one]; exact swaps_no hc) (by cases e <;> rfl)) fun D σ H q => ?_⟩
  refine Rd.imp (rdS_of q) fun v H1 ⟨A1, τ, st1, u, c, r, q⟩ => ?_
  refine Rd.imp (rdS_next c q) fun w H2 ⟨A2, st2, x, g2, c2, r2, q⟩ => ?_
  refine Rd.imp (rdS_next c2 q) fun z H3 ⟨A3, st3, y, g3, c3, r3, q⟩ => ?_
  obtain ⟨st4, e1, q⟩ := optS q
  unfold setAt at e1
  have hb : base ≤ A3.length := by rw [c3.len]; exact c3.le
  split at e1
  · -- a dict
    refine .inr ?_
    unfold putAt at e1
    rw [Option.bind_eq_some_iff] at e1
    obtain ⟨pr, e2, e1⟩ := e1
    rw [Option.bind_eq_some_iff] at e1
    obtain ⟨yd, e3, e1⟩ := e1
    obtain ⟨h3, a, rfl, ha, cr⟩ := dctAt_run c3 e2 (r2.gr g3)
    obtain ⟨n, t, kvs⟩ := pr
    cases y with
    | cell => cases e3
    | fn => cases e3
    | exc => cases e3
    | d yd' =>
    cases e3
    cases t with
    | true =>
      dsimp only at e1 cr ha h3
      rw [Option.bind_eq_some_iff] at e1
      obtain ⟨kk, e4, e1⟩ := e1
      obtain ⟨⟨e5, e6⟩, rfl⟩ := chk_run e1
      have ru := okIn_run hb e6 ((r.gr g2).gr g3)
      obtain ⟨es, hes, kr⟩ := cr
      have ex := unT_inv e4
      subst ex
      obtain ⟨b, ws, rfl, f1, rw1⟩ : ∃ b ws, z = .ref b ∧ H3 b = some (.tup ws) ∧ RpAll C.K C.w H3 ws (kk.map kvD) := by
        cases r3 with
        | d r3 => cases r3 with | tup f1 r => exact ⟨_, _, rfl, f1, r⟩
      have ew := keys_eq rw1
      subst ew
      have ln := Paired.length kr
      obtain ⟨g, c4⟩ := dct_write (o' := .dT (putK es kk v)) (cc := .dct true (putD unT (.tuple (kk.map kvD)) kk u kvs)) c3 ha hes trivial fun B eB => by
        subst eB
        exact ⟨_, upd_same, Paired.mapP (put_rel (un := unT) (sh := fun k : List Key => .tuple (k.map kvD)) unT_kDs kr ru) fun _ _ q => ⟨q.1, q.2.mono (fz_write hes trivial) List.prefix_rfl⟩⟩
      exact ⟨a, _, rfl, .inr ⟨es, kk, b, hes, rfl, f1, by rw [ln]; exact e5, rfl⟩, q σ _ A3 g c4⟩
    | false =>
      dsimp only at e1 cr ha h3
      rw [Option.bind_eq_some_iff] at e1
      obtain ⟨kk, e4, e1⟩ := e1
      obtain ⟨⟨e5, e6⟩, rfl⟩ := chk_run e1
      have ru := okIn_run hb e6 ((r.gr g2).gr g3)
      obtain ⟨es, hes, kr⟩ := cr
      have ex := unK_inv e4
      subst ex
      have ez : z = kV kk := by
        cases r3 with
        | d r3 => cases kk with
          | inl i => cases r3; rfl
          | inr s => cases r3; rfl
      subst ez
      have ln := Paired.length kr
      obtain ⟨g, c4⟩ := dct_write (o' := .dK (putK es kk v)) (cc := .dct false (putD unK (kvD kk) kk u kvs)) c3 ha hes trivial fun B eB => by
        subst eB
        exact ⟨_, upd_same, Paired.mapP (put_rel (un := unK) (sh := kvD) unK_kvD kr ru) fun _ _ q => ⟨q.1, q.2.mono (fz_write hes trivial) List.prefix_rfl⟩⟩
      exact ⟨a, _, rfl, .inl ⟨es, kk, hes, rfl, by rw [ln]; exact e5, rfl⟩, q σ _ A3 g c4⟩
  · refine .inl ?_
    split at e1
    · rename_i kx
      rw [Option.bind_eq_some_iff] at e1
      obtain ⟨pr, e2, e1⟩ := e1
      rw [Option.bind_eq_some_iff] at e1
      obtain ⟨j, e3, e1⟩ := e1
      obtain ⟨e4, rfl⟩ := chk_run e1
      obtain ⟨h3, a, vs, rfl, ha, hv, rv⟩ := lstAt_run c3 e2 (r2.gr g3)
      have ru := okIn_run hb e4 ((r.gr g2).gr g3)
      obtain ⟨g, c4⟩ := lst_write c3 ha hv (us := pr.2.set j u) (pair_set rv ru)
      exact ⟨a, vs, kx, j, rfl, rint r3, hv, by rw [us_len rv]; exact e3, q σ _ A3 g c4⟩
    · cases e1
/-! ### exceptions -/
theorem ss_raise (k : Okc X C W) (tk : Takes X W) {c : Nat} {a : Addr} {x m : Str} {j : Nat} {p p2 pos2 : Pos} (hca : C.ca c = some a) (F : ExF C.K a) (hm : X.mg x = some (.ref a)) (hg : Gl X x) (hd : (x == ("__debug__" : Str)) = false) :
    SS X C base W (.Raise (some (.Call (.Name x p) [.Constant (.str m) j p2] [] pos2)) none pos) (fun τ st => .ex c τ st) := by
  rw [← k.K] at F
  exact ⟨ps_imp (ps_raise k.calm tk (pmk_own PySem.F.excBase_ValueError F.q hm F.k (raises_own F.b F.t) hg hd)) fun D σ H ⟨A, τ, st, c, h⟩ => h σ H A a .refl c hca⟩
theorem Cn.unset {i : Nat} {A : List Addr} {τ : Vars} {st : Store} {σ : L2.St} {H : Hp} (c : Cn C base A τ st σ H) : Cn C base A (τ.set i none) st (σ.set i none) H := by
  refine ⟨c.len, c.nd, c.le, c.cells, by simpa using c.vlen, fun j u e => ?_, c.sys⟩
  by_cases hij : i = j
  · subst hij
    by_cases hl : i < τ.length
    · rw [List.getElem?_set_self hl] at e; cases e
    · rw [List.getElem?_eq_none (by simpa using hl)] at e; cases e
  · rw [List.getElem?_set_ne hij] at e
    obtain ⟨v, h1, h2⟩ := c.vars j u e
    exact ⟨v, by rw [List.getElem?_set_ne hij]; exact h1, h2⟩
/-- n = e, in the except suite -/
theorem suite_keep {Y : Cx} {i n : Nat} {x y : Str} {p p2 ps : Pos} (nd : Y.N.Nodup) (hi : Y.N[i]? = some x) (hn : Y.N[n]? = some y) (hx : Loc Y.env.scope x) (hy : Loc Y.env.scope y) (hf : Y.fn y = true ∨ Y.env.scope.names.lookup y = some .local) (hdx : okName2 x = true) :
    PSs Y [.Assign [.Name y p] (.Name x p2) ps] (fun D σ H => ∃ σ0 v, σ = List.set σ0 i (some v) ∧ D.nx (σ.set n (some v)) H) := by
  have vx : Vis Y.env.scope x := by rcases hx with h | h; exact .inl h; exact .inr (.inl h)
  simp only [okName2, Bool.and_eq_true, Bool.not_eq_true'] at hdx
  refine ⟨fun pins s σ H D I h => ?_⟩
  obtain ⟨σ0, v, e, q⟩ := h
  have hl : i < σ0.length := by
    have := I.len
    rw [e, List.length_set] at this
    rw [this]; exact (List.getElem?_eq_some_iff.mp hi).1
  have ev : σ[i]? = some (some v) := by rw [e, List.getElem?_set_self hl]
  exact (pss_cons (ps_set nd hn hy (pe_var hi vx hdx.1 hdx.2) rfl hf) pss_nil).run pins s σ H D I ⟨v, ev, q⟩
theorem ss_try (k : Okc X C W) (tk : Takes X W) (hs : X.stack = X.env :: X.outer) (hf : X.env.frame = some X.env.locals) (hex : X.ex = []) {i n : Nat} {x e y : Str} {b0 : Addr} {np hp p p2 ps : Pos} {body : List Stmt} {f : Vars → Store → FRes}
    (hin : i ≠ n) (hi : X.N[i]? = some e) (hn : X.N[n]? = some y) (hln : X.env.scope.names.lookup e = some .local) (hy : Loc X.env.scope y) (hfy : X.fn y = true ∨ X.env.scope.names.lookup y = some .local) (hde : okName2 e = true)
    (hg : Gl X x) (hd : (x == ("__debug__" : Str)) = false) (hm : X.mg x = some (.ref b0)) (hx : ∀ kk a, C.ca kk = some a → PySem.W.exmOne C.K (.ref a) (.ref b0) = some true)
    (hb : ∀ (W2 : L2.WX) (pn : List (Addr × Obj)) (xe : Value → Shared → Prop), Takes (X.tr pn xe) W2 → PassesOwn (model X.prog X.w) X.A X.env xe → SSs (X.tr pn xe) C base W2 body f) :
    SS X C base W (.Try body [.ExceptHandler (some (.Name x np)) (some e) [.Assign [.Name y p] (.Name e p2) ps] hp] [] [] pos) (fun τ st => (f τ st).kept i n) := by
  refine ⟨ps_imp (ps_try_kp (tb := fun W2 => RdS C base W2 f) hs hf hex k.nd hi hln ⟨hg, hd, .inl hm⟩ tk (fun W2 pn xe t2 ph => (hb W2 pn xe t2 ph).run) fun a oe pn => suite_keep (Y := X.suite a ((a, oe) :: pn)) k.nd hi hn (.inl hln) hy hfy hde) fun D σ H h => ?_⟩
  obtain ⟨A, τ, st, c, h⟩ := h
  replace h : AftS C base W A H ((f τ st).kept i n) D := h
  refine ⟨A, τ, st, c, ?_⟩
  cases er : f τ st with
  | nx τ1 st1 => rw [er] at h; exact h
  | ct τ1 st1 => rw [er] at h; exact h
  | rt u st1 => rw [er] at h; exact h
  | bad => rw [er] at h; exact h.elim
  | ex kk τ1 st1 =>
    rw [er] at h
    intro σ' H' A' a0 g c1 hca
    refine ⟨true, by rw [k.K]; exact hx kk a0 hca, (fun z => nomatch z), fun _ => ⟨rfl, fun a na => ⟨σ', .ref a, rfl, fun hn0 => ?_⟩⟩⟩
    have hcx := c1.beside (o := ExK (.ref a0) a) na
    have c2 := (hcx.setVar (i := n) (v := .ref a) (.exc hca upd_same)).unset (i := i)
    have e1 : ((σ'.set i (some (.ref a))).set n (some (.ref a))).set i none = (σ'.set n (some (.ref a))).set i none := by
      rw [List.set_comm _ _ hin, List.set_set]
    rw [e1]
    exact h _ _ A' (g.trans (Gr.lay na)) c2
/-! ### blocks -/
theorem sss_nil : SSs X C base W [] (fun τ st => .nx τ st) := ⟨pss_imp pss_nil fun D σ H ⟨A, τ, st, c, h⟩ => h σ H A .refl c⟩
theorem sss_cons {s : Stmt} {ss : List Stmt} {f g : Vars → Store → FRes} (h : SS X C base W s f) (h2 : SSs X C base W ss g) : SSs X C base W (s :: ss) (fun τ st => (f τ st).seq g) :=
  ⟨pss_imp (pss_cons h.run h2.run) fun D σ H ⟨A, τ, st, c, q⟩ => ⟨A, τ, st, c, AftS.seq q⟩⟩
theorem ss_if {c : Expr} {m : Mn} {a b : List Stmt} {f g : Vars → Store → FRes} (hc : SE X C base W c m) (ha : SSs X C base W a f) (hb : SSs X C base W b g) :
    SS X C base W (.If c a b pos) (fun τ st => FRes.of τ (m.tst τ st) fun t st1 => if t then f τ st1 else g τ st1) := by
  refine ⟨ps_imp (ps_if hc.tst ha.run hb.run) fun D σ H q => ?_⟩
  refine Rd.imp (rdS_of q) fun v H1 ⟨A1, τ, st1, u, c1, r, q⟩ => ?_
  cases (show v = u from r)
  cases v with
  | true => exact ⟨A1, τ, st1, c1, q⟩
  | false => exact ⟨A1, τ, st1, c1, q⟩
/-! ### loops -/
def FRes.loop (r : FRes) (k : Vars → Store → FRes) : FRes := match r with
  | .nx τ st => k τ st
  | .ct τ st => k τ st
  | q => q
/-- as RdS, told from where -/
def RdG (C : Cc) (base : Nat) (W : Z.WX) (A : List Addr) (H : Hp) (k : Vars → Store → FRes) (D : Ends) (σ' : L2.St) (H' : Hp) : Prop := ∃ A' τ' st', Gr A H A' H' ∧ Cn C base A' τ' st' σ' H' ∧ AftS C base W A' H' (k τ' st') D
theorem AftS.loop {A : List Addr} {H : Hp} {r : FRes} {k : Vars → Store → FRes} {D : Ends} (h : AftS C base W A H (r.loop k) D) : AftS C base W A H r { D with nx := RdG C base W A H k D, ct := RdG C base W A H k D } := by
  cases r with
  | nx τ st => exact fun σ H2 A2 g c => ⟨A2, τ, st, g, c, AftS.gr (r := k τ st) h g⟩
  | ct τ st => exact fun σ H2 A2 g c => ⟨A2, τ, st, g, c, AftS.gr (r := k τ st) h g⟩
  | rt u st => exact h
  | ex c τ st => exact h
  | bad => exact h
theorem AftS.imp {A : List Addr} {H : Hp} {r : FRes} {D D' : Ends} (h : AftS C base W A H r D) (h1 : ∀ σ H, D.nx σ H → D'.nx σ H) (h2 : ∀ σ H, D.ct σ H → D'.ct σ H) (h3 : ∀ v H, D.rt v H → D'.rt v H) : AftS C base W A H r D' := by
  cases r with
  | nx τ st => exact fun σ H2 A2 g c => h1 _ _ (h σ H2 A2 g c)
  | ct τ st => exact fun σ H2 A2 g c => h2 _ _ (h σ H2 A2 g c)
  | rt u st => exact fun v τ σ H2 A2 g c r => h3 _ _ (h v τ σ H2 A2 g c r)
  | ex c τ st => exact h
  | bad => exact h
theorem forL_cons {src : Src} {step : U → Vars → Store → FRes} {u : U} {r : List U} {τ : Vars} {st : Store} (h : src.Keep st) : forL src step (u :: r) τ st = (step u τ st).loop (forL src step r) := by
  conv => lhs; unfold forL
  rw [if_pos h]
  cases step u τ st <;> rfl
theorem ss_for (k : Okc X C W) (hp : PassesOwn (model X.prog X.w) X.A X.env X.xe) {tgE iter : Expr} {body : List Stmt} {tg : Tg} {it : Md Src} {f : Vars → Store → FRes} (hi : PI X tgE iter (RdI C base W it)) (hg : PG X tgE (gOf C.K tg)) (hb : SSs X C base W body f)
    (hs : ∀ x, foldedSetIterable iter X.env x = pure x) : SS X C base W (.For tgE iter body [] pos) (fun τ st => FRes.of τ (it τ st) fun src st1 => forL src (fun u τ1 st2 => FRes.opt (setT tg u τ1) fun τ2 => f τ2 st2) src.us τ st1) := by
  refine ⟨ps_imp (ps_for hp k.calm hi hg hb.run hs) fun D σ H q => ?_⟩
  refine Rd.imp (rdS_of q) fun J H1 ⟨A1, τ1, st1, src, c1, dr, q⟩ => ?_
  generalize hstep : (fun u τ1 st2 => FRes.opt (setT tg u τ1) fun τ2 => f τ2 st2 : U → Vars → Store → FRes) = step at q
  refine ⟨fun i m σ2 H2 => m = src.us.length - i ∧ i ≤ src.us.length ∧ ∃ A2 τ2 st2, Gr A1 H1 A2 H2 ∧ Cn C base A2 τ2 st2 σ2 H2 ∧ AftS C base W A2 H2 (forL src step (src.us.drop i) τ2 st2) D,
    ⟨src.us.length, by simp, Nat.zero_le _, A1, τ1, st1, .refl, c1, q⟩, ?_⟩
  rintro i m σ2 H2 ⟨rfl, hi, A2, τ2, st2, g2, c2, q⟩
  by_cases hlt : i < src.us.length
  · rw [List.drop_eq_getElem_cons hlt] at q
    by_cases hk : src.Keep st2
    · rw [forL_cons hk] at q
      have hg' : src.us[i]? = some src.us[i] := List.getElem?_eq_getElem hlt
      refine .inr ⟨dr.go g2 c2 hk hg', fun σ' H' => i + 1 ≤ src.us.length ∧ ∃ A2 τ2 st2, Gr A1 H1 A2 H' ∧ Cn C base A2 τ2 st2 σ' H' ∧ AftS C base W A2 H' (forL src step (src.us.drop (i + 1)) τ2 st2) D,
        fun σ' H' n => ⟨src.us.length - (i + 1), by omega, rfl, n⟩, fun x H3 y => ?_⟩
      obtain ⟨g3, c3, r3, _⟩ := dr.yld g2 c2 hk hg' y
      have q3 := AftS.gr (AftS.loop q) g3
      rw [← hstep] at q3
      obtain ⟨τ3, e3, q3⟩ := optS q3
      refine setT_run e3 c3 r3 fun σ4 c4 _ => ⟨A2, τ3, st2, c4, AftS.imp q3 (fun σ' H' ⟨A', τ', st', g, c, z⟩ => ?_) (fun σ' H' ⟨A', τ', st', g, c, z⟩ => ?_) fun v H h => h⟩
      · exact ⟨hlt, A', τ', st', g2.trans g, c, by rw [hstep] at z; exact z⟩
      · exact ⟨hlt, A', τ', st', g2.trans g, c, by rw [hstep] at z; exact z⟩
    · have e : forL src step (src.us[i] :: src.us.drop (i + 1)) τ2 st2 = .bad := by conv => lhs; unfold forL; rw [if_neg hk]
      rw [e] at q; exact q.elim
  · have e : i = src.us.length := by omega
    subst e
    rw [List.drop_eq_nil_of_le (Nat.le_refl _)] at q
    unfold forL at q
    by_cases hk : src.Keep st2
    · rw [if_pos hk] at q
      exact .inl ⟨dr.stop g2 c2 hk (Nat.le_refl _), q σ2 H2 A2 .refl c2⟩
    · rw [if_neg hk] at q; exact q.elim
theorem ss_while (k : Okc X C W) (hp : PassesOwn (model X.prog X.w) X.A X.env X.xe) {c : Expr} {m : Mn} {body : List Stmt} {f : Vars → Store → FRes} {n : Nat} (hc : SE X C base W c m) (hb : SSs X C base W body f) :
    SS X C base W (.While c body [] pos) (whileL (fun τ st => m.tst τ st) f n) := by
  refine ⟨ps_imp (ps_while hp hc.tst hb.run) fun D σ H ⟨A, τ, st, c0, q⟩ => ?_⟩
  refine ⟨fun n σ H => ∃ A τ st, Cn C base A τ st σ H ∧ AftS C base W A H (whileL (fun τ st => m.tst τ st) f n τ st) D, ⟨n, A, τ, st, c0, q⟩, ?_⟩
  rintro n σ H ⟨A, τ, st, c0, q⟩
  cases n with
  | zero => exact q.elim
  | succ n =>
    have e : whileL (fun τ st => m.tst τ st) f (n + 1) τ st = FRes.of τ (m.tst τ st) fun b st1 => if b then (f τ st1).loop (whileL (fun τ st => m.tst τ st) f n) else .nx τ st1 := by
      conv => lhs; unfold whileL
      rfl
    rw [e] at q
    refine Rd.imp (rdS_next c0 q) fun b H1 ⟨A1, st1, u, g, c1, r, q⟩ => ?_
    cases (show b = u from r)
    cases b with
    | false => exact q σ H1 A1 .refl c1
    | true =>
      simp only [if_true] at q ⊢
      exact ⟨fun σ' H' => ∃ A τ st, Cn C base A τ st σ' H' ∧ AftS C base W A H' (whileL (fun τ st => m.tst τ st) f n τ st) D, fun σ' H' z => ⟨n, Nat.lt_succ_self n, z⟩, A1, τ, st1, c1,
        AftS.imp (AftS.loop q) (fun σ' H' ⟨A', τ', st', g, c, z⟩ => ⟨A', τ', st', c, z⟩) (fun σ' H' ⟨A', τ', st', g, c, z⟩ => ⟨A', τ', st', c, z⟩) fun v H h => h⟩
/-- name op= a number -/
theorem ss_aug (k : Okc X C W) {i : Nat} {x : Str} {e : Expr} {m : Mn} {op : Operator} {p : Pos} (ho : op = .Add ∨ op = .Sub) (hi : X.N[i]? = some x) (hx : Loc X.env.scope x) (hf : X.fn x = true ∨ X.env.scope.names.lookup x = some .local) (h : SE X C base W e m) :
    SS X C base W (.AugAssign (.Name x p) op e pos) (fun τ st => match τ[i]? with
    | some (some x) => FRes.of τ (m.val τ st) fun y st1 => (match x, y with
      | .d (.int a), .d (.int b) => FRes.opt (intOp op a b) fun k => .nx (τ.set i (some (.d (.int k)))) st1
      | _, _ => .bad)
    | _ => .bad) := by
  have hip : PIp X op (ipI fun a b => (if op = .Add then a + b else a - b)) := by
    rcases ho with rfl | rfl
    · exact ip_add
    · exact ip_sub
  refine ⟨ps_imp (ps_aug k.nd hi hx h.val hip hf) fun D σ H ⟨A, τ, st, c, q⟩ => ?_⟩
  dsimp only at q
  split at q
  · rename_i u e1
    obtain ⟨v, e2, r⟩ := c.vars i u e1
    refine ⟨v, e2, ?_⟩
    refine Rd.imp (rdS_next c q) fun w H1 hw => ?_
    clear q
    obtain ⟨A1, st1, y, g, c1, r1, q⟩ := hw
    split at q
    · rename_i na nb
      obtain ⟨z, e3, q⟩ := optS q
      have r' := rint (r.gr g)
      have e4 : z = (if op = .Add then na + nb else na - nb) := by
        rcases ho with rfl | rfl
        · exact (Option.some.inj e3).symm
        · exact (Option.some.inj e3).symm
      refine ⟨na, nb, r', rint r1, q _ H1 A1 .refl ?_⟩
      show Cn C base A1 _ _ (σ.set i (some (V.int (if op = .Add then na + nb else na - nb)))) H1
      rw [← e4]
      exact c1.setVar (.d (.int z))
    · exact q.elim
  · exact q.elim
end
end Z
/-! ZO: list(d.values()), keys tuples; a list unpacked. -/
namespace Z
open PySem PySem.Spec PyProof.Rows L2 PySem.W
/-- list(e.values()) -/
def tLVals (te : TE) : TE := fun σ H Q => te σ H fun x H1 => ∃ (a : Addr) (es : List (List Key × V)), x = .ref a ∧ L2.Rd H1 a (.dT es) ∧ ∀ p, H1 p = none → Q (.ref p) (upd H1 p (.lst (es.map (·.2))))
theorem pe_lvals {X : Cx} {e : Expr} {te : TE} {p apos cpos pos : Pos} (hc : X.calm = true) (he : PE X e te) (hg : Gl X "list") (hm : X.mg "list" = none) (hbase : attributeBase e "values" X.env (eval e X.env) = eval e X.env) (hline : (apos.endLine == cpos.line) = true)
    (hs : starEach [.Call (.Attribute e "values" apos) [] [] cpos] X.env = (false, eval (.Call (.Attribute e "values" apos) [] [] cpos) X.env) :: starEach [] X.env := by rfl) :
    PE X (.Call (.Name "list" p) [.Call (.Attribute e "values" apos) [] [] cpos] [] pos) (tLVals te) := by
  refine ⟨fun pins s σ H Q I hq => ?_⟩
  refine wpAny_Call_Name_kw (ld_blt I hg hm boot_list ?_)
  refine PyProof.Rows.callWith_type1 ?_ hs rfl
  rw [hs]
  show wpAny _ _ (spliced ((false, eval (.Call (.Attribute e "values" apos) [] [] cpos) X.env) :: backTo pos (starEach [] X.env))) _ _ s
  refine Calls.spliced_cons ?_
  refine wpAny_Call_method (T := "dict") (id := "dict.values") hbase rfl hline F.plainAttrs_dict F.slot_dict_values F.type_dict_values (thn (he.run pins s σ H _ I hq) fun u s1 ⟨x, H1, I1, rx, d, es, ex, hd, q⟩ => ?_)
  subst ex
  obtain rfl : u = Value.ref d := rx
  obtain ⟨ty, nd, hs0⟩ := isD_at I1 (a := d) (.inr ⟨es, hd⟩)
  obtain ⟨hz, _, xs, rel, dd⟩ := dt_rd I1.hok hd
  obtain ⟨en, ep, hraw, hsz, hat⟩ := dd.raw
  have hl : es.length = xs.length := Paired.length rel
  refine ⟨ty, nd, ?_⟩
  show wpAny _ _ (callWith cpos (.builtin "dict.values") [.ref d] [] []) _ X.xe s1
  refine method_meetsIn F.slot_dict_values F.entry_dict_values rfl (PySem.evalArgs_none ⟨rfl, ty, F.args_dict_values_1 _, _, meets_dict_values_raw d hs0, ⟨en, ep, hraw⟩, ?_⟩)
  refine Calls.spliced_nil ?_
  have I2 : Inv X pins σ H1 { s1 with heap := s1.heap.push { cls := .type "dict_values", data := .fields #[.ref d] } } := I1.kept (t' := s1.toks) fun b ob q => Heap.get?_push_of_some _ q
  refine PySem.W.kdl_call (s := { s1 with heap := s1.heap.push { cls := .type "dict_values", data := .fields #[.ref d] } }) (KdlSrc.rawValues (r := s1.heap.objs.size) (d := d) (es := en) (ep := ep)) (I1.ok.hd hc) ⟨⟨_, Heap.get?_push_size _ rfl, rfl, rfl⟩, hraw.push _⟩ (by omega) fun h' tk acc c hk hS hacc => ?_
  have hal : acc.toList.length = es.length := by rw [Array.length_toList, hl, ← hsz]; exact hacc.1
  have hv : Vals (es.map (·.2)) acc.toList := by
    have key : ∀ (j : Nat) (q : List Key × V), es[j]? = some q → ∃ v, acc.toList[j]? = some v ∧ RelV q.2 v := fun j q hj => by
      have hj1 : j < es.length := (List.getElem?_eq_some_iff.mp hj).1
      have hj2 : j < acc.toList.length := by omega
      obtain ⟨hi, hv⟩ := hacc.2 j acc.toList[j] (by rw [← Array.getElem?_toList]; exact List.getElem?_eq_getElem hj2)
      obtain ⟨y, hy, _, hval, _⟩ := hat j hi
      obtain ⟨y', hy', e1, e2, e3⟩ := paired_get rel hj
      rw [hy] at hy'
      cases hy'
      exact ⟨_, List.getElem?_eq_getElem hj2, by rw [hv, hval]; exact e3⟩
    have all : ∀ {l : List (List Key × V)} {m : List Value}, m.length = l.length → (∀ (j : Nat) (q : List Key × V), l[j]? = some q → ∃ v, m[j]? = some v ∧ RelV q.2 v) → Vals (l.map (·.2)) m := by
      intro l
      induction l with
      | nil => intro m h _; cases m with
        | nil => exact .nil
        | cons _ _ => simp at h
      | cons a r ih =>
        intro m h g
        cases m with
        | nil => simp at h
        | cons b m =>
          obtain ⟨v, h1, h2⟩ := g 0 a rfl
          cases (show b = v by simpa using h1)
          exact .cons h2 (ih (by simpa using h) fun j q hq => by
            have := g (j + 1) q (by simpa using hq)
            simpa using this)
    exact all hal key
  refine ⟨.ref _, upd H1 _ (.lst (es.map (·.2))), I2.laid hk (Nat.le_refl _) (show ObjOk X.prog X.w _ _ _ (.lst (es.map (·.2))) from ⟨by rw [List.length_map]; exact hz, acc.toList, c, hv, ?_⟩), rfl, q _ (I2.hok.fresh (Nat.le_refl _))⟩
  rw [Array.toArray_toList]; exact hS
section
variable {X : Cx} {C : Cc} {base : Nat} {W : Z.WX}
theorem kvg_vals {A : List Addr} {H : Hp} {es : List (List Key × V)} {kvs : List (PyData × U)} (h : KvG C A H kDs es kvs) : RpUs C A H (es.map (·.2)) (kvs.map (·.2)) := by
  induction h with
  | nil => exact .nil
  | cons a _ ih => exact .cons a.2 ih
theorem se_lval (k : Okc X C W) {fr : Bool} {e : Expr} {m : Mn} {p apos cpos pos : Pos} (hg : Gl X "list") (hm : X.mg "list" = none) (h : SE X C base W e m) (hbase : attributeBase e "values" X.env (eval e X.env) = eval e X.env) (hline : (apos.endLine == cpos.line) = true) :
    SE X C base W (.Call (.Name "list" p) [.Call (.Attribute e "values" apos) [] [] cpos] [] pos) (.of fun τ st => (m.val τ st).bind fun u st1 => .opt ((dctT st1 u).map fun kvs => Mk.lst (kvs.map (·.2))) fun mk => fin fr st1 mk) := by
  refine .of k (pe_fz (pe_lvals k.calm h.val hg hm hbase hline) fun σ H Q q => ?_) fun _ => rfl
  refine Rd.imp (Rd.bind q) fun v H1 ⟨A1, τ, st1, u, c, r, q⟩ => ?_
  obtain ⟨mk, e1, q⟩ := opt_run q
  rw [Option.map_eq_some_iff] at e1
  obtain ⟨kvs, e2, rfl⟩ := e1
  obtain ⟨a, es, rfl, h1, h2⟩ := dctT_run c e2 r
  exact ⟨a, es, rfl, h1, fun p hp => fin_run c q (.lst hp (kvg_vals h2))⟩
/-- a, b = a list -/
theorem setl_aft {ts : List Tg} {A : List Addr} {H : Hp} {τ : Vars} {σ : L2.St} {st : Store} {u : U} {v : V} {D : Ends} (c : Cn C base A τ st σ H) (r : RpU C A H v u)
    (q : AftS C base W A H (FRes.opt (unlT st u ts τ) fun τ1 => .nx τ1 st) D) : gLst C.K ts.length (gOfs C.K ts) v σ H D.nx := by
  obtain ⟨τ1, e, q⟩ := optS q
  unfold unlT at e
  rw [Option.bind_eq_some_iff] at e
  obtain ⟨us, e1, e⟩ := e
  split at e
  · rename_i hl
    obtain ⟨a, xs, rfl, s1, r1⟩ := lst_run c e1 r
    exact ⟨a, xs, rfl, s1, (Paired.length r1).trans hl, setTs_run e c r1 fun σ1 c1 _ => q σ1 H A .refl c1⟩
  · cases e
theorem ss_setL {es : List Expr} {n : Nat} {p pos : Pos} {ts : List Tg} {e : Expr} {m : Mn} (hg : PG X (.Tuple es n p) (gLst C.K ts.length (gOfs C.K ts))) (h : SE X C base W e m) (hs : noComp e = true) (ht : isTupE e = false) :
    SS X C base W (.Assign [.Tuple es n p] e pos) (fun τ st => FRes.of τ (m.val τ st) fun u st1 => FRes.opt (unlT st1 u ts τ) fun τ1 => .nx τ1 st1) :=
  ⟨ps_imp (ps_asg h.val hg (by rw [sole_one]; exact swaps_no hs) (stores_no ht)) fun D σ H q => Rd.imp (rdS_of q) fun v H1 ⟨A1, τ, st1, u, c, r, q⟩ => setl_aft c r q⟩
end
end Z
/-! ZV: statements that walk a dict, which is unlocked behind. -/
namespace Z
open PySem PySem.Spec PyProof.Rows L2
section
variable {X : Cx} {C : Cc} {base : Nat} {W : Z.WX}
theorem ss_lks {i : Nat} {s : Stmt} {f : Vars → Store → FRes} (h : SS X C base W s f) : SS X C base W s (fun τ st => FRes.opt (lkAt τ st i) fun p => (f τ (st.set p.1 (.fdct p.2.1 p.2.2))).unl p.1) := by
  refine ⟨ps_imp (ps_lock h.run) fun D σ H ⟨A, τ, st, c, q⟩ => ?_⟩
  obtain ⟨p, e1, q⟩ := optS q
  obtain ⟨d, u, hA, hd, du, mu, lk⟩ := lkAt_run c e1
  refine ⟨d, u, hd, mu.mut, fun o => ⟨A, τ, _, (lk o).2, ?_⟩⟩
  cases hm : f τ (st.set p.1 (.fdct p.2.1 p.2.2)) with
  | nx τ1 st1 =>
    rw [hm] at q
    intro σ2 H2 A2 g c2
    have q : AftS C base W A H (match unlK τ1 p.1 st1 with | some st2 => FRes.nx τ1 st2 | none => .bad) D := q
    split at q
    · rename_i st2 e2
      obtain ⟨h1, ch, g2, c3⟩ := c2.unl g hd du hA c.sys e2
      exact ⟨h1, q σ2 _ A2 g2 c3⟩
    · exact q.elim
  | ct τ1 st1 => rw [hm] at q; exact q.elim
  | rt u st1 => rw [hm] at q; exact q.elim
  | ex x τ1 st1 => rw [hm] at q; exact q.elim
  | bad => rw [hm] at q; exact q.elim
end
end Z
/-! ZD: defs: entry, exit, promise, call. -/
namespace Z
open PySem PySem.Spec PyProof.Rows L2
/-- the store alone -/
structure CnS (C : Cc) (A : List Addr) (st : Store) (H : Hp) : Prop where
  len : A.length = st.length
  nd : A.Nodup
  cells : ∀ (n : Nat) (c : Cont), st[n]? = some c → ∃ a, A[n]? = some a ∧ CellR C A H a c
  sys : SysT C H
/-- what follows a call -/
def AftC (C : Cc) (A : List Addr) (H : Hp) : Res U → VK → XK → Prop
  | .ok u st', Q, _ => ∀ v H' A', Gr A H A' H' → CnS C A' st' H' → RpU C A' H' v u → Q v H'
  | .exc c st', _, E => ∀ H' A' k, Gr A H A' H' → CnS C A' st' H' → C.ca c = some k → E (.ref k) none H'
  | .bad, _, _ => False
/-- the promise of a def that means G -/
def spZ (C : Cc) (G : List U → Store → Res U) : Sp := fun vs H Q E => ∃ A st xs, CnS C A st H ∧ RpUs C A H vs xs ∧ AftC C A H (G xs st) Q E
section
variable {C : Cc} {base : Nat} {W : Z.WX} {A A' A2 : List Addr} {H H' : Hp} {τ : Vars} {st st' : Store} {σ : L2.St}
theorem idm {H : Hp} : ∀ b o, Fz o → H b = some o → H b = some o := fun _ _ _ h => h
theorem CellR.wide {a : Addr} {c : Cont} (h : CellR C A H a c) (p : A <+: A') : CellR C A' H a c := h.mono idm p fun _ h _ => h
theorem Cn.sto (c : Cn C base A τ st σ H) : CnS C A st H := ⟨c.len, c.nd, fun n k e => by obtain ⟨a, h1, h2⟩ := c.cells n k e; exact ⟨a, h1, h2.wide pre_if⟩, c.sys⟩
/-- a new frame -/
theorem CnS.enter {vs : List V} {xs : List U} {m m' : Nat} (c : CnS C A st H) (r : RpUs C A H vs xs) (hm : m = m') : Cn C st.length A (xs.map some ++ List.replicate m none) st (vs.map some ++ List.replicate m' none) H := by
  subst hm
  have hl := us_len r
  refine ⟨c.len, c.nd, Nat.le_refl _, fun n k e => ?_, by simp [hl], fun i u e => ?_, c.sys⟩
  · obtain ⟨a, h1, h2⟩ := c.cells n k e
    refine ⟨a, h1, ?_⟩
    rw [if_pos (List.getElem?_eq_some_iff.mp e).1, List.take_of_length_le (by rw [c.len]; exact Nat.le_refl _)]
    exact h2
  · by_cases hi : i < xs.length
    · rw [List.getElem?_append_left (by simpa using hi), List.getElem?_map, Option.map_eq_some_iff] at e
      obtain ⟨x, e1, e2⟩ := e
      cases e2
      obtain ⟨v, h1, h2⟩ := r.get e1
      exact ⟨v, by rw [List.getElem?_append_left (by simp [hl]; exact hi), List.getElem?_map, h1]; rfl, h2⟩
    · rw [List.getElem?_append_right (by simpa using hi), List.getElem?_replicate] at e
      split at e <;> cases e
theorem Gr.cut (g : Gr A H A' H') (p : A <+: A2) (s : ∀ a ∈ A2, a ∈ A') : Gr A H A2 H' := ⟨p, fun a h n => g.new a (s a h) n, g.ext, g.dom⟩
theorem below_of {v : V} {u : U} (h : RpU C (A.take base) H v u) : u.below base = true := by
  cases h with
  | d _ => rfl
  | @cell a n ha =>
    have := (List.getElem?_eq_some_iff.mp ha).1
    simp at this
    exact decide_eq_true (by omega)
  | fn _ => rfl
  | exc _ _ => rfl
theorem RpU.narrow {v : V} {u : U} (h : RpU C A H v u) (b : u.below base = true) : RpU C (A.take base) H v u := by
  cases h with
  | d r => exact .d r
  | @cell a n ha =>
    refine .cell ?_
    have hlt : n < base := of_decide_eq_true b
    rw [List.getElem?_take_of_lt hlt]
    exact ha
  | fn q => exact .fn q
  | exc h1 h2 => exact .exc h1 h2
theorem closed_of {a : Addr} {c : Cont} (h : CellR C (A.take base) H a c) : c.closed base = true := by
  cases c with
  | lst us =>
    obtain ⟨vs, _, h2⟩ := h
    simp only [Cont.closed, List.all_eq_true]
    intro u hu
    obtain ⟨i, hi, e⟩ := List.mem_iff_getElem.mp hu
    obtain ⟨v, _, h3⟩ := h2.get (show us[i]? = some u by rw [List.getElem?_eq_getElem hi, e])
    exact below_of h3
  | dct t kvs =>
    cases t <;>
    · obtain ⟨es, h1, h2⟩ := h
      clear h1
      simp only [Cont.closed, List.all_eq_true]
      induction h2 with
      | nil => intro kv hk; cases hk
      | cons a b ih =>
        intro kv hk
        rcases List.mem_cons.mp hk with e | e
        · subst e; exact below_of a.2
        · exact ih kv e
  | fdct t kvs =>
    cases t <;>
    · obtain ⟨es, o, h1, h2⟩ := h
      clear h1
      simp only [Cont.closed, List.all_eq_true]
      induction h2 with
      | nil => intro kv hk; cases hk
      | cons a b ih =>
        intro kv hk
        rcases List.mem_cons.mp hk with e | e
        · subst e; exact below_of a.2
        · exact ih kv e
  | obj c fs =>
    obtain ⟨b, dx, gs, h0, h1, h2⟩ := h
    clear h1
    simp only [Cont.closed, List.all_eq_true]
    induction h2 with
    | nil => intro kv hk; cases hk
    | cons a b ih =>
      intro kv hk
      rcases List.mem_cons.mp hk with e | e
      · subst e; exact below_of a.2
      · exact ih kv e
  | dead => rfl
theorem CellR.narrow {a : Addr} {c : Cont} (h : CellR C A H a c) (b : c.closed base = true) : CellR C (A.take base) H a c := by
  cases c with
  | lst us =>
    obtain ⟨vs, h1, h2⟩ := h
    refine ⟨vs, h1, ?_⟩
    clear h1
    simp only [Cont.closed] at b
    induction h2 with
    | nil => exact .nil
    | cons p q ih =>
      simp only [List.all_cons, Bool.and_eq_true] at b
      exact .cons (p.narrow b.1) (ih b.2)
  | dct t kvs =>
    cases t <;>
    · obtain ⟨es, h1, h2⟩ := h
      refine ⟨es, h1, ?_⟩
      clear h1
      simp only [Cont.closed] at b
      induction h2 with
      | nil => exact .nil
      | cons p q ih =>
        simp only [List.all_cons, Bool.and_eq_true] at b
        exact .cons ⟨p.1, p.2.narrow b.1⟩ (ih b.2)
  | fdct t kvs =>
    cases t <;>
    · obtain ⟨es, o, h1, h2⟩ := h
      refine ⟨es, o, h1, ?_⟩
      clear h1
      simp only [Cont.closed] at b
      induction h2 with
      | nil => exact .nil
      | cons p q ih =>
        simp only [List.all_cons, Bool.and_eq_true] at b
        exact .cons ⟨p.1, p.2.narrow b.1⟩ (ih b.2)
  | obj c fs =>
    obtain ⟨d, dx, gs, h0, h1, h2⟩ := h
    refine ⟨d, dx, gs, h0, h1, ?_⟩
    clear h1
    simp only [Cont.closed] at b
    induction h2 with
    | nil => exact .nil
    | cons p q ih =>
      simp only [List.all_cons, Bool.and_eq_true] at b
      exact .cons ⟨p.1, p.2.narrow b.1⟩ (ih b.2)
  | dead => exact h
/-- back in the caller's frame -/
theorem Cn.ofCall (c : Cn C base A τ st σ H) (g : Gr A H A' H') (c' : CnS C A' st' H') (k : innerOk base st st') : Cn C base A' τ st' σ H' := by
  have hle : base ≤ A.length := by rw [c.len]; exact c.le
  have hle' : A.length ≤ A'.length := g.pre.length_le
  refine ⟨c'.len, c'.nd, by rw [← c'.len]; omega, fun n x e => ?_, c.vlen, fun i u e => ?_, c'.sys⟩
  · obtain ⟨a, h1, h2⟩ := c'.cells n x e
    refine ⟨a, h1, ?_⟩
    split
    · rename_i hn
      refine h2.narrow ?_
      rcases k n hn with q | ⟨y, q, cl⟩
      · rw [q] at e
        obtain ⟨b, h3, h4⟩ := c.cells n x e
        rw [if_pos hn] at h4
        exact closed_of h4
      · rw [e] at q; cases q; exact cl
    · exact h2
  · obtain ⟨v, h1, h2⟩ := c.vars i u e
    exact ⟨v, h1, h2.gr g⟩
/-- the frame is left -/
theorem take_pre (g : Gr A H A' H') : A'.take A.length = A := by
  obtain ⟨t, rfl⟩ := g.pre
  rw [List.take_append_of_le_length (Nat.le_refl _), List.take_length]
theorem Cn.exit {σ' : L2.St} {τ' : Vars} (hl : A.length = st.length) (c' : Cn C st.length A' τ' st' σ' H') (g : Gr A H A' H') : Gr A H A H' ∧ CnS C A (st'.take st.length) H' := by
  have tp := take_pre g
  refine ⟨g.cut List.prefix_rfl fun a h => g.pre.subset h, ?_, ?_, fun n x e => ?_, c'.sys⟩
  · rw [List.length_take]; have := c'.le; omega
  · exact c'.nd.sublist (g.pre.sublist)
  · have hn : n < st.length := by have := (List.getElem?_eq_some_iff.mp e).1; simp at this; omega
    rw [List.getElem?_take_of_lt hn] at e
    obtain ⟨a, h1, h2⟩ := c'.cells n x e
    rw [if_pos hn, ← hl, tp] at h2
    refine ⟨a, ?_, h2⟩
    rw [← tp, List.getElem?_take_of_lt (by omega)]
    exact h1
theorem leave_run {r : FRes} {Q : VK} {E : XK} (hl : A.length = st.length) (h : AftC C A H (leave st.length r) Q E) :
    AftS C st.length (fun cls d _ H => E cls d H) A H r { nx := fun _ H' => Q .non H', rt := Q } := by
  cases r with
  | nx τ' st' =>
    intro σ' H' A' g c'
    obtain ⟨g2, c2⟩ := c'.exit hl g
    exact h .non H' A g2 c2 (.d .non)
  | ct τ' st' => exact h.elim
  | bad => exact h.elim
  | ex c τ' st' =>
    intro σ' H' A' k g c' hk
    obtain ⟨g2, c2⟩ := c'.exit hl g
    exact h H' A k g2 c2 hk
  | rt u st' =>
    intro v τ' σ' H' A' g c' r
    obtain ⟨g2, c2⟩ := c'.exit hl g
    have tp := take_pre g
    cases u with
    | d x => exact h v H' A g2 c2 (by cases r with | d r => exact .d r)
    | fn f => exact h v H' A g2 c2 (by cases r with | fn r => exact .fn r)
    | exc f => exact h v H' A g2 c2 (by cases r with | exc h1 h2 => exact .exc h1 h2)
    | cell n =>
      have e0 : leave st.length (.rt (.cell n) st') = (if n < st.length then .ok (.cell n) (st'.take st.length) else match st'[n]? with
        | some c => if c.closed st.length then .ok (.cell st.length) (st'.take st.length ++ [c]) else .bad
        | none => .bad) := rfl
      rw [e0] at h
      by_cases hn : n < st.length
      · rw [if_pos hn] at h
        refine h v H' A g2 c2 ?_
        have := r.narrow (base := st.length) (decide_eq_true hn)
        rw [← hl, tp] at this
        exact this
      · rw [if_neg hn] at h
        cases e1 : st'[n]? with
        | none => rw [e1] at h; exact h.elim
        | some c =>
          rw [e1] at h
          by_cases hc : c.closed st.length = true
          · simp only [hc, if_true] at h
            obtain ⟨a, h1, h2⟩ := c'.cells n c e1
            rw [if_neg hn] at h2
            have h3 := h2.narrow hc
            rw [← hl, tp] at h3
            have hna : a ∉ A := fun z => by
              obtain ⟨i, hi, e⟩ := List.mem_iff_getElem.mp z
              have h4 : A'[i]? = some a := pre_get g.pre (by rw [List.getElem?_eq_getElem hi, e])
              have := (List.getElem?_inj (List.getElem?_eq_some_iff.mp h4).1 c'.nd).mp (h4.trans h1.symm)
              omega
            have hv : v = .ref a := by
              cases r with
              | cell ha => rw [h1] at ha; cases ha; rfl
            subst hv
            refine h (.ref a) H' (A ++ [a]) (g.cut (List.prefix_append _ _) fun b hb => ?_) ⟨?_, ?_, fun m x e => ?_, c2.sys⟩ ?_
            · rcases List.mem_append.mp hb with z | z
              · exact g.pre.subset z
              · rw [List.mem_singleton.mp z]; exact List.mem_of_getElem? h1
            · simp only [List.length_append, List.length_take, List.length_singleton]; have := c'.le; omega
            · rw [List.nodup_append]
              refine ⟨c2.nd, by simp, fun x hx y hy e => ?_⟩
              rw [List.mem_singleton.mp hy] at e
              exact hna (e ▸ hx)
            · have hlt : (st'.take st.length).length = st.length := by rw [List.length_take]; have := c'.le; omega
              by_cases hm : m < st.length
              · rw [List.getElem?_append_left (by omega)] at e
                obtain ⟨b, h4, h5⟩ := c2.cells m x e
                exact ⟨b, by rw [List.getElem?_append_left (by omega)]; exact h4, h5.wide (List.prefix_append _ _)⟩
              · rw [List.getElem?_append_right (by omega)] at e
                have hm2 : m = st.length := by
                  have := (List.getElem?_eq_some_iff.mp e).1
                  simp at this
                  omega
                subst hm2
                rw [hlt] at e
                simp at e
                subst e
                exact ⟨a, by rw [List.getElem?_append_right (by omega)]; simp [hl], h3.wide (List.prefix_append _ _)⟩
            · refine .cell ?_
              rw [List.getElem?_append_right (by omega)]; simp [hl]
          · simp only [hc] at h; exact h.elim
end
/-! ### the promise over every heap -/
structure FnG (P : Program) (w : World) (K : PySem.W.Frag) (mg : Str → Option Value) (bs : Heap) (k : Nat) (f : Addr) (fd : FuncData) (ps : List Str) (sp : Sp) : Prop where
  len : ∀ vs H Q E, sp vs H Q E → vs.length = ps.length
  go : ∀ (B : Around) (fr : List Env) (s : Shared) (H : Hp) (args : Args) (us : List Value) (vs : List V) (Q : VK) (E : XK), Room k B → B.guards = some [] → Env0 P w K mg bs B fr s H → BindsTo s fd args (ps.zip us) → Vals vs us → sp vs H Q E →
    codeAny (model P w) B (.call (.ref f) args) (CR (L2.CX P w) fr P w H s Q E) s
theorem FnG.mono {P : Program} {w : World} {K : PySem.W.Frag} {mg : Str → Option Value} {bs : Heap} {j k : Nat} {f : Addr} {fd : FuncData} {ps : List Str} {sp : Sp} (F : FnG P w K mg bs j f fd ps sp) (h : j ≤ k) : FnG P w K mg bs k f fd ps sp :=
  ⟨F.len, fun B fr s H args us vs Q E hr => F.go B fr s H args us vs Q E (hr.mono h)⟩
/-- a def, by its body -/
theorem fnG_of {P : Program} {w : World} {K : PySem.W.Frag} {mg : Str → Option Value} {bs : Heap} {k : Nat} {f : Addr} {x qual : Str} {stm : Stmt} {fd : FuncData} {N ps : List Str} {sp : Sp} (F : Fun K x qual stm f fd) (S : FnScope N ps (defScope stm)) (len : ∀ vs H Q E, sp vs H Q E → vs.length = ps.length)
    (hbody : ∀ (cdv : Value) (B : Around) (fr : List Env) (s : Shared) (H : Hp) (vs : List V) (Q : VK) (E : XK), fd.code = cdv → Room k (B.deeper (envOfC qual (defScope stm) s.heap.objs.size f cdv)) → B.guards = some [] → sp vs H Q E →
      ∃ t, PSs (cxOf (L2.CX P w) P w K mg bs N qual (defScope stm) f cdv B fr s H E) (defBody stm) t ∧ t { nx := fun _ H' => Q .non H', rt := Q } (start N vs) H) : FnG P w K mg bs (k + 1) f fd ps sp := by
  obtain ⟨oc, od, kV, doc, pm, an, cdv, ct, osl, rfl, lk, hcd⟩ := F.ex
  refine ⟨len, fun B fr s H args us vs Q E hr hgd e0 hb rv hsp => ?_⟩
  have nArg := len _ _ _ _ hsp
  have inK : K.In s.heap := e0.mod.kin.keeps fun b o e => (e0.bs b o e).1
  have noLim : s.heap.NoLimit := e0.mod.nolimit.keeps fun b o e => (e0.bs b o e).1
  have kinds : ∀ y ∈ ps.zip us, (defScope stm).names.lookup y.1 = some .local ∨ ((defScope stm).names.lookup y.1 = some .cell ∧ ((cellsFrom (s.heap.objs.size + 1) (defScope stm).names []).lookup y.1).isSome = true) := fun y hy =>
    (S.par y.1 (List.of_mem_zip (show (y.1, y.2) ∈ ps.zip us from hy)).1).imp id fun q => ⟨q, PySem.W.cellsFrom_some _ _ _ (.inl q)⟩
  refine codeAny_call_function hr.depth (inK _ _ lk) rfl S.co S.gen rfl (PySem.W.codeRec_of inK hcd) (hb _ _ _ _ (wpAny_newFunctionEnv_cells S.kind kinds fun env he s1 ic => ?_))
  subst he
  refine ⟨noLim.keeps ic.toInCall.keep, codeAny_func ?_⟩
  obtain ⟨t, ht, hq⟩ := hbody cdv B fr s H vs Q E rfl (hr.deeper _) hgd hsp
  have J0 := inv_start (CX := L2.CX P w) (E := E) (H := H) (mg := mg) (qual := qual) (f := f) (cd := cdv) (N := N) S hr.hd e0 nArg rv ic
  refine wpAny_mono (ht.run [] s1 _ H _ J0 hq) (fun fl s2 hs => ?_) fun e s2 hs => hs
  cases fl with
  | ret u => obtain ⟨v, σ', H', J, r, q⟩ := hs; exact ⟨v, H', J.os, J.bare, J.base, J.hok, r, q⟩
  | next => obtain ⟨σ', H', J, q⟩ := hs; exact ⟨.non, H', J.os, J.bare, J.base, J.hok, rfl, q⟩
  | brk => obtain ⟨_, _, _, q⟩ := hs; exact q.elim
  | cont => obtain ⟨_, _, _, q⟩ := hs; exact q.elim
/-- such a def called -/
theorem callS_of {X : Cx} {C : Cc} {base : Nat} {W : Z.WX} {k : Nat} {f : Addr} {fd : FuncData} {ps : List Str} {G : List U → Store → Res U} (ok : Okc X C W) (F : FnG X.prog X.w X.K X.mg X.base k f fd ps (spZ C G)) (hr : Room k X.A) (tk : Takes X W)
    (hb : Binds X.K fd ps []) : CallS X C base W f (fun us st => (G us st).inner base st) := by
  intro pins s σ H vs us Q I rv ⟨A, τ, st, xs, c, rx, q⟩
  have hsp : spZ C G vs H Q (fun cls d H' => W cls d σ H') := by
    refine ⟨A, st, xs, c.sto, rx, ?_⟩
    cases e : G xs st with
    | bad => simp only [e] at q; exact q.elim
    | ok u st' =>
      simp only [e, Res.inner] at q
      by_cases hi : innerOk base st st'
      · rw [if_pos hi] at q
        exact fun v H' A' g c' r => q v H' A' g (c.ofCall g c' hi) r
      · rw [if_neg hi] at q; exact q.elim
    | exc x st' =>
      simp only [e, Res.inner] at q
      by_cases hi : innerOk base st st'
      · rw [if_pos hi] at q
        exact fun H' A' k g c' hk => q H' A' k g (c.ofCall g c' hi) hk
      · rw [if_neg hi] at q; exact q.elim
  have nArg : us.length = ps.length := by rw [← rv.length]; exact F.len _ _ _ _ hsp
  have hbt := hb s us I.kIn (by simpa using nArg)
  rw [List.append_nil] at hbt
  refine wpAny_call (codeAny_mono (F.go X.A X.stack s H ⟨us, []⟩ us vs Q _ hr ok.guards I.env0 hbt rv hsp) fun r s' hq => ?_)
  cases r with
  | error e => exact tk _ _ (XE.of_call I (fun _ _ _ h => h) hq)
  | ok fl =>
    cases fl with
    | ret u => exact I.after hq
    | next => exact hq.elim
    | brk => exact hq.elim
    | cont => exact hq.elim
end Z
/-! ZK: min(xs, key=lambda x: ..). -/
namespace Z
open PySem PySem.Spec PyProof.Rows L2
/-! readings that no bad place is in -/
mutual
inductive TR (bad : List Addr) (h : Heap) : Value → PyData → Prop
  | non : TR bad h .none .none
  | bl (b : Bool) : TR bad h (.bool b) (.bool b)
  | int (i : Int) (t : Tok) : TR bad h (.int i t) (.int i)
  | str (x : Str) (t : Tok) : TR bad h (.str x t) (.str x)
  | tup {a : Addr} {o : Obj} {vs : Array Value} {n : Nat} {xs : List PyData} : a ∉ bad → h.get? a = some o → o.cls = .type "tuple" → o.data = .seq vs n → TRs bad h vs.toList xs → TR bad h (.ref a) (.tuple xs)
inductive TRs (bad : List Addr) (h : Heap) : List Value → List PyData → Prop
  | nil : TRs bad h [] []
  | cons {v : Value} {vs : List Value} {x : PyData} {xs : List PyData} : TR bad h v x → TRs bad h vs xs → TRs bad h (v :: vs) (x :: xs)
end
section
variable {bad : List Addr} {h h' : Heap}
mutual
theorem TR.keep (k : ∀ b o, b ∉ bad → h.get? b = some o → ∃ sl, h'.get? b = some { o with slots := sl }) : ∀ {d : PyData} {v : Value}, TR bad h v d → TR bad h' v d
  | .none, _, r => by cases r; exact .non
  | .bool b, _, r => by cases r; exact .bl b
  | .int i, _, r => by cases r with | int _ t => exact .int i t
  | .str x, _, r => by cases r with | str _ t => exact .str x t
  | .list _, _, r => by cases r
  | .dict _, _, r => by cases r
  | .tuple xs, _, r => by
    cases r with
    | tup h1 h2 h3 h4 h5 =>
      obtain ⟨sl, e⟩ := k _ _ h1 h2
      exact .tup h1 e h3 h4 (TRs.keep k h5)
theorem TRs.keep (k : ∀ b o, b ∉ bad → h.get? b = some o → ∃ sl, h'.get? b = some { o with slots := sl }) : ∀ {ds : List PyData} {vs : List Value}, TRs bad h vs ds → TRs bad h' vs ds
  | [], _, r => by cases r; exact .nil
  | d :: ds, _, r => by cases r with | cons a b => exact .cons (TR.keep k a) (TRs.keep k b)
end
mutual
theorem TR.reads : ∀ {d : PyData} {v : Value}, TR bad h v d → Reads h v d []
  | .none, _, r => by cases r; exact .none
  | .bool b, _, r => by cases r; exact .bool b
  | .int i, _, r => by cases r with | int _ t => exact .int i t
  | .str x, _, r => by cases r with | str _ t => exact .str x t
  | .list _, _, r => by cases r
  | .dict _, _, r => by cases r
  | .tuple xs, _, r => by
    cases r with
    | tup h1 h2 h3 h4 h5 => exact .tuple h2 h3 h4 (TRs.reads h5)
theorem TRs.reads : ∀ {ds : List PyData} {vs : List Value}, TRs bad h vs ds → ReadsAll h vs ds []
  | [], _, r => by cases r; exact .nil
  | d :: ds, _, r => by cases r with | cons a b => exact .cons (as := []) (bs := []) (TR.reads a) (TRs.reads b)
end
theorem TR.rel {v : V} {u u' : Value} {d : PyData} (r : TR bad h u d) (a : RelV v u) (b : RelV v u') : TR bad h u' d := by
  cases v with
  | int i => obtain ⟨t, rfl⟩ := a; obtain ⟨t', rfl⟩ := b; cases r with | int => exact .int i t'
  | str i => obtain ⟨t, rfl⟩ := a; obtain ⟨t', rfl⟩ := b; cases r with | str => exact .str i t'
  | non => cases a; cases b; exact r
  | bl i => cases a; cases b; exact r
  | ref i => cases a; cases b; exact r
  | ty i => cases a; cases b; exact r
  | _ => first | (cases a; cases b; exact r) | (obtain ⟨t, rfl⟩ := a; cases r)
end
section
variable {X : Cx} {pins : List (Addr × Obj)} {s : Shared} {σ : L2.St} {H : Hp} {bad : List Addr}
mutual
theorem Rp.tr (I : Inv X pins σ H s) (hb : ∀ b ∈ bad, H b = none) : ∀ (x : PyData) (v : V) (u : Value), tupD x = true → Rp X.K X.w H v x → RelV v u → TR bad s.heap u x
  | .none, _, _, _, h, r => by cases h; cases r; exact .non
  | .bool b, _, _, _, h, r => by cases h; cases r; exact .bl b
  | .int i, _, _, _, h, r => by cases h; obtain ⟨t, rfl⟩ := r; exact .int i t
  | .str x, _, _, _, h, r => by cases h; obtain ⟨t, rfl⟩ := r; exact .str x t
  | .list ds, _, _, t, h, r => by cases t
  | .dict ds, _, _, t, h, r => by cases t
  | .tuple ds, _, _, t, h, r => by
    cases h with
    | tup a b =>
      cases r
      obtain ⟨its, rv, ⟨o, ho, hc, n, hd⟩, _⟩ := I.tuple a.sq
      refine .tup (fun z => ?_) ho hc hd (by simpa using RpAll.tr I hb ds _ its (by simpa [tupD] using t) b rv)
      have a' : H _ = _ := a
      rw [hb _ z] at a'
      cases a'
theorem RpAll.tr (I : Inv X pins σ H s) (hb : ∀ b ∈ bad, H b = none) : ∀ (ds : List PyData) (vs : List V) (us : List Value), tupDs ds = true → RpAll X.K X.w H vs ds → Vals vs us → TRs bad s.heap us ds
  | [], _, _, _, h, r => by cases h; cases r; exact .nil
  | d :: ds, _, _, t, h, r => by
    simp only [tupDs, Bool.and_eq_true] at t
    cases h with
    | cons a b => cases r with | cons r1 r2 => exact .cons (Rp.tr I hb d _ _ t.1 a r1) (RpAll.tr I hb ds _ _ t.2 b r2)
end
end
/-! the key's body -/
def kpB (x : Str) : Kp → Expr → Bool
  | .item i, .Subscript (.Name y _) (.Constant (.int j) _ _) _ => decide (y = x) && decide (j = (i : Int))
  | .neg i, .BinOp (.Constant (.int z) _ _) .Sub (.Subscript (.Name y _) (.Constant (.int j) _ _) _) _ => decide (z = 0) && decide (y = x) && decide (j = (i : Int))
  | _, _ => false
def kyB (x : Str) : Ky → Expr → Bool
  | .one a, e => kpB x a e
  | .pair a b, .Tuple [e1, e2] _ _ => kpB x a e1 && kpB x b e2
  | .cut n, .Subscript (.Name y _) (.Slice none (some (.Constant (.int j) _ _)) none _) _ => decide (y = x) && decide (j = (n : Int))
  | _, _ => false
def kpR : Kp → List V → V → Prop
  | .item i, vs, w => vs[i]? = some w
  | .neg i, vs, w => ∃ k : Int, vs[i]? = some (.int k) ∧ w = .int (0 - k)
def kyR : Ky → List V → Hp → VK → Prop
  | .one a, vs, H, Q => ∃ w, kpR a vs w ∧ Q w H
  | .pair a b, vs, H, Q => ∃ w w2, kpR a vs w ∧ kpR b vs w2 ∧ ∀ p, H p = none → Q (.ref p) (upd H p (.tup [w, w2]))
  | .cut n, vs, H, Q => 0 < n ∧ n < vs.length ∧ vs.length ≤ 1000 ∧ ∀ p, H p = none → Q (.ref p) (upd H p (.tup (vs.take n)))
theorem atI_nat {α : Type} {xs : List α} {i : Nat} {w : α} (h : xs[i]? = some w) : L2.atI xs (i : Int) = some w := by
  have hl := (List.getElem?_eq_some_iff.mp h).1
  unfold L2.atI L2.ixN
  have h1 : (0 : Int) ≤ (i : Int) := by omega
  have h2 : (i : Int) < (xs.length : Int) := by omega
  simp [h1, h2, h]
section
variable {X : Cx} {x : Str}
theorem pe_kp (hN : X.N[0]? = some x) (hv : Vis X.env.scope x) (hd : (x == ("__debug__" : Str)) = false) (hcd : (x == ("__classdict__" : Str)) = false) : ∀ {a : Kp} {e : Expr}, kpB x a e = true →
    PE X e (fun σ H Q => ∃ p vs w, σ[0]? = some (some (.ref p)) ∧ SqT X.K H p vs ∧ kpR a vs w ∧ Q w H)
  | .item i, e, h => by
    unfold kpB at h
    split at h
    · rename_i j y p1 c n p2 p3 hk
      cases hk
      simp only [Bool.and_eq_true, decide_eq_true_eq] at h
      obtain ⟨rfl, rfl⟩ := h
      refine pe_imp (pe_ix ix_tup (pe_var hN hv hd hcd) pe_int (fun o i => rfl)) fun σ H Q ⟨p, vs, w, h1, h2, h3, h4⟩ => ?_
      exact ⟨_, h1, p, vs, _, w, rfl, rfl, h2, atI_nat h3, h4⟩
    · cases ‹Kp.item i = _›
    · cases h
  | .neg i, e, h => by
    unfold kpB at h
    split at h
    · cases ‹Kp.neg i = _›
    · rename_i j z n0 p0 y p1 c n p2 p3 p4 hk
      cases hk
      simp only [Bool.and_eq_true, decide_eq_true_eq] at h
      obtain ⟨⟨rfl, rfl⟩, rfl⟩ := h
      refine pe_imp (pe_op op_sub pe_int (pe_ix ix_tup (pe_var hN hv hd hcd) pe_int (fun o i => rfl))) fun σ H Q ⟨p, vs, w, h1, h2, ⟨k, h3, h5⟩, h4⟩ => ?_
      subst h5
      exact ⟨_, h1, p, vs, _, _, rfl, rfl, h2, atI_nat h3, 0, k, rfl, rfl, h4⟩
    · cases h
theorem pe_ky (hN : X.N[0]? = some x) (hv : Vis X.env.scope x) (hd : (x == ("__debug__" : Str)) = false) (hcd : (x == ("__classdict__" : Str)) = false) : ∀ {a : Ky} {e : Expr}, kyB x a e = true →
    PE X e (fun σ H Q => ∃ p vs, σ[0]? = some (some (.ref p)) ∧ (∀ H', (∀ b o, H b = some o → H' b = some o) → SqT X.K H' p vs) ∧ kyR a vs H Q)
  | .one a, e, h => by
    simp only [kyB] at h
    exact pe_imp (pe_kp hN hv hd hcd h) fun σ H Q ⟨p, vs, h1, h2, w, h3, h4⟩ => ⟨p, vs, w, h1, h2 H fun _ _ z => z, h3, h4⟩
  | .pair a b, e, h => by
    unfold kyB at h
    split at h
    · cases ‹Ky.pair a b = _›
    · rename_i e1 e2 j p0 hk
      cases hk
      simp only [Bool.and_eq_true] at h
      have n1 : noStar e1 = true := by cases e1 <;> first | rfl | (unfold kpB at h; cases a <;> simp at h)
      have n2 : noStar e2 = true := by cases e2 <;> first | rfl | (unfold kpB at h; cases b <;> simp at h)
      refine pe_imp (pe_tup (pa_cons (pe_kp hN hv hd hcd h.1) (pa_cons (pe_kp hN hv hd hcd h.2) pa_nil (star_cons n2)) (star_cons n1))) fun σ H Q ⟨p, vs, h1, h2, w, w2, h3, h4, h5⟩ => ?_
      exact ⟨p, vs, w, h1, h2 H fun _ _ z => z, h3, p, vs, w2, h1, h2 H fun _ _ z => z, h4, by show 2 ≤ sizeLine; decide, h5⟩
    · cases ‹Ky.pair a b = _›
    · cases h
  | .cut n, e, h => by
    unfold kyB at h
    split at h
    · cases ‹Ky.cut n = _›
    · cases ‹Ky.cut n = _›
    · rename_i y p1 j k p2 p3 p4 m hk
      cases hk
      simp only [Bool.and_eq_true, decide_eq_true_eq] at h
      obtain ⟨rfl, rfl⟩ := h
      refine pe_imp (pe_slice sl_tup (pe_var hN hv hd hcd) po_none (po_some pe_int)) fun σ H Q ⟨p, vs, h1, h2, h3, h4, h5, h6⟩ => ?_
      have e1 : HT.sIx vs.length 0 none = 0 := HT.sIx_none ..
      have e2 : HT.sIx vs.length vs.length (some (n : Int)) = n := by rw [HT.sIx_nat]; exact Nat.min_eq_left (by omega)
      refine ⟨_, h1, n, rfl, p, vs, rfl, h2 H fun _ _ z => z, ?_, fun q hq => ?_⟩
      · rw [e1, e2]; omega
      · have : cutV vs none (some (n : Int)) = vs.take n := by unfold cutV; rw [e1, e2]; simp
        rw [this]; exact h6 q hq
    · cases h
end
/-! the lambda called -/
def okNameK (x : Str) : Bool := !(x == ("__debug__" : Str)) && !(x == ("__classdict__" : Str))
def plainL (x : Str) (a : Arguments) : Bool := a.posonlyargs.isEmpty && a.vararg.isNone && a.kwonlyargs.isEmpty && a.kw_defaults.isEmpty && a.kwarg.isNone && a.defaults.isEmpty && decide (a.args.map (·.arg) = [x])
theorem bind_lam {x q : Str} {pa : Arguments} {body : Expr} {scope : Scope} {cl : List (Str × Addr)} {pm cdv ct : Value} {u : Value} (hp : plainL x pa = true) :
    bindArgs (PySem.W.kla_fn "<lambda>" q pa body scope cl pm cdv ct) ⟨[u], []⟩ = pure [(x, u)] := by
  obtain ⟨po, args, va, ko, kd, kw, df⟩ := pa
  simp only [plainL, Bool.and_eq_true, List.isEmpty_iff, Option.isNone_iff_eq_none, decide_eq_true_eq] at hp
  obtain ⟨⟨⟨⟨⟨⟨rfl, rfl⟩, rfl⟩, rfl⟩, rfl⟩, rfl⟩, hn⟩ := hp
  unfold bindArgs
  have e0 : notAStandIn Value.none = pure () := by rfl
  have hl : args.length = 1 := by have := congrArg List.length hn; simpa using this
  simp only [seqItems?, PySem.W.kla_fn, e0, pure_bind, List.map_nil, List.nil_append, hl, List.length_map, List.append_nil, hn]
  simp
theorem clo_none (cells : List (Str × Addr)) : ∀ (names : List (Str × NameKind)) (acc : List (Str × Addr)), (∀ y ∈ names, y.2 ≠ .free) → cloFrom cells names acc = acc
  | [], _, _ => rfl
  | (n, k) :: r, acc, h => by
    have h1 : (k == NameKind.free) = false := by
      have := h (n, k) (by simp)
      cases k <;> first | rfl | exact absurd rfl this
    unfold cloFrom
    rw [h1]
    exact clo_none cells r acc fun y hy => h y (List.mem_cons_of_mem _ hy)
theorem kp_run {K : PySem.W.Frag} {w : World} {H : Hp} {a : Kp} {vs : List V} {xs : List PyData} {d : PyData} (r : RpAll K w H vs xs) (h : kpV a xs = some d) : ∃ v, kpR a vs v ∧ Rp K w H v d := by
  have at_ : ∀ {vs : List V} {xs : List PyData} {i : Nat} {d : PyData}, RpAll K w H vs xs → xs[i]? = some d → ∃ v, vs[i]? = some v ∧ Rp K w H v d := by
    intro vs xs
    induction xs generalizing vs with
    | nil => intro i d _ h; simp at h
    | cons x r ih =>
      intro i d a h
      cases a with
      | cons a b =>
        cases i with
        | zero => simp at h; subst h; exact ⟨_, rfl, a⟩
        | succ i =>
          obtain ⟨v, h1, h2⟩ := ih b (by simpa using h)
          exact ⟨v, by simpa using h1, h2⟩
  cases a with
  | item i => exact at_ r h
  | neg i =>
    simp only [kpV] at h
    split at h
    · rename_i k e
      cases h
      obtain ⟨v, h1, h2⟩ := at_ r e
      cases h2
      exact ⟨_, ⟨k, h1, rfl⟩, .int _⟩
    · cases h
section
variable {X : Cx} {pins : List (Addr × Obj)} {s : Shared} {σ : L2.St} {H : Hp} {bad : List Addr}
/-- one call of the key: all stays, the key is read -/
theorem lam_call (I : Inv X pins σ H s) (hr : Room 0 X.A) {ky : Ky} {x q : Str} {params : Arguments} {body : Expr} {scope : Scope} {pm ctv : Value} {f c' : Addr}
    (hf : s.heap.get? f = some (PySem.W.kla_obj "<lambda>" q params body scope [] pm c' ctv)) (hco : ∃ (oc : Obj) (us : Array Value) (t : Tok), s.heap.get? c' = some oc ∧ oc.data = .fields us ∧ us[1]? = some (.str q t))
    (S : FnScope [x] [x] scope) (hp : plainL x params = true) (hb : kyB x ky body = true) (hn : okNameK x = true) (hbad : ∀ b ∈ bad, FpOk X pins H b ∧ ∃ o, s.heap.get? b = some o) {p : Addr} {v : V} {xs : List PyData} {kd : PyData}
    (rv : RelV v (.ref p)) (rp : Rp X.K X.w H v (.tuple xs)) (hk : kyV ky (.tuple xs) = some kd) (ht : tupD kd = true) {Q E : Value → Shared → Prop}
    (h : ∀ k s', (∀ b o, s.heap.get? b = some o → b ∉ frs X.stack → s'.heap.get? b = some o) → (∀ b o, s.heap.get? b = some o → ∃ sl, s'.heap.get? b = some { o with slots := sl }) → s'.os = s.os → AllBare s'.gens → TR bad s'.heap k kd → Q k s') :
    wpAny (model X.prog X.w) X.A.in1 (call (.ref f) [.ref p]) Q E s := by
  obtain ⟨vs, ev, hT, ra⟩ : ∃ vs, v = .ref p ∧ H p = some (.tup vs) ∧ RpAll X.K X.w H vs xs := by
    cases rp with
    | tup a b => cases rv; exact ⟨_, rfl, a, b⟩
  subst ev
  obtain ⟨its, rits, ⟨op, hop, hopc, hopd⟩, hlen⟩ := I.tuple (show SqT X.K H p vs from FzT.sq hT)
  have hmem : ∀ b ∈ bad, b ≠ p := fun b hb z => by have := (hbad b hb).1.1; rw [z, hT] at this; cases this
  -- what the key's own frame holds apart
  obtain ⟨H0, hH0⟩ : ∃ H0 : Hp, H0 = fun b => if b = p then some (.frz op (.tup vs)) else if b ∈ bad then (s.heap.get? b).map fun o => .frz o (.ext fun _ => True) else none := ⟨_, rfl⟩
  have h0p : H0 p = some (.frz op (.tup vs)) := by rw [hH0]; exact if_pos rfl
  have h0b : ∀ b ∈ bad, ∃ o, s.heap.get? b = some o ∧ H0 b = some (.frz o (.ext fun _ => True)) := fun b hb => by
    obtain ⟨_, o, e⟩ := hbad b hb
    refine ⟨o, e, ?_⟩
    rw [hH0]
    dsimp only
    rw [if_neg (hmem b hb), if_pos hb, e]
    rfl
  have h0n : ∀ b, b ≠ p → b ∉ bad → H0 b = none := fun b h1 h2 => by rw [hH0]; dsimp only; rw [if_neg h1, if_neg h2]
  have h0c : ∀ b u, H0 b = some u → ∃ o u', s.heap.get? b = some o ∧ u = .frz o u' ∧ (b = p ∨ b ∈ bad) := fun b u e => by
    by_cases h1 : b = p
    · subst h1; rw [h0p] at e; cases e; exact ⟨_, _, hop, rfl, .inl rfl⟩
    · by_cases h2 : b ∈ bad
      · obtain ⟨o, e1, e2⟩ := h0b b h2
        rw [e2] at e; cases e; exact ⟨_, _, e1, rfl, .inr h2⟩
      · rw [h0n b h1 h2] at e; cases e
  have hbig : ∀ b u, H0 b = some u → H b = none ∨ b = p := fun b u e => by
    obtain ⟨_, _, _, _, z | z⟩ := h0c b u e
    · exact .inr z
    · exact .inl (hbad b z).1.1
  have hok0 : HOk X.prog X.w H0 s.heap := fun b u e => by
    by_cases h1 : b = p
    · subst h1
      rw [h0p] at e; cases e
      exact ⟨hop, hlen, its, rits, ⟨op, hop, hopc, hopd⟩⟩
    · by_cases h2 : b ∈ bad
      · obtain ⟨o, e1, e2⟩ := h0b b h2
        rw [e2] at e; cases e
        exact ⟨e1, trivial, ⟨o, e1⟩, fun _ _ _ _ => trivial⟩
      · rw [h0n b h1 h2] at e; cases e
  have nfr : ∀ b, H0 b ≠ none → b ∉ frs X.stack := fun b hb z => by
    cases e : H0 b with
    | none => exact hb e
    | some u =>
      obtain ⟨_, _, _, _, z1 | z1⟩ := h0c b u e
      · subst z1
        have := I.stkFree b z
        rw [hT] at this; cases this
      · obtain ⟨⟨_, h2, h3, _⟩, _⟩ := hbad b z1
        rcases List.mem_cons.mp (I.stkSub b z) with q | q
        · exact h2 q
        · exact h3 q
  have e1 := I.env0
  have e0 : Env0 X.prog X.w X.K X.mg X.base X.A.in1 X.stack s H0 := by
    refine ⟨e1.frames, e1.mod, fun b o e => ⟨(e1.bs b o e).1, ?_⟩, e1.bsz, e1.funs, fun b hb => ?_, hok0, e1.bare⟩
    · cases q : H0 b with
      | none => rfl
      | some u =>
        obtain ⟨_, _, _, _, z1 | z1⟩ := h0c b u q
        · subst z1
          have := (e1.bs b o e).2
          rw [hT] at this; cases this
        · obtain ⟨⟨_, _, _, h4, _⟩, _⟩ := hbad b z1
          rcases h4 with h4 | h4
          · exact absurd h4 (I.ok.noex b o e)
          · exact absurd (Nat.lt_of_lt_of_le (Heap.lt_size e) (Nat.le_trans I.ok.bsz h4)) (Nat.lt_irrefl _)
    · cases q : H0 b with
      | none => rfl
      | some u => exact absurd hb (nfr b (by rw [q]; simp))
  have hcl : cloFrom X.env.cells scope.names [] = [] := clo_none _ _ _ S.nofree
  have kinds : ∀ y ∈ [(x, Value.ref p)], scope.names.lookup y.1 = some .local ∨ (scope.names.lookup y.1 = some .cell ∧ ((cellsFrom (s.heap.objs.size + 1) scope.names []).lookup y.1).isSome = true) := fun y hy => by
    have : y.1 = x := by rw [List.mem_singleton.mp hy]
    rw [this]
    exact (S.par x (by simp)).imp id fun q => ⟨q, PySem.W.cellsFrom_some _ _ _ (.inl q)⟩
  -- the key's answer
  obtain ⟨Q', hQ'⟩ : ∃ Q' : VK, Q' = fun w H1 => (∀ b o, H0 b = some o → H1 b = some o) ∧ ((∃ i : Nat, vs[i]? = some w ∧ xs[i]? = some kd) ∨ (∃ i k : Int, w = .int i ∧ kd = .int i) ∨ ∃ a ws ds, w = .ref a ∧ H0 a = none ∧ H1 a = some (.tup ws) ∧ kd = .tuple ds ∧ ws.length = ds.length ∧
    ∀ (j : Nat) (y : V) (d : PyData), ws[j]? = some y → ds[j]? = some d → (∃ i : Nat, vs[i]? = some y ∧ xs[i]? = some d) ∨ ∃ i : Int, y = .int i ∧ d = .int i) := ⟨_, rfl⟩
  have rc : codeAny (model X.prog X.w) X.A.in1 (.call (.ref f) ⟨[.ref p], []⟩) (CR (L2.CX X.prog X.w) X.stack X.prog X.w H0 s Q' (fun _ _ _ => False)) s := by
    obtain ⟨oc, us, t, hoc, hod, hou⟩ := hco
    refine PySem.W.kla_callFunE hr.depth hf rfl S.co S.gen rfl ⟨c', oc, us, t, rfl, hoc, hod, hou⟩ ?_
    rw [bind_lam hp]
    refine wpAny_pure (wpAny_newFunctionEnv_cells S.kind kinds fun env he s1 ic => ?_)
    subst he
    refine ⟨I.nolimit.keeps ic.toInCall.keep, ?_⟩
    have J0 := inv_start (A := X.A.in1) (CX := L2.CX X.prog X.w) (E := fun _ _ _ => False) (H := H0) (mg := X.mg) (qual := q) (f := f) (cd := .ref c') (N := [x]) (ps := [x]) (vs := [.ref p]) (us := [.ref p]) S (show X.A.in1.handled = none from hr.hd) e0 rfl (.cons rfl .nil) ic
    obtain ⟨n1, n2⟩ : (x == ("__debug__" : Str)) = false ∧ (x == ("__classdict__" : Str)) = false := by
      unfold okNameK at hn
      simpa only [Bool.and_eq_true, Bool.not_eq_true'] using hn
    have hv : Vis scope x := (S.par x (by simp)).elim .inl fun q => .inr (.inl q)
    have body := pe_ky (X := cxOf (L2.CX X.prog X.w) X.prog X.w X.K X.mg X.base [x] q scope f (.ref c') X.A.in1 X.stack s H0 (fun _ _ _ => False)) (x := x) rfl hv n1 n2 hb
    refine PySem.W.kla_codeExpr (wpAny_mono (body.run [] s1 (start [x] [.ref p]) H0 Q' J0 ⟨p, vs, rfl, fun H' ex => .inl (.inr ⟨op, ex _ _ h0p⟩), ?_⟩) (fun u s2 hs => ?_) fun e s2 hs => hs)
    · have kq : ∀ {a : Kp} {d : PyData}, kpV a xs = some d → ∃ w, kpR a vs w ∧ ((∃ i : Nat, vs[i]? = some w ∧ xs[i]? = some d) ∨ ∃ i : Int, w = .int i ∧ d = .int i) := fun {a d} e => by
        obtain ⟨w, h1, h2⟩ := kp_run ra e
        refine ⟨w, h1, ?_⟩
        cases a with
        | item i => exact .inl ⟨i, h1, e⟩
        | neg i =>
          obtain ⟨k, g1, rfl⟩ := h1
          cases h2
          exact .inr ⟨_, rfl, rfl⟩
      subst hQ'
      cases ky with
      | one a =>
        obtain ⟨w, h1, h2⟩ := kq (show kpV a xs = some kd from hk)
        refine ⟨w, h1, fun _ _ z => z, ?_⟩
        rcases h2 with h2 | ⟨i, h2, h3⟩
        · exact .inl h2
        · exact .inr (.inl ⟨i, i, h2, h3⟩)
      | pair a b =>
        have hk' : ((kpV a xs).bind fun x => (kpV b xs).map fun y => PyData.tuple [x, y]) = some kd := hk
        rw [Option.bind_eq_some_iff] at hk'
        obtain ⟨d1, e1, hk'⟩ := hk'
        rw [Option.map_eq_some_iff] at hk'
        obtain ⟨d2, e2, rfl⟩ := hk'
        obtain ⟨w, h1, h2⟩ := kq e1
        obtain ⟨w2, h3, h4⟩ := kq e2
        refine ⟨w, w2, h1, h3, fun z hz => ⟨fun b o e => by rw [upd_ne (ne_of_none e hz)]; exact e, .inr (.inr ⟨z, [w, w2], [d1, d2], rfl, hz, upd_same, rfl, rfl, fun j y d g1 g2 => ?_⟩)⟩⟩
        match j with
        | 0 => simp at g1 g2; subst g1 g2; exact h2
        | 1 => simp at g1 g2; subst g1 g2; exact h4
        | j + 2 => simp at g1
      | cut n =>
        obtain ⟨⟨n1, n2, n3⟩, rfl⟩ := chk_run (show chk _ _ = some kd from hk)
        have hll := ra.length
        refine ⟨n1, by omega, by omega, fun z hz => ⟨fun b o e => by rw [upd_ne (ne_of_none e hz)]; exact e, .inr (.inr ⟨z, vs.take n, xs.take n, rfl, hz, upd_same, rfl, by simp [hll], fun j y d g1 g2 => .inl ⟨j, ?_, ?_⟩⟩)⟩⟩
        · rw [List.getElem?_take] at g1; split at g1
          · exact g1
          · cases g1
        · rw [List.getElem?_take] at g2; split at g2
          · exact g2
          · cases g2
    · obtain ⟨w, H1, J, r, q⟩ := hs
      exact ⟨w, H1, J.os, J.bare, J.base, J.hok, r, q⟩
  refine wpAny_call (codeAny_mono rc fun r s' hq => ?_)
  cases r with
  | error e =>
    obtain ⟨_, _, _, _, _, _, _, _, _, _, _, _, z⟩ := hq
    exact z.elim
  | ok fl =>
    cases fl with
    | next => exact hq.elim
    | brk => exact hq.elim
    | cont => exact hq.elim
    | ret u =>
      obtain ⟨w, H1, os', bare, un, hok', rw', q⟩ := hq
      subst hQ'
      obtain ⟨ex, q⟩ := q
      have kp : ∀ b o, s.heap.get? b = some o → b ∉ frs X.stack → s'.heap.get? b = some o := fun b o e nf => by
        cases z : H0 b with
        | none => exact un.keep b o e z nf (by simp)
        | some u =>
          obtain ⟨o1, u1, g1, rfl, _⟩ := h0c b u z
          rw [e] at g1; cases g1
          exact (hok' b _ (ex b _ z)).1
      have sl : ∀ b o, s.heap.get? b = some o → ∃ sl, s'.heap.get? b = some { o with slots := sl } := fun b o e => by
        by_cases nf : b ∈ frs X.stack
        · cases z : H0 b with
          | none => exact un.any e z (by simp)
          | some u => exact absurd nf (nfr b (by rw [z]; simp))
        · exact ⟨o.slots, kp b o e nf⟩
      refine h u s' kp sl os' bare ?_
      have elem : ∀ (i : Nat) (y : V) (d : PyData), vs[i]? = some y → xs[i]? = some d → tupD d = true → ∀ u', RelV y u' → TR bad s'.heap u' d := fun i y d h1 h2 h3 u' h4 => by
        have rp2 : Rp X.K X.w H y d := by
          have : ∀ {vs : List V} {xs : List PyData} {i : Nat}, RpAll X.K X.w H vs xs → vs[i]? = some y → xs[i]? = some d → Rp X.K X.w H y d := by
            intro vs xs
            induction xs generalizing vs with
            | nil => intro i _ _ h; simp at h
            | cons x r ih =>
              intro i a h1 h2
              cases a with
              | cons a b =>
                cases i with
                | zero => simp at h1 h2; subst h1 h2; exact a
                | succ i => exact ih b (by simpa using h1) (by simpa using h2)
          exact this ra h1 h2
        exact TR.keep (fun b o _ e => sl b o e) (Rp.tr I (fun b hb => (hbad b hb).1.1) d y u' h3 rp2 h4)
      rcases q with ⟨i, h1, h2⟩ | ⟨i, k, h1, h2⟩ | ⟨a, ws, ds, h1, h2, h3, h4, h5, h6⟩
      · exact elem i w kd h1 h2 ht u rw'
      · subst h1 h2
        obtain ⟨t, rfl⟩ := rw'
        exact .int i t
      · subst h1 h4
        cases rw'
        obtain ⟨_, its2, r2, o2, g1, g2, n2, g3⟩ := hok' a _ h3
        have ht2 : tupDs ds = true := by simpa [tupD] using ht
        refine .tup (fun z => ?_) g1 g2 g3 ?_
        · obtain ⟨o, _, e⟩ := h0b a z
          rw [h2] at e; cases e
        · have : ∀ {ws : List V} {ds : List PyData} {its2 : List Value}, Vals ws its2 → ws.length = ds.length → tupDs ds = true → (∀ (j : Nat) (y : V) (d : PyData), ws[j]? = some y → ds[j]? = some d → (∃ i : Nat, vs[i]? = some y ∧ xs[i]? = some d) ∨ ∃ i : Int, y = .int i ∧ d = .int i) → TRs bad s'.heap its2 ds := by
            intro ws
            induction ws with
            | nil =>
              intro ds its2 r hl _ _
              cases r
              cases ds with
              | nil => exact .nil
              | cons _ _ => simp at hl
            | cons y ws ih =>
              intro ds its2 r hl ht hh
              cases r with
              | cons r1 r2 =>
                cases ds with
                | nil => simp at hl
                | cons d ds =>
                  simp only [tupDs, Bool.and_eq_true] at ht
                  refine .cons ?_ (ih r2 (by simpa using hl) ht.2 fun j y' d' e1 e2 => hh (j + 1) y' d' (by simpa using e1) (by simpa using e2))
                  rcases hh 0 y d rfl rfl with ⟨i, e1, e2⟩ | ⟨i, rfl, rfl⟩
                  · exact elem i y d e1 e2 ht.1 _ r1
                  · obtain ⟨t, rfl⟩ := r1; exact .int i t
          exact this (by simpa using r2) h5 ht2 h6
end
/-! the walk -/
theorem sq_ext {K : PySem.W.Frag} {H H' : Hp} {a : Addr} {vs : List V} (h : SqL K H a vs) (e : LamX.ExtN H H') : SqL K H' a vs := by
  rcases h with (h | ⟨o, h⟩) | h
  · exact .inl (.inl (e _ _ h fun _ z => nomatch z))
  · exact .inl (.inr ⟨o, e _ _ h fun _ z => nomatch z⟩)
  · exact .inr h
/-- a list's items, by what they stand for -/
theorem walk_vs {P : Program} {w : World} {A : Around} (hh : A.handled = none) {I a : Addr} (hne : a ≠ I) (vs : List V) :
    WalksS P w A I [I, a] [I] (fun x y => y = x) vs.length (fun i v => ∃ x, vs[i]? = some x ∧ RelV x v) (fun i s => ∃ items : Array Value, Vals vs items.toList ∧ s.heap.IsListIter I a i ∧ s.heap.IsList a items) where
  sub := fun b hb => by simp at hb; simp [hb]
  grefl := fun _ => rfl
  gtrans := fun _ _ _ h1 h2 => h2.trans h1
  frame := fun i s h' tk st _ k => by
    obtain ⟨items, h1, h2, h3⟩ := st
    exact ⟨items, h1, h2.at fun o e => k I (by simp) o e, h3.at fun o e => k a (by simp) o e⟩
  item := fun i s Q E hi st hQ => by
    obtain ⟨items, h1, h2, h3⟩ := st
    have hl : vs.length = items.size := by have := Paired.length h1; simpa using this
    have hi2 : i < items.size := by omega
    have e1 : items.toList[i]? = some items[i] := by rw [Array.getElem?_toList]; exact Array.getElem?_eq_getElem hi2
    obtain ⟨u, e2, r2⟩ := Vals.get h1 (List.getElem?_eq_getElem hi)
    rw [e1] at e2; cases e2
    refine ((Walks.list (prog := P) (w := w) hh I a hne items).toS).item i s Q E hi2 ⟨h2, h3⟩ fun v s' hP st' hm => ?_
    have ev : v = items[i] := by
      have : items[i]? = some v := hP
      rw [Array.getElem?_eq_getElem hi2] at this; cases this; rfl
    subst ev
    exact hQ _ s' ⟨_, List.getElem?_eq_getElem hi, r2⟩ ⟨items, h1, st'.1, st'.2⟩ hm
  done := fun s Q E st hQ => by
    obtain ⟨items, h1, h2, h3⟩ := st
    have hl : vs.length = items.size := by have := Paired.length h1; simpa using this
    refine ((Walks.list (prog := P) (w := w) hh I a hne items).toS).done s Q E ?_ hQ
    rw [← hl]
    exact ⟨h2, h3⟩
  self := fun i s Q E st hQ => by
    obtain ⟨items, h1, h2, h3⟩ := st
    exact wpAny_pyIter_listiter h2 hQ
/-- what the making of a lambda asks -/
structure LamOk (X : Cx) (C : Cc) : Prop where
  ex : ∃ c P, X.env.code = .ref c ∧ LamX.TabB X.base X.mg c P ∧ (P, X.env.qual ++ "<lambda>") ∈ C.tb ∧ ∀ p ∈ C.tb, p.1 = P → p.2 = X.env.qual ++ "<lambda>"
theorem keysOf_get {k : Ky} : ∀ {xs ks : List PyData}, keysOf k xs = some ks → ks.length = xs.length ∧ ∀ (i : Nat) (x : PyData), xs[i]? = some x → ∃ d, ks[i]? = some d ∧ kyV k x = some d
  | [], ks, h => by cases h; exact ⟨rfl, fun i x e => by simp at e⟩
  | y :: r, ks, h => by
    have h' : ((kyV k y).bind fun z => (keysOf k r).map (z :: ·)) = some ks := h
    rw [Option.bind_eq_some_iff] at h'
    obtain ⟨d, e1, h'⟩ := h'
    rw [Option.map_eq_some_iff] at h'
    obtain ⟨ds, e2, rfl⟩ := h'
    obtain ⟨l, g⟩ := keysOf_get e2
    refine ⟨by simp [l], fun i x e => ?_⟩
    cases i with
    | zero => simp at e; subst e; exact ⟨d, rfl, e1⟩
    | succ i => obtain ⟨d', a, b⟩ := g i x (by simpa using e); exact ⟨d', by simpa using a, b⟩
theorem rpAll_get {K : PySem.W.Frag} {w : World} {H : Hp} : ∀ {vs : List V} {xs : List PyData} {i : Nat} {v : V}, RpAll K w H vs xs → vs[i]? = some v → ∃ d, xs[i]? = some d ∧ Rp K w H v d
  | [], _, i, v, r, h => by simp at h
  | _ :: vs, [], i, v, r, h => by cases r
  | _ :: vs, x :: xs, 0, v, r, h => by cases r with | cons a b => simp at h; subst h; exact ⟨x, rfl, a⟩
  | _ :: vs, x :: xs, i + 1, v, r, h => by
    cases r with
    | cons a b =>
      obtain ⟨d, e1, e2⟩ := rpAll_get b (by simpa using h)
      exact ⟨d, by simpa using e1, e2⟩
theorem keys_ord {ks : List PyData} (h : keysOk ks = true) : ks ≠ [] ∧ (∀ d ∈ ks, tupD d = true ∧ d ≠ .none ∧ d.depth ≤ 64) ∧ ∀ a ∈ ks, ∀ b ∈ ks, PySem.W.alike a b = true := by
  simp only [keysOk, ordD, Bool.and_eq_true, Bool.not_eq_true', List.all_eq_true, decide_eq_true_eq, List.isEmpty_eq_false_iff] at h
  refine ⟨h.1.1, fun d hd => ⟨(h.1.2 d hd).1.1, fun z => ?_, (h.1.2 d hd).2⟩, h.2⟩
  have := (h.1.2 d hd).1.2
  rw [z] at this; cases this
theorem boot_min : bootBuiltins "min" = some (.builtin "min") := by decide +kernel
section
variable {X : Cx} {C : Cc} {base : Nat} {W : Z.WX}
theorem min_call (k : Okc X C W) (hr : Room 0 X.A) {pins : List (Addr × Obj)} {s : Shared} {σ : L2.St} {H : Hp} (I : Inv X pins σ H s) {ky : Ky} {x q : Str} {params : Arguments} {body : Expr} {scope : Scope} {pm ctv : Value} {f c' a : Addr}
    (hf : s.heap.get? f = some (PySem.W.kla_obj "<lambda>" q params body scope [] pm c' ctv)) (hfr : f ∉ frs X.stack) (hco : H c' = some (LamX.CodeO c' q)) (S : FnScope [x] [x] scope) (hp : plainL x params = true) (hb : kyB x ky body = true) (hn : okNameK x = true)
    {vs : List V} {xs ks : List PyData} {d : PyData} (hS : SqL X.K H a vs) (ra : RpAll X.K X.w H vs xs) (hks : keysOf ky xs = some ks) (ho : keysOk ks = true) (hd : xs[bestOf ks]? = some d) {Q : VK} (hQ : ∀ v, Rp X.K X.w H v d → Q v H) {E : Value → Shared → Prop} :
    wpAny (model X.prog X.w) X.A (call (.builtin "min") [.ref a] [(Str.ofString "key", .ref f)]) (EP X pins σ Q) E s := by
  obtain ⟨kne, kor, kal⟩ := keys_ord ho
  obtain ⟨kl, kg⟩ := keysOf_get hks
  have hvl := ra.length
  obtain ⟨its, rits, pl, hz⟩ := I.list hS
  refine call_min_walkK ?_
  have hhd : X.A.handled = none := hr.hd
  refine wpAny_pyIter_list pl.isList ?_
  have ha : a < s.heap.objs.size := by obtain ⟨o, e, _⟩ := pl.isList; exact Heap.lt_size e
  obtain ⟨I0, hI0⟩ : ∃ I0, s.heap.objs.size = I0 := ⟨_, rfl⟩
  rw [hI0] at ha ⊢
  generalize hs3 : ({ s with heap := s.heap.push { cls := .type "list_iterator", data := .fields #[.ref a, .int 0 0] } } : Shared) = s3
  have z3 : s3.heap.objs.size = I0 + 1 := by rw [← hs3, ← hI0]; exact size_push' ..
  have k3 : ∀ b o, s.heap.get? b = some o → s3.heap.get? b = some o := fun b o e => by rw [← hs3]; exact Heap.get?_push_of_some _ e
  have J3 : Inv X pins σ H s3 := by rw [← hs3]; exact I.kept (t' := s.toks) fun b o e => Heap.get?_push_of_some _ e
  have gI : s3.heap.get? I0 = some { cls := .type "list_iterator", data := .fields #[.ref a, .int 0 0] } := by rw [← hs3, ← hI0]; exact Heap.get?_push_size _ rfl
  have fI : FpOk X pins H I0 := I.fpOk (by rw [hI0]; exact Nat.le_refl _) (I.hok.fresh (by rw [hI0]; exact Nat.le_refl _))
  have fS : FpOk X pins H (I0 + 1) := I.fpOk (by rw [hI0]; omega) (I.hok.fresh (by rw [hI0]; omega))
  have ffr : ∀ {b : Addr}, FpOk X pins H b → b ∉ frs X.stack := fun {b} h z => by
    rcases List.mem_cons.mp (I.stkSub b z) with q | q
    · exact h.2.1 q
    · exact h.2.2.1 q
  have hflt : f < I0 := by rw [← hI0]; exact Heap.lt_size hf
  have fbad : f ∉ [I0 + 1, I0] := by
    simp only [List.mem_cons, List.not_mem_nil, or_false]
    exact fun z => z.elim (Nat.ne_of_lt (Nat.lt_succ_of_lt hflt)) (Nat.ne_of_lt hflt)
  -- the heap that keeps all tracked
  have hokK : ∀ {s1 s2 : Shared}, HOk X.prog X.w H s1.heap → (∀ b o, H b ≠ none → s1.heap.get? b = some o → s2.heap.get? b = some o) → HOk X.prog X.w H s2.heap := fun {s1 s2} hok kk b u e => by
    refine (hok b u e).stay (fun c v hc g => kk c v ?_ g) (fun _ g => g) fun _ _ g => g
    rcases hc with z | z
    · rw [z, e]; simp
    · rw [z]; simp
  obtain ⟨J, hJ⟩ : ∃ J : Shared → Prop, J = fun s => Inv X pins σ H s ∧ s.heap.get? f = some (PySem.W.kla_obj "<lambda>" q params body scope [] pm c' ctv) := ⟨_, rfl⟩
  obtain ⟨V0, hV⟩ : ∃ V0 : Nat → Value → Shared → Prop, V0 = fun i u s => ∃ kd, ks[i]? = some kd ∧ TR [I0 + 1, I0] s.heap u kd := ⟨_, rfl⟩
  have tabF : ∀ {b : Addr}, H b = none ∨ True := .inr trivial
  have KR : KeyRun X.prog X.w X.A.in1 (.ref f) .Lt (I0 + 1) [I0] (fun x y => y = x) vs.length (fun i v => ∃ x, vs[i]? = some x ∧ RelV x v) (fun i s => ∃ items : Array Value, Vals vs items.toList ∧ s.heap.IsListIter I0 a i ∧ s.heap.IsList a items) J V0 (fun i j => PySem.W.dataLt (ks.getD i .none) (ks.getD j .none)) := by
    subst hJ hV
    refine ⟨fun s1 s2 hj hm => ?_, fun i u s1 s2 hv hm => ?_, fun i v s1 o Q E hi hP hj hst hSo hc => ?_, fun i j ki kj s1 Q E hj hv1 hv2 hq => ?_⟩
    · obtain ⟨J1, g1⟩ := hj
      have nt : ∀ b, H b ≠ none → b ∉ [I0 + 1, I0] := fun b hb z => by
        simp only [List.mem_cons, List.not_mem_nil, or_false] at z
        rcases z with z | z
        · exact hb (z ▸ fS.1)
        · exact hb (z ▸ fI.1)
      refine ⟨J1.call' (ch := [I0 + 1, I0]) hm.os ⟨fun b o e n _ hx => hm.heap b o hx e, fun b o e n _ hx => ⟨o.slots, hm.heap b o hx e⟩, fun b o e n _ => n, fun b o e hx => ⟨o, hm.heap b o hx e⟩, fun _ _ e => e, fun _ _ _ e => e, fun b ps e => ⟨#[], by rw [e]; simp⟩⟩
        (hokK J1.hok fun b o hb e => hm.heap b o (nt b hb) e) (by rw [hm.gens]; exact J1.bare) (fun b hb => ?_), hm.heap f _ fbad g1⟩
      simp only [List.mem_cons, List.not_mem_nil, or_false] at hb
      rcases hb with z | z
      · subst z; exact ⟨fS.2.2.2.1, fS.2.1, fS.2.2.2.2.1, fS.2.2.2.2.2⟩
      · subst z; exact ⟨fI.2.2.2.1, fI.2.1, fI.2.2.2.2.1, fI.2.2.2.2.2⟩
    · obtain ⟨kd, e1, e2⟩ := hv
      exact ⟨kd, e1, TR.keep (fun b o hb e => ⟨o.slots, hm.heap b o hb e⟩) e2⟩
    · obtain ⟨J1, g1⟩ := hj
      obtain ⟨y, ey, ry⟩ := hP
      obtain ⟨yd, e2, rp⟩ := rpAll_get ra ey
      obtain ⟨kd, e3, e4⟩ := kg i yd e2
      have hkd := kor kd (List.mem_of_getElem? e3)
      obtain ⟨ys, rfl⟩ : ∃ ys, yd = .tuple ys := by
        cases yd with
        | tuple ys => exact ⟨ys, rfl⟩
        | _ => cases ky <;> cases e4
      obtain ⟨p, rfl⟩ : ∃ p, y = .ref p := by cases rp; exact ⟨_, rfl⟩
      cases ry
      obtain ⟨items, h1, h2, h3⟩ := hst
      obtain ⟨oI, goI, _⟩ := id h2
      have cc := J1.hok c' _ hco
      refine lam_call (bad := [I0 + 1, I0]) J1 hr g1 cc.1 S hp hb hn (fun b hb => ?_) (v := .ref p) (show L2.RelV (.ref p) (Value.ref p) from rfl) rp e4 hkd.1 fun k s2 kp sl os' bare tr => ?_
      · simp only [List.mem_cons, List.not_mem_nil, or_false] at hb
        rcases hb with z | z
        · subst z; exact ⟨fS, o, hSo⟩
        · subst z; exact ⟨fI, oI, goI⟩
      · refine hc k s2 ⟨?_, kp f _ g1 hfr⟩ ⟨items, h1, ?_, ?_⟩ (kp _ o hSo (ffr fS)) ⟨kd, e3, tr⟩ fun j k' ⟨kd', e5, e6⟩ => ⟨kd', e5, TR.keep (fun b o _ e => sl b o e) e6⟩
        · refine J1.call' (ch := []) os' ⟨fun b o e _ nf _ => kp b o e nf, fun b o e _ _ _ => sl b o e, fun _ _ _ n _ => n, fun b o e _ => ?_, fun _ _ e => e, fun _ _ _ e => e, fun b ps e => ⟨#[], by rw [e]; simp⟩⟩ (hokK J1.hok fun b o hb e => kp b o e fun z => hb (J1.stkFree b z)) bare (fun _ z => nomatch z)
          obtain ⟨z, g⟩ := sl b o e
          exact ⟨_, g⟩
        · obtain ⟨o1, q1, q2, q3⟩ := h2
          obtain ⟨z, g⟩ := sl _ _ q1
          exact ⟨_, g, q2, q3⟩
        · obtain ⟨o1, q1, q2, n, q3⟩ := h3
          obtain ⟨z, g⟩ := sl _ _ q1
          exact ⟨_, g, q2, n, q3⟩
    · obtain ⟨d1, e1, t1⟩ := hv1
      obtain ⟨d2, e2, t2⟩ := hv2
      have m1 := List.mem_of_getElem? e1
      have m2 := List.mem_of_getElem? e2
      have q1 : ks.getD i .none = d1 := by rw [List.getD_eq_getElem?_getD, e1]; rfl
      have q2 : ks.getD j .none = d2 := by rw [List.getD_eq_getElem?_getD, e2]; rfl
      rw [q1, q2] at hq
      refine PySem.W.rcLt_alike d1 d2 _ s1 ki kj [] [] t1.reads t2.reads (kal d1 m1 d2 m2) (kor d1 m1).2.1 ?_ X.prog X.w E Q hq
      have hu := k.units
      have h64 := (kor d1 m1).2.2
      have : min d1.depth d2.depth ≤ d1.depth := Nat.min_le_left _ _
      show X.A.units + 1 + min d1.depth d2.depth < cLine
      omega
  have hne : 0 < vs.length := by
    have : ks.length ≠ 0 := fun z => kne (List.length_eq_zero_iff.mp z)
    omega
  refine ⟨I0, [I0, a], [I0], _, vs.length, _, _, J, V0, _, rfl, walk_vs (P := X.prog) (w := X.w) (A := X.A.in1) hhd (Nat.ne_of_lt ha) vs, ⟨its.toArray, by simpa using rits, ⟨_, gI, rfl, rfl⟩, ?_⟩, fun b hb => ?_, hne, by rw [z3]; exact KR, ?_, fun v s' hP hj => ?_⟩
  · obtain ⟨o, q1, q2, q3⟩ := pl.isList
    exact ⟨o, k3 a o q1, q2, q3⟩
  · rw [z3]
    simp only [List.mem_cons, List.not_mem_nil, or_false] at hb
    rcases hb with z | z
    · subst z; exact Nat.lt_succ_self _
    · subst z; exact Nat.lt_succ_of_lt ha
  · subst hJ; exact ⟨J3, k3 f _ hf⟩
  · subst hJ
    obtain ⟨J1, _⟩ := hj
    obtain ⟨y, ey, ry⟩ := hP
    obtain ⟨yd, e2, rp⟩ := rpAll_get ra ey
    have eb : bestOf ks = argBest (fun i j => PySem.W.dataLt (ks.getD i .none) (ks.getD j .none)) (vs.length - 1) := by unfold bestOf; rw [kl, hvl]
    rw [← eb, hd] at e2
    cases e2
    exact ⟨y, H, J1, ry, hQ y rp⟩
theorem se_minK (k : Okc X C W) (L : LamOk X C) (hr : Room 0 X.A) {ky : Ky} {x : Str} {params : Arguments} {body e : Expr} {scope : Scope} {m : Mn} {p pos lpos kpos : Pos} (hg : Gl X "min") (hm : X.mg "min" = none) (h : SE X C base W e m) (hs : noStar e = true)
    (S : FnScope [x] [x] scope) (hp : plainL x params = true) (hb : kyB x ky body = true) (hn : okNameK x = true) :
    SE X C base W (.Call (.Name "min" p) [e] [⟨some "key", .Lambda params body scope lpos, kpos⟩] pos) (.of fun τ st => (m.val τ st).bind fun u st1 => .opt (minU st1 ky u) fun x => .ok (.d x) st1) := by
  refine .of k ⟨fun pins s σ H Q I z => ?_⟩ fun _ => rfl
  refine wpAny_Call_Name_kw (ld_blt I hg hm boot_min ?_)
  have he : backTo pos (starEach [e] X.env) = (false, eval e X.env) :: backTo pos (starEach [] X.env) := by rw [star_cons hs]; rfl
  obtain ⟨R, hR⟩ : ∃ R : List V → Hp → Prop, R = fun us H1 => ∃ v A1 τ st1 u, us = [v] ∧ Cn C base A1 τ st1 σ H1 ∧ RpU C A1 H1 v u ∧ Aft C base W (RU C) A1 H1 τ σ (Res.opt (minU st1 ky u) fun x => Res.ok (U.d x) st1) Q := ⟨_, rfl⟩
  have ha : (tCons (RdU C base W m.val) tNil) σ H R := by
    refine Rd.imp (Rd.bind z) fun v H1 ⟨A1, τ, st1, u, c1, r, z⟩ => ?_
    rw [hR]
    exact ⟨v, A1, τ, st1, u, rfl, c1, r, z⟩
  refine PyProof.Rows.callWith_kw (thn ((pa_cons h.val pa_nil (star_cons hs)).run pos pins s σ H R I ha) fun us s1 ⟨vs, H1, I1, r1, q1⟩ => ?_) he (by rw [he]; rfl) rfl rfl
  rw [hR] at q1
  obtain ⟨v, A1, τ, st1, u, rfl, c1, r, z⟩ := q1
  obtain ⟨d, e1, z⟩ := opt_run z
  unfold minU at e1
  rw [Option.bind_eq_some_iff] at e1
  obtain ⟨us', e2, e1⟩ := e1
  rw [Option.bind_eq_some_iff] at e1
  obtain ⟨xs, e3, e1⟩ := e1
  unfold minOf at e1
  rw [Option.bind_eq_some_iff] at e1
  obtain ⟨ks, e4, e1⟩ := e1
  split at e1
  · rename_i hok
    obtain ⟨l, ws, rfl, hS, ra⟩ := lst_run c1 e2 r
    obtain ⟨c, P, L1, L2, L3, L4⟩ := L.ex
    show wpAny _ _ (evalAll ((do let v ← eval (.Lambda params body scope lpos) X.env; standAt pos; pure v) :: [])) _ _ _
    refine wpAny_evalAll_cons (wpAny_bind (LamX.lam_make2 (T := C.tb) I1 L2 L1 L3 L4 c1.sys.tab ?_ (fun y hy e => absurd e (S.nofree y hy)) fun f c' pm ctv H2 s2 I2 eN T2 hf hfn hfr hco => wpAny_bind (wpAny_standAt (wpAny_pure (wpAny_evalAll_nil ?_)))))
    · obtain ⟨po, args, va, ko, kd, kw, df⟩ := params
      simp only [plainL, Bool.and_eq_true, List.isEmpty_iff, Option.isNone_iff_eq_none, decide_eq_true_eq] at hp
      obtain ⟨⟨⟨⟨⟨⟨rfl, rfl⟩, rfl⟩, rfl⟩, rfl⟩, rfl⟩, hn⟩ := hp
      rfl
    · cases r1 with
      | cons r1 r2 =>
        cases r1
        cases r2
        rw [clo_none _ _ _ S.nofree] at hf
        have fz : ∀ b o, Fz o → H1 b = some o → H2 b = some o := fun b o f e => eN b o e f.nt
        have g : Gr A1 H1 A1 H2 := ⟨List.prefix_rfl, fun _ h n => (n h).elim, fun b o e t _ => eN b o e t, fun b o e t => ⟨o, eN b o e t, t⟩⟩
        have c2 : Cn C base A1 τ st1 σ H2 := by
          refine ⟨c1.len, c1.nd, c1.le, fun n y e => ?_, c1.vlen, fun i w e => ?_, ⟨c1.sys.sys.mono fz, T2⟩⟩
          · obtain ⟨a, h1, h2⟩ := c1.cells n y e
            exact ⟨a, h1, h2.mono fz List.prefix_rfl fun o h t => eN _ o h t⟩
          · obtain ⟨w', h1, h2⟩ := c1.vars i w e
            exact ⟨w', h1, h2.gr g⟩
        have ra2 : RpAll X.K X.w H2 ws xs := by rw [k.K, k.w]; exact (ra.trees e3).mono fz
        refine min_call k hr I2 hf hfr hco S hp hb hn (sq_ext (k.K ▸ hS) eN) ra2 e4 hok e1 fun w hw => ?_
        rw [k.K, k.w] at hw
        exact z w H2 A1 g c2 (.d hw)
  · cases e1
/-! list(range(..)) -/
theorem rgV_rel {A : List Addr} {H : Hp} {i j : Int} : RpUs C A H (rgV i j) (rangeOf i (j - i).toNat) := by
  unfold rgV rangeOf
  generalize List.range (j - i).toNat = l
  induction l with
  | nil => exact .nil
  | cons a l ih => exact .cons (.d (.int _)) ih
theorem se_lrng (k : Okc X C W) {fr : Bool} {es : List Expr} {ms : List Mn} {p p2 q pos : Pos} (hg : Gl X "list") (hm : X.mg "list" = none) (hg2 : Gl X "range") (hm2 : X.mg "range" = none) (h : SEs X C base W es ms) (hl : es.length = 1 ∨ es.length = 2) :
    SE X C base W (.Call (.Name "list" p) [.Call (.Name "range" p2) es [] q] [] pos) (.of fun τ st => (evs ms τ st).bind fun us st1 => .opt (lrngOf us) fun mk => fin fr st1 mk) := by
  cases h with
  | nil => simp at hl
  | @cons a _ m1 _ ha hs ht =>
    cases ht with
    | nil =>
      refine .of k (pe_fz (pe_listRg k.calm hg hm (prg_1 hg2 hm2 ha.val (star_cons hs))) fun σ H Q z => ?_) fun _ => rfl
      obtain ⟨A, τ, st, c, z⟩ := z
      have z' : Aft C base W (RU C) A H τ σ ((m1.val τ st).bind fun u st1 => Res.opt (lrngOf [u]) fun mk => fin fr st1 mk) Q := by
        have e : ((evs [m1] τ st).bind fun us st1 => Res.opt (lrngOf us) fun mk => fin fr st1 mk) = ((m1.val τ st).bind fun u st1 => Res.opt (lrngOf [u]) fun mk => fin fr st1 mk) := by
          show (((m1.val τ st).bind fun u st1 => ((Res.ok [] st1 : Res (List U))).bind fun us st2 => .ok (u :: us) st2)).bind _ = _
          cases m1.val τ st <;> rfl
        rw [← e]; exact z
      refine Rd.imp (Aft.next c z') fun v H1 ⟨A1, st1, u, g, c1, r, z⟩ => ?_
      obtain ⟨mk, e, z⟩ := opt_run z
      unfold lrngOf at e
      split at e
      · rename_i j he
        cases he
        obtain ⟨ok, rfl⟩ := chk_run e
        cases rint r
        exact ⟨j, rfl, ok, fun d hd => fin_run c1 z (.lst hd rgV_rel)⟩
      · rename_i he; cases he
      · cases e
    | @cons b _ m2 _ hb hs2 ht =>
      cases ht with
      | cons => simp at hl
      | nil =>
        refine .of k (pe_fz (pe_listRg k.calm hg hm (prg_2 hg2 hm2 ha.val hb.val (star_cons hs) (star_cons hs2) (by rw [show starEach [b] X.env = (false, eval b X.env) :: starEach [] X.env from star_cons hs2]; rfl))) fun σ H Q z => ?_) fun _ => rfl
        obtain ⟨A, τ, st, c, z⟩ := z
        have z' : Aft C base W (RU C) A H τ σ ((m1.val τ st).bind fun u st1 => (m2.val τ st1).bind fun w st2 => Res.opt (lrngOf [u, w]) fun mk => fin fr st2 mk) Q := by
          have e : ((evs [m1, m2] τ st).bind fun us st1 => Res.opt (lrngOf us) fun mk => fin fr st1 mk) = ((m1.val τ st).bind fun u st1 => (m2.val τ st1).bind fun w st2 => Res.opt (lrngOf [u, w]) fun mk => fin fr st2 mk) := by
            show (((m1.val τ st).bind fun u st1 => (((m2.val τ st1).bind fun w st2 => ((Res.ok [] st2 : Res (List U))).bind fun us st3 => .ok (w :: us) st3)).bind fun us st2 => .ok (u :: us) st2)).bind _ = _
            cases m1.val τ st with
            | ok u st1 => simp only [Res.bind_ok]; cases m2.val τ st1 <;> rfl
            | exc => rfl
            | bad => rfl
          rw [← e]; exact z
        refine Rd.imp (Aft.next c z') fun v H1 ⟨A1, st1, u, g, c1, r, z⟩ => ?_
        refine Rd.imp (Aft.next c1 z) fun v2 H2 ⟨A2, st2, w, g2, c2, r2, z⟩ => ?_
        obtain ⟨mk, e, z⟩ := opt_run z
        unfold lrngOf at e
        split at e
        · rename_i he; cases he
        · rename_i i j he
          cases he
          obtain ⟨ok, rfl⟩ := chk_run e
          cases rint r
          cases rint r2
          exact ⟨i, j, rfl, rfl, ok, fun d hd => fin_run c2 z (.lst hd rgV_rel)⟩
        · cases e
end
end Z
/-! ZE: which program text a small text stands for; the walk, once for all. -/
namespace Z
open PySem PySem.Spec PyProof.Rows L2
structure Glob where
  fn : Str → Option Nat
  con : Str → Option Nat
  free : Str → Bool
  dic : Str → Option Nat
  cid : Str → Option Nat
  cn : Nat → Option Str
  rai : Nat → Bool
  lam : Bool
def visB (sc : Scope) (x : Str) : Bool := match sc.names.lookup x with
  | some .local => true
  | some .cell => true
  | some .free => true
  | _ => false
def locB (sc : Scope) (fb : Str → Bool) (x : Str) : Bool := match sc.names.lookup x with
  | some .local => true
  | some .cell => fb x
  | _ => false
def glB (sc : Scope) (x : Str) : Bool := match sc.names.lookup x with
  | some .globalImplicit => true
  | _ => false
def okName (x : Str) : Bool := !(x == ("__debug__" : Str)) && !(x == ("__classdict__" : Str))
def isSetE : Expr → Bool
  | .Set _ _ _ => true
  | _ => false
/-- a test of it is its value's truth -/
def plainTB : Expr → Bool
  | .Name _ _ => true
  | .Call _ _ _ _ => true
  | .ListComp _ _ _ _ => true
  | .BinOp _ _ _ _ => true
  | _ => false
theorem plainT_of {X : Cx} {e : Expr} (h : plainTB e = true) : PlainT X e := by
  cases e <;> first | (intro _; rfl) | cases h
def isTupT : Expr → Bool
  | .Tuple _ _ _ => true
  | _ => false
def LEs.len : LEs → Nat
  | .nil => 0
  | .cons _ es => es.len + 1
def LCs.len : LCs → Nat
  | .nil => 0
  | .cons _ _ es => es.len + 1
def ownOf (N : List Str) (own : List Nat) : List (Str × Nat) := own.filterMap fun i => N[i]?.map fun x => (x, i)
def litB : PyData → Expr → Bool
  | x, .Constant c _ _ => (match c, x with
    | .int i, .int j => decide (i = j)
    | .bool i, .bool j => i == j
    | .none, .none => true
    | .str i, .str j => decide (i = j)
    | _, _ => false)
  | _, _ => false
/-- names of classes, told -/
def clsB (G : Glob) (sc : Scope) : List Nat → List Expr → Bool
  | [], [] => true
  | d :: ds, .Name y _ :: es => decide (G.cid y = some d) && glB sc y && okName y && clsB G sc ds es
  | _, _ => false
/-- names of built-in types, told -/
def tysB (G : Glob) (sc : Scope) : List Ty → List Expr → Bool
  | [], [] => true
  | t :: ts, .Name y _ :: es => decide (y = tyStr t) && glB sc y && G.free y && tysB G sc ts es
  | _, _ => false
def fscB (N ps : List Str) (sc : Scope) : Bool := (sc.kind == .function) && !sc.isCoroutine && !sc.isGenerator && decide N.Nodup && decide (N.take ps.length = ps) && ps.all (fun x => match sc.names.lookup x with | some .local => true | some .cell => true | _ => false) &&
  sc.names.all (fun y => !(y.2 == .free))
theorem fsc_ok {N ps : List Str} {sc : Scope} (h : fscB N ps sc = true) : FnScope N ps sc := by
  simp only [fscB, Bool.and_eq_true, Bool.not_eq_true', decide_eq_true_eq, List.all_eq_true] at h
  obtain ⟨⟨⟨⟨⟨⟨h1, h2⟩, h3⟩, h4⟩, h5⟩, h6⟩, h7⟩ := h
  refine ⟨?_, h2, h3, h4, h5, fun x hx => ?_, fun y hy e => ?_⟩
  · cases e : sc.kind <;> rw [e] at h1 <;> first | rfl | cases h1
  · have := h6 x hx
    split at this
    · exact .inl (by assumption)
    · exact .inr (by assumption)
    · cases this
  · have := h7 y hy
    rw [e] at this
    cases this
/-- a lambda that the key's small language means -/
def lamB (ky : Ky) (params : Arguments) (body : Expr) (scope : Scope) : Bool := match params.args with
  | [p] => plainL p.arg params && kyB p.arg ky body && okNameK p.arg && fscB [p.arg] [p.arg] scope
  | _ => false
def blkFb (scope : Scope) : Str → Bool := fun x => scope.names.lookup x == some .cell
section
variable (G : Glob) (N : List Str)
mutual
def chkE : LE → Scope → (Str → Bool) → Expr → Bool
  | .lit x, _, _, e => litB x e
  | .var i, sc, _, e => match e with
    | .Name x _ => decide (N[i]? = some x) && visB sc x && okName x
    | _ => false
  | .gco k, sc, _, e => match e with
    | .Name x _ => decide (G.con x = some k) && glB sc x && okName x
    | _ => false
  | .gfn f, sc, _, e => match e with
    | .Name x _ => decide (G.fn x = some f) && glB sc x && okName x
    | _ => false
  | .tup es, sc, fb, e => match e with
    | .Tuple es' _ _ => chkEs es sc fb es'
    | _ => false
  | .lst _ es, sc, fb, e => match e with
    | .List es' _ => chkEs es sc fb es'
    | _ => false
  | .dct0 _ _, _, _, e => match e with
    | .Dict [] [] _ => true
    | _ => false
  | .dct1 _ k v, _, _, e => match e with
    | .Dict [some (.Constant (.int i) _ _)] [.Constant (.int j) _ _] _ => decide (i = k) && decide (j = v)
    | _ => false
  | .lock a, sc, fb, e => chkE a sc fb e && plainTB e
  | .lku _ a, sc, fb, e => chkE a sc fb e && plainTB e
  | .disp _ es, sc, fb, e => match e with
    | .Dict ks vs _ => (match interl ks vs with
      | some es' => chkEs es sc fb es'
      | none => false) && !ks.isEmpty && decide (ks.length ≤ 15)
    | _ => false
  | .lval _ a, sc, fb, e => match e with
    | .Call (.Name x _) [.Call (.Attribute o' y apos) [] [] cpos] [] _ => decide (x = "list") && decide (y = "values") && glB sc x && G.free x && chkE a sc fb o' && plainE o' && (apos.endLine == cpos.line)
    | _ => false
  | .dispT _ es, sc, fb, e => match e with
    | .Dict ks vs _ => (match interl ks vs with
      | some es' => chkEs es sc fb es'
      | none => false) && !ks.isEmpty && decide (ks.length ≤ 15)
    | _ => false
  | .deq neg a b, sc, fb, e => match e with
    | .Compare a' [op] [b'] _ => decide (op = (if neg then CmpOp.NotEq else CmpOp.Eq)) && chkE a sc fb a' && chkE b sc fb b' && !(lastMarks [op] [b'])
    | _ => false
  | .dctE _ a, sc, fb, e => match e with
    | .Call (.Name x _) [.Call (.Name y _) [e'] [] _] [] _ => decide (x = "dict") && decide (y = "enumerate") && glB sc x && glB sc y && G.free x && G.free y && chkE a sc fb e' && noStar e'
    | _ => false
  | .rept _ es k, sc, fb, e => match e with
    | .BinOp (.List es' _) .Mult b _ => chkEs es sc fb es' && chkE k sc fb b
    | _ => false
  | .bop op _ a b, sc, fb, e => match e with
    | .BinOp a' op' b' _ => decide (op = op') && chkE a sc fb a' && chkE b sc fb b'
    | _ => false
  | .neg a, sc, fb, e => match e with
    | .UnaryOp .USub a' _ => chkE a sc fb a'
    | _ => false
  | .nt a, sc, fb, e => match e with
    | .UnaryOp .Not a' _ => chkE a sc fb a'
    | _ => false
  | .bl op es, sc, fb, e => match e with
    | .BoolOp op' es' _ => decide (op = op') && chkEs es sc fb es' && !es'.isEmpty
    | _ => false
  | .cmp a cs, sc, fb, e => match e with
    | .Compare a' ops es' _ => chkE a sc fb a' && chkCs cs sc fb ops es' && decide (cs.len ≠ 0) && !(lastMarks ops es')
    | _ => false
  | .ife c a b, sc, fb, e => match e with
    | .IfExp c' a' b' _ => chkE c sc fb c' && chkE a sc fb a' && chkE b sc fb b'
    | _ => false
  | .idx a i, sc, fb, e => match e with
    | .Subscript a' i' _ => chkE a sc fb a' && chkE i sc fb i' && noSlice i'
    | _ => false
  | .slc _ a lo hi, sc, fb, e => match e with
    | .Subscript a' (.Slice lo' hi' none _) _ => chkE a sc fb a' && (match lo' with | none => isAbs lo | some x => chkE lo sc fb x) && (match hi' with | none => isAbs hi | some x => chkE hi sc fb x)
    | _ => false
  | .abs, _, _, _ => false
  | .kget k i, sc, fb, e => match e with
    | .Subscript (.Name x _) i' _ => decide (G.dic x = some k) && glB sc x && okName x && chkE i sc fb i' && noSlice i'
    | _ => false
  | .frz a, sc, fb, e => chkE a sc fb e && plainTB e
  | .revs _ a, sc, fb, e => match e with
    | .Subscript a' (.Slice none none (some (.UnaryOp .USub (.Constant (.int 1) _ _) _)) _) _ => chkE a sc fb a'
    | _ => false
  | .call f es, sc, fb, e => match e with
    | .Call (.Name x _) es' [] _ => decide (G.fn x = some f) && glB sc x && okName x && chkEs es sc fb es'
    | _ => false
  | .callv f es, sc, fb, e => match e with
    | .Call (.Subscript a' i' p) es' [] _ => chkE f sc fb (.Subscript a' i' p) && chkEs es sc fb es' && !es'.isEmpty
    | _ => false
  | .isE c a, sc, fb, e => match e with
    | .Call (.Name x _) [e', .Name y _] [] _ => decide (x = "isinstance") && glB sc x && G.free x && glB sc y && chkE a sc fb e' && noStar e' && (match c with
      | some d => decide (G.cid y = some d) && okName y
      | none => decide (y = "ValueError") && G.free y)
    | _ => false
  | .isEs ds a, sc, fb, e => match e with
    | .Call (.Name x _) [e', .Tuple es _ _] [] _ => decide (x = "isinstance") && glB sc x && G.free x && chkE a sc fb e' && noStar e' && clsB G sc ds es && decide (ds.length ≤ 20)
    | _ => false
  | .isTs ts a, sc, fb, e => match e with
    | .Call (.Name x _) [e', .Tuple es _ _] [] _ => decide (x = "isinstance") && glB sc x && G.free x && chkE a sc fb e' && noStar e' && tysB G sc ts es && decide (ts.length ≤ 20)
    | _ => false
  | .sset _ a, sc, fb, e => match e with
    | .Call (.Name x _) [.Call (.Name y _) [e'] [] _] [] _ => decide (x = "sorted") && decide (y = "set") && glB sc x && glB sc y && G.free x && G.free y && chkE a sc fb e' && noStar e'
    | _ => false
  | .minK ky a, sc, fb, e => match e with
    | .Call (.Name x _) [e'] [⟨some y, .Lambda params body scope _, _⟩] _ => decide (x = "min") && decide (y = "key") && G.lam && glB sc x && G.free x && chkE a sc fb e' && noStar e' && lamB ky params body scope
    | _ => false
  | .lrng _ es, sc, fb, e => match e with
    | .Call (.Name x _) [.Call (.Name y _) es' [] _] [] _ => decide (x = "list") && decide (y = "range") && glB sc x && glB sc y && G.free x && G.free y && chkEs es sc fb es' && decide (es'.length = 1 ∨ es'.length = 2)
    | _ => false
  | .dctP _ a, sc, fb, e => match e with
    | .Call (.Name x _) [e'] [] _ => decide (x = "dict") && glB sc x && G.free x && chkE a sc fb e' && noStar e'
    | _ => false
  | .pr p fr es, sc, fb, e => match p with
    | .isT t => (match e, es with
      | .Call (.Name x _) [e', .Name y _] [] _, .cons a .nil => decide (x = "isinstance") && decide (y = tyStr t) && glB sc x && glB sc y && G.free x && G.free y && chkE a sc fb e' && noStar e' && !fr
      | _, _ => false)
    | p => (match e with
      | .Call (.Name x _) es' [] _ => primIs p && decide (x = primName p) && glB sc x && G.free x && chkEs es sc fb es' && !es'.isEmpty
      | _ => false)
  | .me m _ o es, sc, fb, e => match e with
    | .Call (.Attribute o' x apos) es' [] pos => decide (x = methName m) && chkE o sc fb o' && chkEs es sc fb es' && plainE o' && (apos.endLine == pos.line) && decide (es'.length < 20)
    | _ => false
  | .cp _ own elt tg it cs, sc, fb, e => match e with
    | .ListComp e' [⟨t', i', fs', 0⟩] scope _ => chkI it sc fb (isTupT t') i' && blkC N sc scope (ownOf N own) && decide ((ownOf N own).map (·.2) = own) && tgC N (locB (relS scope sc) (blkFb scope)) t' tg &&
        chkEs cs (relS scope sc) (blkFb scope) fs' && decide (cs.len ≤ 1) && chkE elt (relS scope sc) (blkFb scope) e' && (slots tg).all (fun i => decide (i ∈ own)) && !isSetE i'
    | _ => false
def chkEs : LEs → Scope → (Str → Bool) → List Expr → Bool
  | .nil, _, _, es => es.isEmpty
  | .cons a r, sc, fb, es => match es with
    | e :: es' => chkE a sc fb e && noStar e && chkEs r sc fb es'
    | [] => false
def chkCs : LCs → Scope → (Str → Bool) → List CmpOp → List Expr → Bool
  | .nil, _, _, ops, es => ops.isEmpty && es.isEmpty
  | .cons op a r, sc, fb, ops, es => match ops, es with
    | o :: ops', e :: es' => decide (op = o) && chkE a sc fb e && chkCs r sc fb ops' es'
    | _, _ => false
def chkI : LI → Scope → (Str → Bool) → Bool → Expr → Bool
  | .val a, sc, fb, _, e => chkE a sc fb e
  | .rng es, sc, fb, _, e => match e with
    | .Call (.Name x _) es' [] _ => decide (x = "range") && glB sc x && G.free x && chkEs es sc fb es' && decide (es.len = 1 ∨ es.len = 2 ∨ es.len = 3)
    | _ => false
  | .enum a, sc, fb, tt, e => match e with
    | .Call (.Name x _) [e'] [] _ => decide (x = "enumerate") && glB sc x && G.free x && chkE a sc fb e' && noStar e' && tt
    | _ => false
  | .rev a, sc, fb, _, e => match e with
    | .Call (.Name x _) [e'] [] _ => decide (x = "reversed") && glB sc x && G.free x && chkE a sc fb e' && noStar e'
    | _ => false
  | .zip es, sc, fb, tt, e => match e with
    | .Call (.Name x _) es' [] _ => decide (x = "zip") && glB sc x && G.free x && chkEs es sc fb es' && decide (es.len = 2) && tt
    | _ => false
  | .items a, sc, fb, tt, e => match e with
    | .Call (.Attribute e' x apos) [] [] cpos => decide (x = "items") && chkE a sc fb e' && plainE e' && (apos.endLine == cpos.line) && tt
    | _ => false
end
end
/-- what the module holds, by what the machine says -/
structure Glb (G : Glob) (C : Cc) (M : Mach) (mg : Str → Option Value) (bs : Heap) (k : Nat) : Prop where
  con : ∀ x n, G.con x = some n → ∃ u, mg x = some u ∧ ∀ y, M.con n = some y → ∃ v, RelV v u ∧ ∀ H, Rp C.K C.w H v y
  free : ∀ x, G.free x = true → mg x = none
  dic : ∀ x n, G.dic x = some n → ∃ a, mg x = some (.ref a) ∧ ∀ s y, kgetU (M.con n) (.d (.str s)) = some y → ∃ v, KDct C.K C.w a s v ∧ ∀ H, Rp C.K C.w H v y
  cls : ∀ y d, G.cid y = some d → ∃ b, ClsAt C mg y d b
  exf : ∀ k a, C.ca k = some a → ExF C.K a
  bas : ∀ y, G.cid y = some 0 → ∀ b0, mg y = some (.ref b0) → ∀ k a, C.ca k = some a → PySem.W.exmOne C.K (.ref a) (.ref b0) = some true
  rai : ∀ y d, G.cid y = some d → G.rai d = true → ∃ a, C.ca d = some a ∧ mg y = some (.ref a)
  fnv : ∀ f a, C.fa f = some a → ∃ fd ps, PySem.W.keepIn C.K (.ref a) = true ∧ FnG C.prog C.w C.K mg bs k a fd ps (spZ C (M.call f)) ∧ Binds C.K fd ps []
  fn : ∀ x f, G.fn x = some f → ∃ a fd ps, mg x = some (.ref a) ∧ PySem.W.keepIn C.K (.ref a) = true ∧ C.fa f = some a ∧ FnG C.prog C.w C.K mg bs k a fd ps (spZ C (M.call f)) ∧ Binds C.K fd ps []
structure Ctx (G : Glob) (C : Cc) (mg : Str → Option Value) (bs : Heap) (k : Nat) (N : List Str) (X : Cx) (W : Z.WX) (sc : Scope) (fb : Str → Bool) : Prop where
  ok : Okc X C W
  N : X.N = N
  sc : X.env.scope = sc
  fb : X.fn = fb
  mg : X.mg = mg
  bs : X.base = bs
  room : Room k X.A
  tk : Takes X W
  lam : G.lam = true → LamOk X C
theorem takes_none {X : Cx} : Takes X W0 := fun _ _ h => by
  obtain ⟨_, _, _, _, _, _, _, _, _, _, _, _, _, _, _, _, h⟩ := h
  exact h.elim
section
variable {G : Glob} {N : List Str} {C : Cc} {M : Mach} {mg : Str → Option Value} {bs : Heap} {k : Nat}
theorem Ctx.blk {X : Cx} {W : Z.WX} {sc : Scope} {fb : Str → Bool} (c : Ctx G C mg bs k N X W sc fb) (scope : Scope) (s : Shared) (H : Hp) (D : Addr) (cl : List (Str × Addr)) (fp : List Addr) :
    Ctx G C mg bs k N (X.blk s H scope (compEnvC scope cl D X.env) fp) W0 (relS scope sc) (blkFb scope) := by
  refine ⟨⟨c.ok.prog, c.ok.w, c.ok.K, c.ok.nd, c.ok.units, c.ok.guards, c.ok.calm⟩, c.N, ?_, rfl, c.mg, c.bs, c.room, takes_none, fun h => ⟨(c.lam h).ex⟩⟩
  rw [← c.sc]
  rfl
theorem vis_of {sc : Scope} {x : Str} (h : visB sc x = true) : Vis sc x := by
  unfold visB at h
  split at h
  · exact .inl (by assumption)
  · exact .inr (.inl (by assumption))
  · exact .inr (.inr (by assumption))
  · cases h
theorem loc_of {sc : Scope} {fb : Str → Bool} {x : Str} (h : locB sc fb x = true) : Loc sc x ∧ (fb x = true ∨ sc.names.lookup x = some .local) := by
  unfold locB at h
  split at h
  · exact ⟨.inl (by assumption), .inr (by assumption)⟩
  · exact ⟨.inr (by assumption), .inl h⟩
  · cases h
theorem gl_of {X : Cx} {sc : Scope} {x : Str} (hs : X.env.scope = sc) (h : glB sc x = true) : Gl X x := by
  unfold glB at h
  split at h
  · rename_i e
    show X.env.scope.names.lookup x = _
    rw [hs]; exact e
  · cases h
theorem okn {x : Str} (h : okName x = true) : (x == ("__debug__" : Str)) = false ∧ (x == ("__classdict__" : Str)) = false := by
  unfold okName at h
  simp only [Bool.and_eq_true, Bool.not_eq_true'] at h
  exact h
theorem mns_len {M : Mach} {base : Nat} : ∀ es : LEs, (mns M base es).length = es.len
  | .nil => by simp [mns, LEs.len]
  | .cons a r => by simp [mns, LEs.len, mns_len r]
theorem mcs_ne {M : Mach} {base : Nat} {cs : LCs} (h : cs.len ≠ 0) : mcs M base cs ≠ [] := by
  cases cs with
  | nil => exact absurd rfl h
  | cons _ _ _ => simp [mcs]
theorem fold_no {e : Expr} {env : Env} (h : isSetE e = false) : ∀ x, foldedSetIterable e env x = pure x := by
  intro x
  cases e <;> first | rfl | cases h
/-- the parts of a comprehension -/
structure CpOk (C : Cc) (base : Nat) (X : Cx) (W : Z.WX) (own : List Nat) (elt : Mn) (tg : Tg) (it : Md Src) (cs : List Mn) (e tgE iter : Expr) (ifs : List Expr) (scope : Scope) : Prop where
  hi : PI X tgE iter (RdI C base W it)
  ok : BlkOk X.N X.env.scope scope (ownOf X.N own)
  oq : (ownOf X.N own).map (·.2) = own
  hg : ∀ (s : Shared) (H : Hp) (D : Addr) (cl : List (Str × Addr)) (fp : List Addr), PG (X.blk s H scope (compEnvC scope cl D X.env) fp) tgE (gOf X.K tg)
  ht : ∀ (s : Shared) (H : Hp) (D : Addr) (cl : List (Str × Addr)) (fp : List Addr), SEs (X.blk s H scope (compEnvC scope cl D X.env) fp) C base W0 ifs cs
  hl : cs.length ≤ 1
  he : ∀ (s : Shared) (H : Hp) (D : Addr) (cl : List (Str × Addr)) (fp : List Addr), SE (X.blk s H scope (compEnvC scope cl D X.env) fp) C base W0 e elt
  hsl : ∀ i ∈ slots tg, i ∈ own
  hs : ∀ x, foldedSetIterable iter X.env x = pure x
theorem CpOk.se {base : Nat} {X : Cx} {W : Z.WX} {own : List Nat} {elt : Mn} {tg : Tg} {it : Md Src} {cs : List Mn} {e tgE iter : Expr} {ifs : List Expr} {scope : Scope} {pos : Pos} {fr : Bool} (kx : Okc X C W) (h : CpOk C base X W own elt tg it cs e tgE iter ifs scope) :
    SE X C base W (.ListComp e [⟨tgE, iter, ifs, 0⟩] scope pos) (.of (compU fr own elt tg it cs)) := by
  have q := se_cp (fr := fr) (pos := pos) kx h.hi h.ok h.hg h.ht h.hl h.he (by rw [h.oq]; exact h.hsl) h.hs
  rw [h.oq] at q
  exact q
theorem so_of {base : Nat} {X : Cx} {W : Z.WX} {a : LE} {o : Option Expr} {p : Expr → Bool} (h : (match o with | none => isAbs a | some x => p x) = true) (g : ∀ x, p x = true → SE X C base W x (mn M base a)) (g2 : ∀ x, p x = true → isAbs a = false) : SO X C base W o (isAbs a) (mn M base a) := by
  cases o with
  | none => rw [show isAbs a = true from h]; exact .no
  | some x => rw [g2 x h]; exact .yes (g x h)
theorem abs_no {a : LE} {sc : Scope} {fb : Str → Bool} {x : Expr} (h : chkE G N a sc fb x = true) : isAbs a = false := by
  cases a <;> first | rfl | (simp [chkE] at h)
variable (gl : Glb G C M mg bs k) (base : Nat)
include gl
theorem cls_ok {X : Cx} {W : Z.WX} {sc : Scope} {fb : Str → Bool} (c : Ctx G C mg bs k N X W sc fb) : ∀ {ds : List Nat} {es : List Expr}, clsB G sc ds es = true → ∃ bs, ClsNs X C es ds bs
  | [], [], _ => ⟨[], .nil⟩
  | d :: ds, .Name y p :: es, h => by
    simp only [clsB, Bool.and_eq_true, decide_eq_true_eq] at h
    obtain ⟨⟨⟨h1, h2⟩, h3⟩, h4⟩ := h
    obtain ⟨b, q⟩ := gl.cls _ _ h1
    obtain ⟨bs, r⟩ := cls_ok c h4
    exact ⟨b :: bs, .cons (by rw [c.mg]; exact q) (gl_of c.sc h2) (okn h3).1 r⟩
theorem tys_ok {X : Cx} {W : Z.WX} {sc : Scope} {fb : Str → Bool} (c : Ctx G C mg bs k N X W sc fb) : ∀ {ts : List Ty} {es : List Expr}, tysB G sc ts es = true → TyNs X es ts
  | [], [], _ => .nil
  | t :: ts, .Name y p :: es, h => by
    simp only [tysB, Bool.and_eq_true, decide_eq_true_eq] at h
    obtain ⟨⟨⟨rfl, h2⟩, h3⟩, h4⟩ := h
    exact .cons (gl_of c.sc h2) (by rw [c.mg]; exact gl.free _ h3) (tys_ok c h4)
mutual
theorem chkE_ok : ∀ (le : LE) {X : Cx} {W : Z.WX} {sc : Scope} {fb : Str → Bool} {e : Expr}, Ctx G C mg bs k N X W sc fb → chkE G N le sc fb e = true → SE X C base W e (mn M base le)
  | .lit x, X, W, sc, fb, e, c, h => by
    simp only [chkE] at h
    unfold litB at h
    split at h
    · split at h
      · have := of_decide_eq_true h; subst this; exact se_lit_int c.ok
      · have := eq_of_beq h; subst this; exact se_lit_bool c.ok
      · exact se_lit_none c.ok
      · have := of_decide_eq_true h; subst this; exact se_lit_str c.ok
      · cases h
    · cases h
  | .var i, X, W, sc, fb, e, c, h => by
    simp only [chkE] at h
    split at h
    · simp only [Bool.and_eq_true, decide_eq_true_eq] at h
      exact se_var c.ok (by rw [c.N]; exact h.1.1) (by rw [c.sc]; exact vis_of h.1.2) (okn h.2).1 (okn h.2).2
    · cases h
  | .gco n, X, W, sc, fb, e, c, h => by
    simp only [chkE] at h
    split at h
    · simp only [Bool.and_eq_true, decide_eq_true_eq] at h
      obtain ⟨u, h1, h2⟩ := gl.con _ _ h.1.1
      exact se_gco c.ok (gl_of c.sc h.1.2) (by rw [c.mg]; exact h1) (okn h.2).1 h2
    · cases h
  | .gfn f, X, W, sc, fb, e, c, h => by
    simp only [chkE] at h
    split at h
    · simp only [Bool.and_eq_true, decide_eq_true_eq] at h
      obtain ⟨a, fd, ps, h1, h2, h3, _⟩ := gl.fn _ _ h.1.1
      exact se_gfn c.ok (gl_of c.sc h.1.2) (by rw [c.mg]; exact h1) (okn h.2).1 h3
    · cases h
  | .tup es, X, W, sc, fb, e, c, h => by
    simp only [chkE] at h
    split at h
    · exact se_tup c.ok (chkEs_ok es c h)
    · cases h
  | .lst fr es, X, W, sc, fb, e, c, h => by
    simp only [chkE] at h
    split at h
    · exact se_lst c.ok (chkEs_ok es c h)
    · cases h
  | .dct0 t fr, X, W, sc, fb, e, c, h => by
    simp only [chkE] at h
    split at h
    · exact se_dct0 c.ok
    · cases h
  | .dct1 fr i j, X, W, sc, fb, e, c, h => by
    simp only [chkE] at h
    split at h
    · simp only [Bool.and_eq_true, decide_eq_true_eq] at h
      obtain ⟨rfl, rfl⟩ := h
      exact se_dct1 c.ok
    · cases h
  | .dctE fr a, X, W, sc, fb, e, c, h => by
    simp only [chkE] at h
    split at h
    · simp only [Bool.and_eq_true, decide_eq_true_eq] at h
      obtain ⟨⟨⟨⟨⟨⟨⟨rfl, rfl⟩, h1⟩, h2⟩, h3⟩, h4⟩, h5⟩, h6⟩ := h
      exact se_dctE c.ok (gl_of c.sc h1) (by rw [c.mg]; exact gl.free _ h3) (gl_of c.sc h2) (by rw [c.mg]; exact gl.free _ h4) (chkE_ok a c h5) h6
    · cases h
  | .lock a, X, W, sc, fb, e, c, h => by
    simp only [chkE, Bool.and_eq_true] at h
    exact se_lock c.ok (chkE_ok a c h.1) (plainT_of h.2)
  | .lku i a, X, W, sc, fb, e, c, h => by
    simp only [chkE, Bool.and_eq_true] at h
    exact se_lku c.ok (chkE_ok a c h.1) (plainT_of h.2)
  | .disp fr es, X, W, sc, fb, e, c, h => by
    simp only [chkE] at h
    split at h
    · simp only [Bool.and_eq_true, decide_eq_true_eq, Bool.not_eq_true'] at h
      obtain ⟨⟨h1, h2⟩, h3⟩ := h
      split at h1
      · rename_i es' hi
        exact se_disp c.ok hi (chkEs_ok es c h1) (fun e => by subst e; cases h2) h3
      · cases h1
    · cases h
  | .lval fr a, X, W, sc, fb, e, c, h => by
    simp only [chkE] at h
    split at h
    · simp only [Bool.and_eq_true, decide_eq_true_eq] at h
      obtain ⟨⟨⟨⟨⟨⟨rfl, rfl⟩, h1⟩, h2⟩, h3⟩, h4⟩, h5⟩ := h
      exact se_lval c.ok (gl_of c.sc h1) (by rw [c.mg]; exact gl.free _ h2) (chkE_ok a c h3) (base_plain h4) h5
    · cases h
  | .dispT fr es, X, W, sc, fb, e, c, h => by
    simp only [chkE] at h
    split at h
    · simp only [Bool.and_eq_true, decide_eq_true_eq, Bool.not_eq_true'] at h
      obtain ⟨⟨h1, h2⟩, h3⟩ := h
      split at h1
      · rename_i es' hi
        exact se_dispT c.ok hi (chkEs_ok es c h1) (fun e => by subst e; cases h2) h3
      · cases h1
    · cases h
  | .deq neg a b, X, W, sc, fb, e, c, h => by
    simp only [chkE] at h
    split at h
    · simp only [Bool.and_eq_true, decide_eq_true_eq, Bool.not_eq_true'] at h
      obtain ⟨⟨⟨rfl, h1⟩, h2⟩, h3⟩ := h
      exact se_deq c.ok (chkE_ok a c h1) (chkE_ok b c h2) h3
    · cases h
  | .rept fr es b, X, W, sc, fb, e, c, h => by
    simp only [chkE] at h
    split at h
    · simp only [Bool.and_eq_true] at h
      exact se_rept c.ok (chkEs_ok es c h.1) (chkE_ok b c h.2)
    · cases h
  | .bop op fr a b, X, W, sc, fb, e, c, h => by
    simp only [chkE] at h
    split at h
    · simp only [Bool.and_eq_true, decide_eq_true_eq] at h
      obtain ⟨⟨rfl, h1⟩, h2⟩ := h
      exact se_bop c.ok (chkE_ok a c h1) (chkE_ok b c h2)
    · cases h
  | .neg a, X, W, sc, fb, e, c, h => by
    simp only [chkE] at h
    split at h
    · exact se_neg c.ok (chkE_ok a c h)
    · cases h
  | .nt a, X, W, sc, fb, e, c, h => by
    simp only [chkE] at h
    split at h
    · exact se_not c.ok (chkE_ok a c h)
    · cases h
  | .bl op es, X, W, sc, fb, e, c, h => by
    simp only [chkE] at h
    split at h
    · simp only [Bool.and_eq_true, decide_eq_true_eq] at h
      obtain ⟨⟨rfl, h1⟩, h2⟩ := h
      exact se_bl c.ok (chkEs_ok es c h1) (fun e => by subst e; cases h2)
    · cases h
  | .cmp a cs, X, W, sc, fb, e, c, h => by
    simp only [chkE] at h
    split at h
    · simp only [Bool.and_eq_true, decide_eq_true_eq, Bool.not_eq_true'] at h
      obtain ⟨⟨⟨h1, h2⟩, h3⟩, h4⟩ := h
      exact se_cmp c.ok (chkE_ok a c h1) (chkCs_ok cs c h2) (mcs_ne h3) h4
    · cases h
  | .ife x a b, X, W, sc, fb, e, c, h => by
    simp only [chkE] at h
    split at h
    · simp only [Bool.and_eq_true] at h
      exact se_ife (chkE_ok x c h.1.1) (chkE_ok a c h.1.2) (chkE_ok b c h.2)
    · cases h
  | .idx a i, X, W, sc, fb, e, c, h => by
    simp only [chkE] at h
    split at h
    · simp only [Bool.and_eq_true] at h
      exact se_idx c.ok (chkE_ok a c h.1.1) (chkE_ok i c h.1.2) h.2
    · cases h
  | .slc fr a lo hi, X, W, sc, fb, e, c, h => by
    simp only [chkE] at h
    split at h
    · simp only [Bool.and_eq_true] at h
      obtain ⟨⟨h0, h1⟩, h2⟩ := h
      exact se_slc c.ok (chkE_ok a c h0) (so_of h1 (fun x hx => chkE_ok lo c hx) fun x hx => abs_no hx) (so_of h2 (fun x hx => chkE_ok hi c hx) fun x hx => abs_no hx)
    · cases h
  | .abs, X, W, sc, fb, e, c, h => by simp [chkE] at h
  | .kget n i, X, W, sc, fb, e, c, h => by
    simp only [chkE] at h
    split at h
    · simp only [Bool.and_eq_true, decide_eq_true_eq] at h
      obtain ⟨⟨⟨⟨h1, h2⟩, h3⟩, h4⟩, h5⟩ := h
      obtain ⟨a, g1, g2⟩ := gl.dic _ _ h1
      exact se_kget c.ok (gl_of c.sc h2) (by rw [c.mg]; exact g1) (okn h3).1 g2 (chkE_ok i c h4) h5
    · cases h
  | .frz a, X, W, sc, fb, e, c, h => by
    simp only [chkE, Bool.and_eq_true] at h
    exact se_frz c.ok (chkE_ok a c h.1) (plainT_of h.2)
  | .revs fr a, X, W, sc, fb, e, c, h => by
    simp only [chkE] at h
    split at h
    · exact se_revs c.ok (chkE_ok a c h)
    · cases h
  | .call f es, X, W, sc, fb, e, c, h => by
    simp only [chkE] at h
    split at h
    · simp only [Bool.and_eq_true, decide_eq_true_eq] at h
      obtain ⟨⟨⟨h1, h2⟩, h3⟩, h4⟩ := h
      obtain ⟨a, fd, ps, g1, g2, g3, g4, g5⟩ := gl.fn _ _ h1
      refine se_call c.ok (f := fun us st => (M.call f us st).inner base st) (callS_of (k := k) (fd := fd) (ps := ps) c.ok ?_ c.room c.tk ?_) (gl_of c.sc h2) (by rw [c.mg]; exact g1) (by rw [c.ok.K]; exact g2) (chkEs_ok es c h4) (okn h3).1
      · rw [c.ok.prog, c.ok.w, c.ok.K, c.mg, c.bs]; exact g4
      · rw [c.ok.K]; exact g5
    · cases h
  | .callv f es, X, W, sc, fb, e, c, h => by
    simp only [chkE] at h
    split at h
    · simp only [Bool.and_eq_true] at h
      refine se_callv c.ok (g := fun f us st => (M.call f us st).inner base st) (fun f a hf => ?_) (chkE_ok f c h.1.1) (chkEs_ok es c h.1.2) (fun e => by subst e; cases h.2)
      obtain ⟨fd, ps, g2, g4, g5⟩ := gl.fnv _ _ hf
      refine ⟨callS_of (k := k) (fd := fd) (ps := ps) c.ok ?_ c.room c.tk ?_, by rw [c.ok.K]; exact g2⟩
      · rw [c.ok.prog, c.ok.w, c.ok.K, c.mg, c.bs]; exact g4
      · rw [c.ok.K]; exact g5
    · cases h
  | .isE d a, X, W, sc, fb, e, c, h => by
    simp only [chkE] at h
    split at h
    · simp only [Bool.and_eq_true, decide_eq_true_eq] at h
      obtain ⟨⟨⟨⟨⟨⟨rfl, h1⟩, h2⟩, h3⟩, h4⟩, h5⟩, h6⟩ := h
      cases d with
      | some d =>
        simp only [Bool.and_eq_true, decide_eq_true_eq] at h6
        obtain ⟨b, q⟩ := gl.cls _ _ h6.1
        exact se_isE c.ok gl.exf (by rw [c.mg]; exact q) (gl_of c.sc h1) (by rw [c.mg]; exact gl.free _ h2) (gl_of c.sc h3) (okn h6.2).1 (chkE_ok a c h4) h5
      | none =>
        simp only [Bool.and_eq_true, decide_eq_true_eq] at h6
        obtain ⟨rfl, h7⟩ := h6
        exact se_isV c.ok gl.exf (gl_of c.sc h1) (by rw [c.mg]; exact gl.free _ h2) (gl_of c.sc h3) (by rw [c.mg]; exact gl.free _ h7) (chkE_ok a c h4) h5
    · cases h
  | .isEs ds a, X, W, sc, fb, e, c, h => by
    simp only [chkE] at h
    split at h
    · simp only [Bool.and_eq_true, decide_eq_true_eq] at h
      obtain ⟨⟨⟨⟨⟨⟨rfl, h1⟩, h2⟩, h3⟩, h4⟩, h5⟩, h6⟩ := h
      obtain ⟨bs, q⟩ := cls_ok gl c h5
      exact se_isEs c.ok gl.exf q h6 (gl_of c.sc h1) (by rw [c.mg]; exact gl.free _ h2) (chkE_ok a c h3) h4
    · cases h
  | .isTs ts a, X, W, sc, fb, e, c, h => by
    simp only [chkE] at h
    split at h
    · simp only [Bool.and_eq_true, decide_eq_true_eq] at h
      obtain ⟨⟨⟨⟨⟨⟨rfl, h1⟩, h2⟩, h3⟩, h4⟩, h5⟩, h6⟩ := h
      exact se_isTs c.ok (tys_ok gl c h5) h6 (gl_of c.sc h1) (by rw [c.mg]; exact gl.free _ h2) (chkE_ok a c h3) h4
    · cases h
  | .sset fr a, X, W, sc, fb, e, c, h => by
    simp only [chkE] at h
    split at h
    · simp only [Bool.and_eq_true, decide_eq_true_eq] at h
      obtain ⟨⟨⟨⟨⟨⟨⟨rfl, rfl⟩, h1⟩, h2⟩, h3⟩, h4⟩, h5⟩, h6⟩ := h
      exact se_sset c.ok (gl_of c.sc h1) (by rw [c.mg]; exact gl.free _ h3) (gl_of c.sc h2) (by rw [c.mg]; exact gl.free _ h4) (chkE_ok a c h5) h6
    · cases h
  | .minK ky a, X, W, sc, fb, e, c, h => by
    simp only [chkE] at h
    split at h
    · simp only [Bool.and_eq_true, decide_eq_true_eq] at h
      obtain ⟨⟨⟨⟨⟨⟨⟨rfl, rfl⟩, h1⟩, h2⟩, h3⟩, h4⟩, h5⟩, h6⟩ := h
      unfold lamB at h6
      split at h6
      · simp only [Bool.and_eq_true] at h6
        exact se_minK c.ok (c.lam h1) (c.room.mono (Nat.zero_le _)) (gl_of c.sc h2) (by rw [c.mg]; exact gl.free _ h3) (chkE_ok a c h4) h5 (fsc_ok h6.2) h6.1.1.1 h6.1.1.2 h6.1.2
      · cases h6
    · cases h
  | .lrng fr es, X, W, sc, fb, e, c, h => by
    simp only [chkE] at h
    split at h
    · simp only [Bool.and_eq_true, decide_eq_true_eq] at h
      obtain ⟨⟨⟨⟨⟨⟨⟨rfl, rfl⟩, h1⟩, h2⟩, h3⟩, h4⟩, h5⟩, h6⟩ := h
      exact se_lrng c.ok (gl_of c.sc h1) (by rw [c.mg]; exact gl.free _ h3) (gl_of c.sc h2) (by rw [c.mg]; exact gl.free _ h4) (chkEs_ok es c h5) h6
    · cases h
  | .dctP fr a, X, W, sc, fb, e, c, h => by
    simp only [chkE] at h
    split at h
    · simp only [Bool.and_eq_true, decide_eq_true_eq] at h
      obtain ⟨⟨⟨⟨rfl, h1⟩, h2⟩, h3⟩, h4⟩ := h
      exact se_dctP c.ok (gl_of c.sc h1) (by rw [c.mg]; exact gl.free _ h2) (chkE_ok a c h3) h4
    · cases h
  | .pr p fr es, X, W, sc, fb, e, c, h => by
    unfold chkE at h
    split at h
    · split at h
      · rename_i a
        simp only [Bool.and_eq_true, decide_eq_true_eq, Bool.not_eq_true'] at h
        obtain ⟨⟨⟨⟨⟨⟨⟨⟨rfl, rfl⟩, h1⟩, h2⟩, h3⟩, h4⟩, h5⟩, h6⟩, rfl⟩ := h
        exact se_isT c.ok (gl_of c.sc h1) (by rw [c.mg]; exact gl.free _ h3) (gl_of c.sc h2) (by rw [c.mg]; exact gl.free _ h4) (chkE_ok a c h5) h6
      · cases h
    · split at h
      · simp only [Bool.and_eq_true, decide_eq_true_eq] at h
        obtain ⟨⟨⟨⟨⟨h1, rfl⟩, h2⟩, h3⟩, h4⟩, h5⟩ := h
        exact se_pr c.ok h1 (gl_of c.sc h2) (by rw [c.mg]; exact gl.free _ h3) (chkEs_ok es c h4) (fun e => by subst e; cases h5)
      · cases h
  | .me m fr o es, X, W, sc, fb, e, c, h => by
    simp only [chkE] at h
    split at h
    · simp only [Bool.and_eq_true, decide_eq_true_eq] at h
      obtain ⟨⟨⟨⟨⟨rfl, h1⟩, h2⟩, h3⟩, h4⟩, h5⟩ := h
      exact se_me c.ok (chkE_ok o c h1) (chkEs_ok es c h2) h3 h4 h5
    · cases h
  | .cp fr own elt tg it cs, X, W, sc, fb, e, c, h => by
    simp only [chkE] at h
    split at h
    · rename_i e' t' i' fs' scope pos
      simp only [Bool.and_eq_true, decide_eq_true_eq, Bool.not_eq_true', List.all_eq_true] at h
      obtain ⟨⟨⟨⟨⟨⟨⟨⟨h1, h2⟩, h3⟩, h4⟩, h5⟩, h6⟩, h7⟩, h8⟩, h9⟩ := h
      refine CpOk.se c.ok ⟨chkI_ok it c h1, by rw [c.N, c.sc]; exact blkOk_by h2, by rw [c.N]; exact h3, fun s H D cl fp => ?_, fun s H D cl fp => chkEs_ok cs (c.blk _ s H D cl fp) h5, by rw [mns_len]; exact h6,
        fun s H D cl fp => chkE_ok elt (c.blk _ s H D cl fp) h7, h8, fold_no h9⟩
      have cb := c.blk scope s H D cl fp
      refine pg_of (loc := locB _ _) cb.ok.nd cb.ok.calm (fun x hx => ?_) (by rw [cb.N]; exact h4)
      rw [cb.sc, cb.fb]
      exact loc_of hx
    · cases h
theorem chkEs_ok : ∀ (les : LEs) {X : Cx} {W : Z.WX} {sc : Scope} {fb : Str → Bool} {es : List Expr}, Ctx G C mg bs k N X W sc fb → chkEs G N les sc fb es = true → SEs X C base W es (mns M base les)
  | .nil, X, W, sc, fb, es, c, h => by
    simp only [chkEs, List.isEmpty_iff] at h
    subst h
    exact .nil
  | .cons a r, X, W, sc, fb, es, c, h => by
    simp only [chkEs] at h
    split at h
    · simp only [Bool.and_eq_true] at h
      exact .cons (chkE_ok a c h.1.1) h.1.2 (chkEs_ok r c h.2)
    · cases h
theorem chkCs_ok : ∀ (lcs : LCs) {X : Cx} {W : Z.WX} {sc : Scope} {fb : Str → Bool} {ops : List CmpOp} {es : List Expr}, Ctx G C mg bs k N X W sc fb → chkCs G N lcs sc fb ops es = true → SCs X C base W ops es (mcs M base lcs)
  | .nil, X, W, sc, fb, ops, es, c, h => by
    simp only [chkCs, Bool.and_eq_true, List.isEmpty_iff] at h
    obtain ⟨rfl, rfl⟩ := h
    exact .nil
  | .cons op a r, X, W, sc, fb, ops, es, c, h => by
    simp only [chkCs] at h
    split at h
    · simp only [Bool.and_eq_true, decide_eq_true_eq] at h
      obtain ⟨⟨rfl, h1⟩, h2⟩ := h
      exact .cons (chkE_ok a c h1) (chkCs_ok r c h2)
    · cases h
theorem chkI_ok : ∀ (li : LI) {X : Cx} {W : Z.WX} {sc : Scope} {fb : Str → Bool} {t e : Expr}, Ctx G C mg bs k N X W sc fb → chkI G N li sc fb (isTupT t) e = true → PI X t e (RdI C base W (mi M base li))
  | .val a, X, W, sc, fb, t, e, c, h => by
    simp only [chkI] at h
    exact pi_val c.ok (chkE_ok a c h)
  | .rng es, X, W, sc, fb, t, e, c, h => by
    simp only [chkI] at h
    split at h
    · simp only [Bool.and_eq_true, decide_eq_true_eq] at h
      obtain ⟨⟨⟨⟨rfl, h1⟩, h2⟩, h3⟩, h4⟩ := h
      exact pi_rng c.ok (gl_of c.sc h1) (by rw [c.mg]; exact gl.free _ h2) (chkEs_ok es c h3) (by rw [mns_len]; exact h4)
    · cases h
  | .enum a, X, W, sc, fb, t, e, c, h => by
    simp only [chkI] at h
    split at h
    · simp only [Bool.and_eq_true, decide_eq_true_eq] at h
      obtain ⟨⟨⟨⟨⟨rfl, h1⟩, h2⟩, h3⟩, h4⟩, h5⟩ := h
      cases t <;> first | (cases h5; done) | exact pi_enm c.ok (gl_of c.sc h1) (by rw [c.mg]; exact gl.free _ h2) (chkE_ok a c h3) h4
    · cases h
  | .rev a, X, W, sc, fb, t, e, c, h => by
    simp only [chkI] at h
    split at h
    · simp only [Bool.and_eq_true, decide_eq_true_eq] at h
      obtain ⟨⟨⟨⟨rfl, h1⟩, h2⟩, h3⟩, h4⟩ := h
      exact pi_rev c.ok (gl_of c.sc h1) (by rw [c.mg]; exact gl.free _ h2) (chkE_ok a c h3) h4
    · cases h
  | .zip es, X, W, sc, fb, t, e, c, h => by
    simp only [chkI] at h
    split at h
    · simp only [Bool.and_eq_true, decide_eq_true_eq] at h
      obtain ⟨⟨⟨⟨⟨rfl, h1⟩, h2⟩, h3⟩, h4⟩, h5⟩ := h
      cases t <;> first | (cases h5; done) | exact pi_zp c.ok (gl_of c.sc h1) (by rw [c.mg]; exact gl.free _ h2) (chkEs_ok es c h3) (by rw [mns_len]; exact h4)
    · cases h
  | .items a, X, W, sc, fb, t, e, c, h => by
    simp only [chkI] at h
    split at h
    · simp only [Bool.and_eq_true, decide_eq_true_eq] at h
      obtain ⟨⟨⟨⟨rfl, h1⟩, h2⟩, h3⟩, h4⟩ := h
      cases t <;> first | (cases h4; done) | exact pi_itms c.ok (chkE_ok a c h1) h2 h3
    · cases h
end
theorem cpOk_of {fr : Bool} {own : List Nat} {elt : LE} {tg : Tg} {it : LI} {cs : LEs} {X : Cx} {W : Z.WX} {sc : Scope} {fb : Str → Bool} {e' t' i' : Expr} {fs' : List Expr} {scope : Scope} {pos : Pos} (c : Ctx G C mg bs k N X W sc fb)
    (h : chkE G N (.cp fr own elt tg it cs) sc fb (.ListComp e' [⟨t', i', fs', 0⟩] scope pos) = true) : CpOk C base X W own (mn M base elt) tg (mi M base it) (mns M base cs) e' t' i' fs' scope := by
  simp only [chkE, Bool.and_eq_true, decide_eq_true_eq, Bool.not_eq_true', List.all_eq_true] at h
  obtain ⟨⟨⟨⟨⟨⟨⟨⟨h1, h2⟩, h3⟩, h4⟩, h5⟩, h6⟩, h7⟩, h8⟩, h9⟩ := h
  refine ⟨chkI_ok gl base it c h1, by rw [c.N, c.sc]; exact blkOk_by h2, by rw [c.N]; exact h3, fun s H D cl fp => ?_, fun s H D cl fp => chkEs_ok gl base cs (c.blk _ s H D cl fp) h5, by rw [mns_len]; exact h6,
    fun s H D cl fp => chkE_ok gl base elt (c.blk _ s H D cl fp) h7, h8, fold_no h9⟩
  have cb := c.blk scope s H D cl fp
  refine pg_of (loc := locB _ _) cb.ok.nd cb.ok.calm (fun x hx => ?_) (by rw [cb.N]; exact h4)
  rw [cb.sc, cb.fb]
  exact loc_of hx
end
end Z
/-! ZF: which statements, which defs; the whole walk. -/
namespace Z
open PySem PySem.Spec PyProof.Rows L2
def swB (sc : Scope) (y : Str) (py : Pos) (scope : Scope) (pos : Pos) : Bool :=
  (sc.names.lookup y == some .local) && (py.line == pos.line) && !(scope.names.any fun p => p.1 == y && (p.2 == .local || p.2 == .cell))
theorem sw_eq {elt : Expr} {gs : List Comprehension} {scope : Scope} {pos py : Pos} {y : Str} {l : Nat} {env : Env} (hk : env.scope.kind = .function) :
    swapsWith (.ListComp elt gs scope pos) (some (.Name y py)) l env = pure (swB env.scope y py scope pos) := by
  have hb : env.blockKind = .function := by unfold Env.blockKind; rw [hk]; rfl
  unfold swapsWith swB
  simp only [hb, Expr.pos, Env.kindOf]
  rfl
section
variable (G : Glob) (N : List Str)
mutual
def chkS : LS → Scope → (Str → Bool) → Stmt → Bool
  | .pass, _, _, s => match s with
    | .Pass _ => true
    | .Expr (.Constant (.str _) _ _) _ => true
    | _ => false
  | .never, _, _, _ => true
  | .cont, _, _, s => match s with
    | .Continue _ => true
    | _ => false
  | .expr e, sc, fb, s => match s with
    | .Expr e' _ => chkE G N e sc fb e' && noComp e'
    | _ => false
  | .ret e, sc, fb, s => match s with
    | .Return (some e') _ => chkE G N e sc fb e'
    | _ => false
  | .retn, _, _, s => match s with
    | .Return none _ => true
    | _ => false
  | .set tg e, sc, fb, s => match s with
    | .Assign [.Name x _] e' _ => (match tg with
      | .v i => decide (N[i]? = some x) && locB sc fb x && chkE G N e sc fb e' && (noComp e' || (match e', e with
        | .ListComp _ [⟨_, _, _, 0⟩] _ _, .cp _ _ _ _ _ _ => true
        | _, _ => false))
      | _ => false)
    | .Assign [.Tuple es n p] e' _ => tgC N (locB sc fb) (.Tuple es n p) tg && chkE G N e sc fb e' && noComp e' && !isTupE e'
    | _ => false
  | .setl ts e, sc, fb, s => match s with
    | .Assign [.Tuple es n p] e' _ => tgC N (locB sc fb) (.Tuple es n p) (.t ts) && chkE G N e sc fb e' && noComp e' && !isTupE e'
    | _ => false
  | .aug i op e, sc, fb, s => match s with
    | .AugAssign (.Name x _) op' e' _ => decide (op = op') && decide (op = .Add ∨ op = .Sub) && decide (N[i]? = some x) && locB sc fb x && chkE G N e sc fb e'
    | _ => false
  | .sub o i e, sc, fb, s => match s with
    | .Assign [.Subscript o' i' _] e' _ => chkE G N e sc fb e' && chkE G N o sc fb o' && chkE G N i sc fb i' && noComp e' && noSlice i'
    | _ => false
  | .ife c a b, sc, fb, s => match s with
    | .If c' a' b' _ => chkE G N c sc fb c' && chkSs a sc fb a' && chkSs b sc fb b'
    | _ => false
  | .forr tg it body, sc, fb, s => match s with
    | .For t i b [] _ => chkI G N it sc fb (isTupT t) i && tgC N (locB sc fb) t tg && chkSs body sc fb b && !isSetE i
    | _ => false
  | .whil c body, sc, fb, s => match s with
    | .While c' b [] _ => chkE G N c sc fb c' && chkSs body sc fb b
    | _ => false
  | .raise c, sc, _, s => match s with
    | .Raise (some (.Call (.Name x _) [.Constant (.str _) _ _] [] _)) none _ => decide (G.cid x = some c) && G.rai c && glB sc x && okName x
    | _ => false
  | .tryp i n body, sc, fb, s => match s with
    | .Try b [.ExceptHandler (some (.Name x _)) (some e) [.Assign [.Name y _] (.Name e2 _) _] _] [] [] _ => decide (G.cid x = some 0) && glB sc x && okName x && decide (i ≠ n) && decide (N[i]? = some e) && decide (N[n]? = some y) && decide (e2 = e) &&
        decide (sc.names.lookup e = some .local) && locB sc fb y && okName e && chkSs body sc fb b
    | _ => false
  | .lks _ s, sc, fb, st => chkS s sc fb st
def chkSs : LSs → Scope → (Str → Bool) → List Stmt → Bool
  | .nil, _, _, ss => ss.isEmpty
  | .cons a r, sc, fb, ss => match ss with
    | s :: ss' => chkS a sc fb s && chkSs r sc fb ss'
    | [] => false
end
end
theorem ss_doc {X : Cx} {C : Cc} {base : Nat} {W : Z.WX} {x : Str} {j : Nat} {pos pos' : Pos} : SS X C base W (.Expr (.Constant (.str x) j pos) pos') (fun τ st => .nx τ st) := ⟨ps_imp ps_doc fun D σ H ⟨A, τ, st, c, h⟩ => h σ H A .refl c⟩
theorem asg_sub {o i : Expr} {p : Pos} {env : Env} (h : noSlice i = true) (v : Value) : assign (.Subscript o i p) env v = (do
      let ov ← holding [v] (eval o env)
      let iv ← holding [v, ov] (eval i env)
      standAt p
      holding [v, ov, iv] (setItem ov iv v)
      release [v, ov, iv] []) := by
  cases i <;> first | rfl | cases h
section
variable {G : Glob} {N : List Str} {C : Cc} {M : Mach} {mg : Str → Option Value} {bs : Heap} {k : Nat}
variable (gl : Glb G C M mg bs k) (base : Nat)
include gl
/-- where statements stand -/
structure Stx (X : Cx) : Prop where
  s : X.stack = X.env :: X.outer
  f : X.env.frame = some X.env.locals
  e : X.ex = []
theorem tg_ok {X : Cx} {W : Z.WX} {sc : Scope} {fb : Str → Bool} {t : Expr} {tg : Tg} (c : Ctx G C mg bs k N X W sc fb) (h : tgC N (locB sc fb) t tg = true) : PG X t (gOf C.K tg) := by
  have q := pg_of (X := X) (loc := locB sc fb) c.ok.nd c.ok.calm (fun x hx => by rw [c.sc, c.fb]; exact loc_of hx) (t := tg) (e := t) (by rw [c.N]; exact h)
  rw [c.ok.K] at q
  exact q
theorem tgl_ok {X : Cx} {W : Z.WX} {sc : Scope} {fb : Str → Bool} {es : List Expr} {n : Nat} {p : Pos} {ts : List Tg} (c : Ctx G C mg bs k N X W sc fb) (h : tgC N (locB sc fb) (.Tuple es n p) (.t ts) = true) : PG X (.Tuple es n p) (gLst C.K ts.length (gOfs C.K ts)) := by
  obtain ⟨h1, h2, h3⟩ := pgs_of (X := X) (loc := locB sc fb) c.ok.nd c.ok.calm (fun x hx => by rw [c.sc, c.fb]; exact loc_of hx) (ts := ts) (es := es) (by rw [c.N]; exact h)
  have q := pg_lst (X := X) (pos := p) (k := n) (n := ts.length) c.ok.calm h1 h2 h3
  rw [c.ok.K] at q
  exact q
mutual
theorem chkS_ok : ∀ (ls : LS) {X : Cx} {W : Z.WX} {sc : Scope} {fb : Str → Bool} {s : Stmt}, Ctx G C mg bs k N X W sc fb → sc.kind = .function → PassesOwn (model X.prog X.w) X.A X.env X.xe → Stx X → chkS G N ls sc fb s = true → SS X C base W s (ex M base ls)
  | .pass, X, W, sc, fb, s, c, hk, hp, sx, h => by
    simp only [chkS] at h
    split at h
    · exact ss_pass
    · exact ss_doc
    · cases h
  | .never, X, W, sc, fb, s, c, hk, hp, sx, h => ss_never
  | .cont, X, W, sc, fb, s, c, hk, hp, sx, h => by
    simp only [chkS] at h
    split at h
    · exact ss_cont
    · cases h
  | .expr e, X, W, sc, fb, s, c, hk, hp, sx, h => by
    simp only [chkS] at h
    split at h
    · simp only [Bool.and_eq_true] at h
      exact ss_expr (chkE_ok gl base e c h.1) h.2
    · cases h
  | .ret e, X, W, sc, fb, s, c, hk, hp, sx, h => by
    simp only [chkS] at h
    split at h
    · exact ss_ret (chkE_ok gl base e c h)
    · cases h
  | .retn, X, W, sc, fb, s, c, hk, hp, sx, h => by
    simp only [chkS] at h
    split at h
    · exact ss_retn
    · cases h
  | .set tg e, X, W, sc, fb, s, c, hk, hp, sx, h => by
    simp only [chkS] at h
    split at h
    · rename_i x p e' pos
      split at h
      · rename_i i
        simp only [Bool.and_eq_true, decide_eq_true_eq, Bool.or_eq_true] at h
        obtain ⟨⟨⟨h1, h2⟩, h3⟩, h4⟩ := h
        have hi : X.N[i]? = some x := by rw [c.N]; exact h1
        have hx : Loc X.env.scope x := by rw [c.sc]; exact (loc_of h2).1
        have hf : X.fn x = true ∨ X.env.scope.names.lookup x = some .local := by rw [c.sc, c.fb]; exact (loc_of h2).2
        rcases h4 with h4 | h4
        · exact ss_setN c.ok hi hx hf (chkE_ok gl base e c h3) (swaps_no h4)
        · split at h4
          · rename_i ce t0 i0 f0 scope cpos fr own elt tg it cs
            cases hs : swB sc x p scope cpos with
            | false =>
              refine ss_setN c.ok hi hx hf (chkE_ok gl base _ c h3) ?_
              rw [sw_eq (by rw [c.sc]; exact hk), c.sc, hs]
            | true =>
              have q := cpOk_of gl base c h3
              have hyl : X.env.scope.names.lookup x = some .local := by
                rw [c.sc]
                simp only [swB, Bool.and_eq_true] at hs
                exact eq_of_beq hs.1.1
              have z := ss_setC (fr := fr) (py := p) (spos := pos) (pos := cpos) c.ok hi hyl (by rw [sw_eq (by rw [c.sc]; exact hk), c.sc, hs]) q.hi q.ok q.hg q.ht q.hl q.he (by rw [q.oq]; exact q.hsl) q.hs
              rw [q.oq] at z
              exact z
          · cases h4
      · cases h
    · simp only [Bool.and_eq_true, Bool.not_eq_true'] at h
      exact ss_setT (tg_ok gl c h.1.1.1) (chkE_ok gl base e c h.1.1.2) h.1.2 h.2
    · cases h
  | .setl ts e, X, W, sc, fb, s, c, hk, hp, sx, h => by
    simp only [chkS] at h
    split at h
    · simp only [Bool.and_eq_true, Bool.not_eq_true'] at h
      exact ss_setL (tgl_ok gl c h.1.1.1) (chkE_ok gl base e c h.1.1.2) h.1.2 h.2
    · cases h
  | .aug i op e, X, W, sc, fb, s, c, hk, hp, sx, h => by
    simp only [chkS] at h
    split at h
    · rename_i x p op' e' pos
      simp only [Bool.and_eq_true, decide_eq_true_eq] at h
      obtain ⟨⟨⟨⟨rfl, h1⟩, h2⟩, h3⟩, h4⟩ := h
      exact ss_aug c.ok h1 (by rw [c.N]; exact h2) (by rw [c.sc]; exact (loc_of h3).1) (by rw [c.sc, c.fb]; exact (loc_of h3).2) (chkE_ok gl base e c h4)
    · cases h
  | .sub o i e, X, W, sc, fb, s, c, hk, hp, sx, h => by
    simp only [chkS] at h
    split at h
    · simp only [Bool.and_eq_true] at h
      obtain ⟨⟨⟨⟨h1, h2⟩, h3⟩, h4⟩, h5⟩ := h
      exact ss_sub c.ok (chkE_ok gl base e c h1) (chkE_ok gl base o c h2) (chkE_ok gl base i c h3) h4 (asg_sub h5)
    · cases h
  | .ife x a b, X, W, sc, fb, s, c, hk, hp, sx, h => by
    simp only [chkS] at h
    split at h
    · simp only [Bool.and_eq_true] at h
      exact ss_if (chkE_ok gl base x c h.1.1) (chkSs_ok a c hk hp sx h.1.2) (chkSs_ok b c hk hp sx h.2)
    · cases h
  | .forr tg it body, X, W, sc, fb, s, c, hk, hp, sx, h => by
    simp only [chkS] at h
    split at h
    · simp only [Bool.and_eq_true, Bool.not_eq_true'] at h
      obtain ⟨⟨⟨h1, h2⟩, h3⟩, h4⟩ := h
      exact ss_for c.ok hp (chkI_ok gl base it c h1) (tg_ok gl c h2) (chkSs_ok body c hk hp sx h3) (fold_no h4)
    · cases h
  | .whil x body, X, W, sc, fb, s, c, hk, hp, sx, h => by
    simp only [chkS] at h
    split at h
    · simp only [Bool.and_eq_true] at h
      exact ss_while c.ok hp (chkE_ok gl base x c h.1) (chkSs_ok body c hk hp sx h.2)
    · cases h
  | .raise q, X, W, sc, fb, s, c, hk, hp, sx, h => by
    simp only [chkS] at h
    split at h
    · simp only [Bool.and_eq_true, decide_eq_true_eq] at h
      obtain ⟨⟨⟨h1, h2⟩, h3⟩, h4⟩ := h
      obtain ⟨a, g1, g2⟩ := gl.rai _ _ h1 h2
      exact ss_raise c.ok c.tk g1 (gl.exf _ _ g1) (by rw [c.mg]; exact g2) (gl_of c.sc h3) (okn h4).1
    · cases h
  | .tryp i n body, X, W, sc, fb, s, c, hk, hp, sx, h => by
    simp only [chkS] at h
    split at h
    · simp only [Bool.and_eq_true, decide_eq_true_eq] at h
      obtain ⟨⟨⟨⟨⟨⟨⟨⟨⟨⟨h1, h2⟩, h3⟩, h4⟩, h5⟩, h6⟩, rfl⟩, h7⟩, h8⟩, h9⟩, h10⟩ := h
      obtain ⟨b, q⟩ := gl.cls _ _ h1
      refine ss_try c.ok c.tk sx.s sx.f sx.e h4 (by rw [c.N]; exact h5) (by rw [c.N]; exact h6) (by rw [c.sc]; exact h7) (by rw [c.sc]; exact (loc_of h8).1) (by rw [c.sc, c.fb]; exact (loc_of h8).2) h9 (gl_of c.sc h2) (okn h3).1 (by rw [c.mg]; exact q.1) (fun kk a ha => gl.bas _ h1 b q.1 kk a ha) fun W2 pn xe t2 ph => ?_
      have c2 : Ctx G C mg bs k N (X.tr pn xe) W2 sc fb := ⟨⟨c.ok.prog, c.ok.w, c.ok.K, c.ok.nd, c.ok.units, c.ok.guards, c.ok.calm⟩, c.N, c.sc, c.fb, c.mg, c.bs, c.room, t2, fun h => ⟨(c.lam h).ex⟩⟩
      exact chkSs_ok body c2 hk ph ⟨sx.s, sx.f, sx.e⟩ h10
    · cases h
  | .lks i s, X, W, sc, fb, st, c, hk, hp, sx, h => ss_lks (chkS_ok s c hk hp sx (by simpa only [chkS] using h))
theorem chkSs_ok : ∀ (ls : LSs) {X : Cx} {W : Z.WX} {sc : Scope} {fb : Str → Bool} {s : List Stmt}, Ctx G C mg bs k N X W sc fb → sc.kind = .function → PassesOwn (model X.prog X.w) X.A X.env X.xe → Stx X → chkSs G N ls sc fb s = true → SSs X C base W s (exs M base ls)
  | .nil, X, W, sc, fb, s, c, hk, hp, sx, h => by
    simp only [chkSs, List.isEmpty_iff] at h
    subst h
    exact sss_nil
  | .cons a r, X, W, sc, fb, s, c, hk, hp, sx, h => by
    simp only [chkSs] at h
    split at h
    · simp only [Bool.and_eq_true] at h
      exact sss_cons (chkS_ok a c hk hp sx h.1) (chkSs_ok r c hk hp sx h.2)
    · cases h
end
end
/-! ### binding of plain parameters -/
theorem zip_some : ∀ {names : List Str} {us : List Value} {n : Str}, names.length = us.length → n ∈ names → ((names.zip us).lookup n).isSome = true
  | [], _, _, _, h => by cases h
  | a :: r, [], _, h, _ => by simp at h
  | a :: r, u :: us, n, h, hn => by
    simp only [List.zip_cons_cons, List.lookup_cons]
    by_cases e : n = a
    · subst e; simp
    · have : (n == a) = false := by simpa using e
      simp only [this]
      exact zip_some (by simpa using h) (by rcases List.mem_cons.mp hn with q | q; exact absurd q e; exact q)
theorem zip_back : ∀ {names : List Str} {us : List Value} {l : List (Str × Value)}, names.Nodup → names.length = us.length → (∀ n ∈ names, l.lookup n = (names.zip us).lookup n) → names.filterMap (fun n => (l.lookup n).map fun v => (n, v)) = names.zip us
  | [], _, _, _, _, _ => rfl
  | a :: r, [], _, _, h, _ => by simp at h
  | a :: r, u :: us, l, nd, h, hl => by
    have e0 : l.lookup a = some u := by rw [hl a (by simp)]; simp
    simp only [List.filterMap_cons, e0, Option.map_some, List.zip_cons_cons]
    congr 1
    refine zip_back (List.nodup_cons.mp nd).2 (by simpa using h) fun n hn => ?_
    rw [hl n (List.mem_cons_of_mem _ hn)]
    have : (n == a) = false := by
      have : n ≠ a := fun e => (List.nodup_cons.mp nd).1 (e ▸ hn)
      simpa using this
    simp [List.lookup_cons, this]
def plainArgs (a : Arguments) : Bool := a.posonlyargs.isEmpty && a.vararg.isNone && a.kwonlyargs.isEmpty && a.kw_defaults.isEmpty && a.kwarg.isNone && a.defaults.isEmpty
theorem bind_plain {x q : Str} {pa : Arguments} {body : List Stmt} {scope : Scope} {kV doc pm : Value} {an : Option Addr} {cdv ct : Value} {us : List Value} (hp : plainArgs pa = true) (nd : (pa.args.map (·.arg)).Nodup) (hl : us.length = pa.args.length) :
    bindArgs (PySem.W.fnOf x q pa body scope .none kV doc pm an cdv ct) ⟨us, []⟩ = pure ((pa.args.map (·.arg)).zip us) := by
  obtain ⟨po, args, va, ko, kd, kw, df⟩ := pa
  simp only [plainArgs, Bool.and_eq_true, List.isEmpty_iff, Option.isNone_iff_eq_none] at hp
  obtain ⟨⟨⟨⟨⟨rfl, rfl⟩, rfl⟩, rfl⟩, rfl⟩, rfl⟩ := hp
  have h1 : ((args.map (·.arg)).filter fun n => (((args.map (·.arg)).zip us).lookup n).isNone) = [] := by
    rw [List.filter_eq_nil_iff]
    intro n hn
    have := zip_some (us := us) (by simp [hl]) hn
    cases e : ((args.map (·.arg)).zip us).lookup n with
    | none => rw [e] at this; cases this
    | some _ => simp
  have h2 := zip_back (us := us) (l := (args.map (·.arg)).zip us) nd (by simp [hl]) fun _ _ => rfl
  unfold bindArgs
  have e0 : notAStandIn Value.none = pure () := by rfl
  simp only [seqItems?, PySem.W.fnOf, e0, pure_bind, List.map_nil, List.nil_append, hl, List.length_map, List.append_nil]
  generalize hn : args.map (·.arg) = names at *
  have hl2 : args.length = names.length := by rw [← hn]; simp
  simp [h1, h2, hl2]
/-! ### the defs of a module -/
structure Def where
  i : Nat
  g : Str
  x : Str
  lam : Bool
  s : Stmt
  F : Fn
  N : List Str
def Def.ps (d : Def) : List Str := d.N.take d.F.np
def getD (T : List Def) (f : Nat) : Option Def := T.find? fun d => d.i == f
def tbl (T : List Def) : Nat → Option Fn := fun f => (getD T f).map (·.F)
theorem getD_mem {T : List Def} {f : Nat} {d : Def} (h : getD T f = some d) : d ∈ T := List.mem_of_find?_eq_some h
def chkD (G : Glob) (d : Def) : Bool := plainArgs (defArgs d.s) && decide ((defArgs d.s).args.map (·.arg) = d.ps) && decide (d.F.np ≤ d.N.length) && decide (d.F.nl = d.N.length) && fscB d.N d.ps (defScope d.s) && chkSs { G with lam := d.lam } d.N d.F.body (defScope d.s) (fun _ => true) (defBody d.s)
/-- where the defs stand -/
def faOf (T : List Def) (mg : Str → Option Value) : Nat → Option Addr := fun f => (getD T f).bind fun d => match mg d.g with
  | some (.ref a) => some a
  | _ => none
/-- where the classes stand that are raised -/
def caOf (G : Glob) (mg : Str → Option Value) : Nat → Option Addr := fun k => if G.rai k = true then (G.cn k).bind fun x => match mg x with
  | some (.ref a) => some a
  | _ => none else none
theorem caOf_inv {G : Glob} {mg : Str → Option Value} {k : Nat} {a : Addr} (h : caOf G mg k = some a) : ∃ x, G.rai k = true ∧ G.cn k = some x ∧ mg x = some (.ref a) := by
  unfold caOf at h
  split at h
  · rename_i hr
    rw [Option.bind_eq_some_iff] at h
    obtain ⟨x, h1, h2⟩ := h
    refine ⟨x, hr, h1, ?_⟩
    split at h2
    · rename_i b e
      cases h2; exact e
    · cases h2
  · cases h
/-- what the written part says of a module -/
structure Mdl (G : Glob) (T : List Def) (con : Nat → Option PyData) (K : PySem.W.Frag) (w : World) (mg : Str → Option Value) : Prop where
  dic : ∀ x n, G.dic x = some n → ∃ a, mg x = some (.ref a) ∧ ∀ s y, kgetU (con n) (.d (.str s)) = some y → ∃ v, KDct K w a s v ∧ ∀ H, Rp K w H v y
  cls : ∀ y d, G.cid y = some d → G.cn d = some y ∧ ∃ b, mg y = some (.ref b) ∧ ∀ k a, caOf G mg k = some a → PySem.W.kitOne K (.ref a) (.ref b) = some (subE k d)
  exf : ∀ k a, caOf G mg k = some a → ExF K a
  bas : ∀ y b0, G.cid y = some 0 → mg y = some (.ref b0) → ∀ k a, caOf G mg k = some a → PySem.W.exmOne K (.ref a) (.ref b0) = some true
  con : ∀ x n, G.con x = some n → ∃ u, mg x = some u ∧ ∀ y, con n = some y → ∃ v, RelV v u ∧ ∀ H, Rp K w H v y
  free : ∀ x, G.free x = true → mg x = none
  fn : ∀ x f, G.fn x = some f → ∃ d : Def, getD T f = some d ∧ d.g = x
  funs : ∀ (f : Nat) (d : Def), getD T f = some d → ∃ a fd, mg d.g = some (.ref a) ∧ Fun K d.x d.x d.s a fd
  chk : ∀ d ∈ T, chkD G d = true
theorem leave_bad {base : Nat} : leave base .bad = .bad := rfl
theorem all_fns {G : Glob} {T : List Def} {con : Nat → Option PyData} {K : PySem.W.Frag} {w : World} {mg : Str → Option Value} {P : Program} {bs : Heap} {fuel : Nat} {tb : List (Addr × Str)} (D : Mdl G T con K w mg)
    (LT : ∀ (f : Nat) (d : Def), getD T f = some d → d.lam = true → ∀ (a : Addr) (fd : FuncData), mg d.g = some (.ref a) → Fun K d.x d.x d.s a fd → ∃ c P, fd.code = .ref c ∧ LamX.TabB bs mg c P ∧ (P, d.x ++ ".<locals>." ++ "<lambda>") ∈ tb ∧ ∀ p ∈ tb, p.1 = P → p.2 = d.x ++ ".<locals>." ++ "<lambda>") :
    ∀ (n f : Nat) (d : Def), getD T f = some d → ∀ (a : Addr) (fd : FuncData), mg d.g = some (.ref a) → Fun K d.x d.x d.s a fd → FnG P w K mg bs n a fd d.ps (spZ ⟨P, w, K, faOf T mg, caOf G mg, tb⟩ (run (tbl T) con fuel n f)) := by
  intro n
  induction n with
  | zero =>
    intro f d hd a fd hmg F
    refine ⟨fun vs H Q E h => ?_, fun B fr s H args us vs Q E hr hg e0 hb rv h => ?_⟩
    · obtain ⟨A, st, xs, c, r, q⟩ := h; exact q.elim
    · obtain ⟨A, st, xs, c, r, q⟩ := h; exact q.elim
  | succ n ih =>
    intro f d hd a fd hmg F
    have hc := D.chk d (getD_mem hd)
    simp only [chkD, Bool.and_eq_true, decide_eq_true_eq] at hc
    obtain ⟨⟨⟨⟨⟨c1, c2⟩, c3⟩, c4⟩, c5⟩, c6⟩ := hc
    have S := fsc_ok c5
    have eT : tbl T f = some d.F := by unfold tbl; rw [hd]; rfl
    have pl : d.ps.length = d.F.np := by unfold Def.ps; rw [List.length_take]; omega
    have body : ∀ (xs : List U) (st : Store) (A : List Addr) (H : Hp) (Q : VK) (E : XK), AftC ⟨P, w, K, faOf T mg, caOf G mg, tb⟩ A H (run (tbl T) con fuel (n + 1) f xs st) Q E → xs.length = d.F.np ∧
        AftC ⟨P, w, K, faOf T mg, caOf G mg, tb⟩ A H (leave st.length (exs ⟨con, run (tbl T) con fuel n, fuel⟩ st.length d.F.body (xs.map some ++ List.replicate (d.F.nl - d.F.np) none) st)) Q E := by
      intro xs st A H Q E h
      have e : run (tbl T) con fuel (n + 1) f xs st = (if xs.length = d.F.np then leave st.length (exs ⟨con, run (tbl T) con fuel n, fuel⟩ st.length d.F.body (xs.map some ++ List.replicate (d.F.nl - d.F.np) none) st) else .bad) := by
        conv => lhs; unfold run
        rw [eT]
        rfl
      rw [e] at h
      by_cases hl : xs.length = d.F.np
      · rw [if_pos hl] at h; exact ⟨hl, h⟩
      · rw [if_neg hl] at h; exact h.elim
    refine fnG_of F S (fun vs H Q E h => ?_) fun cdv B fr s H vs Q E hcode hr hg h => ?_
    · obtain ⟨A, st, xs, c, r, q⟩ := h
      rw [us_len r, (body _ _ _ _ _ _ q).1, pl]
    · obtain ⟨A, st, xs, c, r, q⟩ := h
      obtain ⟨hl, q⟩ := body _ _ _ _ _ _ q
      have gl : Glb G ⟨P, w, K, faOf T mg, caOf G mg, tb⟩ ⟨con, run (tbl T) con fuel n, fuel⟩ mg bs n := by
        have fnv : ∀ (g : Nat) (d' : Def), getD T g = some d' → ∃ b fd', mg d'.g = some (.ref b) ∧ faOf T mg g = some b ∧ PySem.W.keepIn K (.ref b) = true ∧ FnG P w K mg bs n b fd' d'.ps (spZ ⟨P, w, K, faOf T mg, caOf G mg, tb⟩ (run (tbl T) con fuel n g)) ∧ Binds K fd' d'.ps [] := by
          intro g d' e1
          obtain ⟨b, fd', e3, F'⟩ := D.funs g d' e1
          have hc' := D.chk d' (getD_mem e1)
          simp only [chkD, Bool.and_eq_true, decide_eq_true_eq] at hc'
          obtain ⟨⟨⟨⟨⟨c1', c2'⟩, c3'⟩, c4'⟩, c5'⟩, c6'⟩ := hc'
          refine ⟨b, fd', e3, ?_, F'.kp, ih g d' e1 b fd' e3 F', ?_⟩
          · unfold faOf
            rw [e1]
            show (match mg d'.g with | some (.ref a) => some a | _ => none) = some b
            rw [e3]
          · refine F'.binds fun kV doc pm an cdv ct us hl => ?_
            rw [← c2'] at hl ⊢
            exact bind_plain c1' (by rw [c2']; exact (fsc_ok c5').pre ▸ (fsc_ok c5').nd.sublist (List.take_sublist _ _)) (by simpa using hl)
        refine ⟨D.con, D.free, D.dic, fun y d h => ?_, D.exf, fun y h b0 hb => D.bas y b0 h hb, fun y d h hr => ?_, fun g a ha => ?_, fun x g hx => ?_⟩
        · obtain ⟨_, b, h1, h2⟩ := D.cls y d h
          exact ⟨b, h1, h2⟩
        · obtain ⟨h0, b, h1, h2⟩ := D.cls y d h
          refine ⟨b, ?_, h1⟩
          show caOf G mg d = some b
          unfold caOf
          rw [if_pos hr, h0]
          show (match mg y with | some (.ref a) => some a | _ => none) = some b
          rw [h1]
        · cases e1 : getD T g with
          | none =>
            have : faOf T mg g = none := by unfold faOf; rw [e1]; rfl
            rw [show faOf T mg g = some a from ha] at this
            cases this
          | some d' =>
            obtain ⟨b, fd', _, h2, h3, h4, h5⟩ := fnv g d' e1
            rw [show faOf T mg g = some a from ha] at h2
            cases h2
            exact ⟨fd', d'.ps, h3, h4, h5⟩
        obtain ⟨d', e1, e2⟩ := D.fn x g hx
        obtain ⟨b, fd', h1, h2, h3, h4, h5⟩ := fnv g d' e1
        exact ⟨b, fd', d'.ps, by rw [← e2]; exact h1, h3, h2, h4, h5⟩
      have gl2 : Glb { G with lam := d.lam } ⟨P, w, K, faOf T mg, caOf G mg, tb⟩ ⟨con, run (tbl T) con fuel n, fuel⟩ mg bs n := ⟨gl.con, gl.free, gl.dic, gl.cls, gl.exf, gl.bas, gl.rai, gl.fnv, gl.fn⟩
      have cx : Ctx { G with lam := d.lam } ⟨P, w, K, faOf T mg, caOf G mg, tb⟩ mg bs n d.N (cxOf (L2.CX P w) P w K mg bs d.N d.x (defScope d.s) a cdv B fr s H E) (fun cls d _ H => E cls d H) (defScope d.s) (fun _ => true) := by
        refine ⟨⟨rfl, rfl, rfl, S.nd, ?_, hg, rfl⟩, rfl, rfl, rfl, rfl, rfl, hr, takes_of rfl rfl rfl rfl, fun hl => ?_⟩
        · have := hr.un
          show (B.deeper _).units + 100 < cLine
          omega
        · obtain ⟨c, P, l1, l2, l3, l4⟩ := LT f d hd hl a fd hmg F
          rw [hcode] at l1
          exact ⟨c, P, l1, l2, l3, l4⟩
      have hp : PassesOwn (model P w) (cxOf (L2.CX P w) P w K mg bs d.N d.x (defScope d.s) a cdv B fr s H E).A (cxOf (L2.CX P w) P w K mg bs d.N d.x (defScope d.s) a cdv B fr s H E).env (cxOf (L2.CX P w) P w K mg bs d.N d.x (defScope d.s) a cdv B fr s H E).xe :=
        passes_of (X := cxOf (L2.CX P w) P w K mg bs d.N d.x (defScope d.s) a cdv B fr s H E) rfl
      refine ⟨_, (chkSs_ok gl2 st.length d.F.body cx S.kind hp ⟨rfl, rfl, rfl⟩ c6).run, A, _, st, ?_, leave_run c.len q⟩
      unfold L2.start
      exact c.enter r (by rw [us_len r, hl, c4])
end Z
/-! ZG: from the script to the answer. -/
namespace Z
open PySem PySem.Spec PyProof.Rows L2
/-- nothing is tracked but what stays -/
def OnlyZ (H : Hp) : Prop := ∀ b, H b = none ∨ (∃ o u, H b = some (.frz o u)) ∨ ∃ ps, H b = some (.tbl ps)
/-- the law's own call, from its promise -/
theorem law_go {P : Program} {w : World} {K : PySem.W.Frag} {mg mb : Str → Option Value} {n : Nat} {tb : List (Addr × Str)} {fa sa : Addr} {fd : FuncData} {x : Str} {sp : Sp} {s : Shared} {us : List Value} {ns : List Int}
    (inK : K.In s.heap) (hm : s.heap.Ns mainGlobals mg) (hbn : s.heap.Ns builtinsNs mb) (hbt : ∀ x : Str, x ≠ "__name__" → mb x = bootBuiltins x) (noLim : s.heap.NoLimit) (hgn : s.gens = #[]) (hsys : SysPhi s.heap)
    (hsc : s.heap.get? sa = some { cls := .type "list", data := .seq us.toArray }) (hin : IntsAre us ns) (hlen : ns.length ≤ sizeLine) (room : Room n callerA)
    (hT : ∀ p ∈ tb, s.heap.get? p.1 = some { cls := .none, data := .fields #[] }) (nT : ∀ p ∈ tb, K.lookup p.1 = none) (CT : ∀ p ∈ tb, ∃ c, PySem.W.CodeHd s.heap c p.1)
    (hbm : ∃ (bm : Addr) (ob : Obj), mg "__builtins__" = some (.ref bm) ∧ bm ≠ builtinsNs ∧ s.heap.get? bm = some ob ∧ ob.cls = .type "module" ∧ ob.dict = some builtinsNs ∧ ob.data = .plain)
    (F : ∀ bs : Heap, K.In bs → bs.Ns mainGlobals mg → (∀ p ∈ tb, ∀ c, PySem.W.CodeHd s.heap c p.1 → LamX.TabB bs mg c p.1) → FnG P w K mg bs n fa fd [x] sp) (bnd : ∀ (s : Shared) (u : Value), BindsTo s fd ⟨[u], []⟩ [(x, u)])
    (law : ∀ H : Hp, OnlyZ H → SysOk K H → LamX.Tabs tb H → SqL K H sa (ns.map V.int) → sp [.ref sa] H (fun v _ => v = .bl true) fun _ _ _ => False) :
    codeAny (model P w) callerA (.call (.ref fa) ⟨[.ref sa], []⟩) (fun r s' => r = .ok (.ret (.bool true)) ∧ OldK s.heap s'.heap ∧ s'.os = s.os ∧ AllBare s'.gens) s := by
  have rel := vals_ints hin
  have cnt := hin.length
  obtain ⟨os, des, dep, hos, hod⟩ := id hsys
  have sne : sysModules ≠ sa := fun e => by rw [e, hsc] at hos; cases hos; cases hod
  obtain ⟨H, hH⟩ : ∃ H : Hp, H = fun b => if b = sa ∧ (K.lookup sa).isNone = true then some (.frz { cls := .type "list", data := .seq us.toArray } (.lst (ns.map V.int))) else
    if b = sysModules ∧ (K.lookup sysModules).isNone = true then some (.frz os (.ext SysPhi)) else if b ∈ tb.map (·.1) then some (.tbl #[]) else none := ⟨_, rfl⟩
  have isT : ∀ b : Addr, b ∈ tb.map (·.1) → s.heap.get? b = some { cls := .none, data := .fields #[] } := fun b hb => by
    obtain ⟨p, hp, e⟩ := List.mem_map.mp hb
    rw [← e]
    exact hT p hp
  have saT : sa ∉ tb.map (·.1) := fun z => by
    have q := isT sa z
    rw [hsc] at q
    cases (show Data.seq us.toArray _ = Data.fields #[] from congrArg Obj.data (Option.some.inj q))
  have syT : sysModules ∉ tb.map (·.1) := fun z => by
    have q := isT _ z
    rw [hos] at q
    have q2 := congrArg Obj.data (Option.some.inj q)
    rw [hod] at q2
    cases q2
  have cases3 : ∀ b u, H b = some u → (b = sa ∧ K.lookup sa = none ∧ u = .frz { cls := .type "list", data := .seq us.toArray } (.lst (ns.map V.int))) ∨ (b = sysModules ∧ K.lookup sysModules = none ∧ u = .frz os (.ext SysPhi)) ∨ (b ∈ tb.map (·.1) ∧ K.lookup b = none ∧ u = .tbl #[]) := fun b u e => by
    rw [hH] at e
    dsimp only at e
    split at e
    · rename_i h
      cases e
      exact .inl ⟨h.1, by simpa using h.2, rfl⟩
    · split at e
      · rename_i h
        cases e
        exact .inr (.inl ⟨h.1, by simpa using h.2, rfl⟩)
      · split at e
        · rename_i h
          cases e
          obtain ⟨p, hp, e⟩ := List.mem_map.mp h
          exact .inr (.inr ⟨h, e ▸ nT p hp, rfl⟩)
        · cases e
  have only : OnlyZ H := fun b => by
    cases e : H b with
    | none => exact .inl rfl
    | some u =>
      rcases cases3 b u e with ⟨_, _, rfl⟩ | ⟨_, _, rfl⟩ | ⟨_, _, rfl⟩
      · exact .inr (.inl ⟨_, _, rfl⟩)
      · exact .inr (.inl ⟨_, _, rfl⟩)
      · exact .inr (.inr ⟨_, rfl⟩)
  have notK : ∀ b u, H b = some u → K.lookup b = none := fun b u e => by
    rcases cases3 b u e with ⟨rfl, h, _⟩ | ⟨rfl, h, _⟩ | ⟨_, h, _⟩ <;> exact h
  have hok : HOk P w H s.heap := fun b u e => by
    rcases cases3 b u e with ⟨rfl, _, rfl⟩ | ⟨rfl, _, rfl⟩ | ⟨h, _, rfl⟩
    · exact ⟨hsc, by rw [List.length_map]; exact hlen, us, _, rel, hsc⟩
    · refine ⟨hos, hsys, ⟨os, hos⟩, fun h1 h2 q k => ?_⟩
      obtain ⟨o, es, ep, h3, h4⟩ := q
      exact ⟨o, es, ep, k o h3, h4⟩
    · exact isT b h
  have sq : SqL K H sa (ns.map V.int) := by
    cases e : K.lookup sa with
    | none => exact .inl (.inr ⟨_, by rw [hH]; exact if_pos ⟨rfl, by rw [e]; rfl⟩⟩)
    | some o =>
      have q := inK sa o e
      rw [hsc] at q
      cases q
      exact .inr ⟨_, us.toArray, _, e, rfl, rfl, rfl, by rw [List.size_toArray, cnt]; exact hlen, by simpa using rel⟩
  have sys : SysOk K H := by
    cases e : K.lookup sysModules with
    | none => exact .inl ⟨os, by rw [hH]; dsimp only; rw [if_neg (fun z => sne z.1)]; exact if_pos ⟨rfl, by rw [e]; rfl⟩⟩
    | some o =>
      have q := inK sysModules o e
      rw [hos] at q
      cases q
      exact .inr ⟨os, des, dep, e, hod⟩
  have free_of : ∀ {b : Addr} {o : Obj}, s.heap.get? b = some o → (∀ u, H b = some u → False) → (hidT s.heap H).get? b = some o := fun {b o} e z => hidT_get e (by
    cases q : H b with
    | none => rfl
    | some u => exact (z u q).elim)
  have nsB : ∀ {b : Addr} {m : Str → Option Value}, b ≠ sysModules → s.heap.Ns b m → (hidT s.heap H).Ns b m := by
    intro b m hne h
    obtain ⟨o, es, ep, e, d, r⟩ := h
    refine ⟨o, es, ep, free_of e fun u z => ?_, d, r⟩
    rcases cases3 b u z with ⟨rfl, _, _⟩ | ⟨q, _, _⟩ | ⟨q, _, _⟩
    · rw [hsc] at e
      cases e
      cases (show Data.seq us.toArray _ = Data.dict es ep from d)
    · exact hne q
    · rw [isT b q] at e
      cases e
      cases d
  have kIn : K.In (hidT s.heap H) := by
    intro b o e
    refine free_of (inK b o e) fun u z => ?_
    rw [notK b u z] at e
    cases e
  obtain ⟨mc, l1, l2⟩ := noLim
  have start0 : Env0 P w K mg (hidT s.heap H) callerA [] s H :=
    ⟨rfl, ⟨kIn, nsB (by decide) hm, ⟨mb, nsB (by decide) hbn, hbt⟩, ⟨mc, nsB (by decide) l1, l2⟩⟩, fun b o e => of_hidT e, Nat.le_of_eq (hidT_size _ _), trivial, fun b hb => (List.not_mem_nil hb).elim, hok, .of_eq hgn⟩
  have tabs : LamX.Tabs tb H := fun p hp => by
    refine LamX.TabS.nil ?_
    have hm1 : p.1 ∈ tb.map (·.1) := List.mem_map.mpr ⟨p, hp, rfl⟩
    rw [hH]
    dsimp only
    rw [if_neg (fun z => saT (by rw [← z.1]; exact hm1)), if_neg (fun z => syT (by rw [← z.1]; exact hm1)), if_pos hm1]
  have TB : ∀ p ∈ tb, ∀ c, PySem.W.CodeHd s.heap c p.1 → LamX.TabB (hidT s.heap H) mg c p.1 := fun p hp c Cc => by
    have hTp := hT p hp
    refine ⟨?_, ?_, fun z => ?_⟩
    · obtain ⟨o, vs, file, tf, flags, tg, inF, text, tt, e1, r1, r2, r3, r4, r5, r6, r7, r8, hne⟩ := Cc
      refine ⟨o, vs, file, tf, flags, tg, inF, text, tt, free_of e1 fun u z => ?_, r1, r2, r3, r4, r5, r6, r7, r8, hne⟩
      rcases cases3 c u z with ⟨rfl, _, _⟩ | ⟨rfl, _, _⟩ | ⟨q, _, _⟩
      · rw [hsc] at e1
        cases e1
        cases r2
      · rw [hos] at e1
        cases e1
        rw [hod] at r2
        cases r2
      · rw [isT c q] at e1
        cases e1
        cases r2
        simp at r3
    · obtain ⟨bm, ob, b1, b2, b3, b4, b5, b6⟩ := hbm
      have nG : bm ≠ mainGlobals := fun q => by
        obtain ⟨o, es, ep, e, hd, _⟩ := hm
        rw [q, e] at b3
        cases b3
        rw [hd] at b6
        cases b6
      have nP : bm ≠ p.1 := fun q => by
        rw [q, hTp] at b3
        cases b3
        cases b6
      refine ⟨bm, ob, b1, b2, nG, nP, free_of b3 fun u z => ?_, b4, b5, b6⟩
      rcases cases3 bm u z with ⟨rfl, _, _⟩ | ⟨rfl, _, _⟩ | ⟨q, _, _⟩
      · rw [hsc] at b3
        cases b3
        cases b6
      · rw [hos] at b3
        cases b3
        rw [hod] at b6
        cases b6
      · rw [isT bm q] at b3
        cases b3
        cases b6
    · obtain ⟨o, es, ep, e, hd, _⟩ := hm
      rw [z, hTp] at e
      cases e
      cases hd
  refine codeAny_mono ((F _ kIn (nsB (by decide) hm) TB).go callerA [] s H ⟨[.ref sa], []⟩ [.ref sa] [.ref sa] _ _ room rfl start0 (bnd s (.ref sa)) (.cons rfl .nil) (law H only sys tabs sq)) fun r s' h => ?_
  cases r with
  | error e =>
    obtain ⟨_, _, _, _, _, _, _, _, _, _, _, _, z⟩ := h
    exact z.elim
  | ok fl =>
    cases fl with
    | next => exact h.elim
    | brk => exact h.elim
    | cont => exact h.elim
    | ret u =>
      obtain ⟨v, H', os', bare, un, hok', rv, q⟩ := h
      cases (show v = .bl true from q)
      cases (show u = Value.bool true from rv)
      have key : ∀ b o, b ∉ tb.map (·.1) → s.heap.get? b = some o → s'.heap.get? b = some o := fun b o nb e => by
        cases q : H b with
        | none => exact un.keep b o e q (fun z => (List.not_mem_nil z).elim) (fun z => (List.not_mem_nil z).elim)
        | some u =>
          have fz : ∀ {ob : Obj} {xs : HO}, H b = some (.frz ob xs) → s'.heap.get? b = some o := fun {ob xs} z => by
            obtain ⟨f1, _⟩ := hok b _ z
            obtain ⟨f2, _⟩ := hok' b _ (un.frzs b ob _ z)
            rw [e] at f1
            cases f1
            exact f2
          rcases cases3 b u q with ⟨_, _, rfl⟩ | ⟨_, _, rfl⟩ | ⟨z, _, _⟩
          · exact fz q
          · exact fz q
          · exact absurd z nb
      have atP : ∀ p ∈ tb, H p.1 = some (.tbl #[]) := fun p hp => by
        obtain ⟨ps, h1, _, _⟩ := tabs p hp
        rcases cases3 _ _ h1 with ⟨_, _, z⟩ | ⟨_, _, z⟩ | ⟨_, _, z⟩
        · cases z
        · cases z
        · rw [h1, z]
      have grown : ∀ p ∈ tb, ∃ more : Array Value, s'.heap.get? p.1 = some { cls := .none, data := .fields more } := fun p hp => by
        obtain ⟨more, z⟩ := un.tbls p.1 #[] (atP p hp)
        exact ⟨_, hok' p.1 _ z⟩
      refine ⟨rfl, ⟨fun b o e => ?_, fun b o e => ?_⟩, os', bare⟩
      · by_cases hb : b ∈ tb.map (·.1)
        · obtain ⟨p, hp, ep⟩ := List.mem_map.mp hb
          obtain ⟨more, hm⟩ := grown p hp
          obtain ⟨c, Cc⟩ := CT p hp
          rw [← ep] at e ⊢
          rw [hT p hp] at e
          cases e
          exact .inr (.inl ⟨(Cc.tab (hT p hp)).isCodeTable, rfl, #[], more, rfl, by rw [Array.empty_append]; exact hm⟩)
        · exact .inl (key b o hb e)
      · by_cases hb : b ∈ tb.map (·.1)
        · obtain ⟨p, hp, ep⟩ := List.mem_map.mp hb
          obtain ⟨more, hm⟩ := grown p hp
          rw [← ep]
          exact ⟨_, hm⟩
        · exact ⟨o, key b o hb e⟩
/-- the tables of the defs that make lambdas -/
def tbOf (K : PySem.W.Frag) (T : List Def) : List (Addr × Str) := T.filterMap fun d => if d.lam then (PySem.W.tabIn K d.g).map fun cp => (cp.2, d.x ++ ".<locals>." ++ "<lambda>") else none
/-- what is asked of them -/
structure TbOk (K : PySem.W.Frag) (T : List Def) : Prop where
  at_ : ∀ d ∈ T, d.lam = true → ∃ c P, PySem.W.tabIn K d.g = some (c, P) ∧ K.lookup P = none
  un : ∀ d ∈ T, ∀ d' ∈ T, d.lam = true → d'.lam = true → (PySem.W.tabIn K d.g).map (·.2) = (PySem.W.tabIn K d'.g).map (·.2) → d.x = d'.x
def tabOk (K : PySem.W.Frag) (x : Str) : Bool := match PySem.W.tabIn K x with
  | some (_, P) => (K.lookup P).isNone
  | none => false
def tabNe (K : PySem.W.Frag) (x y : Str) : Bool := match PySem.W.tabIn K x, PySem.W.tabIn K y with
  | some (_, P), some (_, Q) => P != Q
  | _, _ => false
theorem tabOk_at {K : PySem.W.Frag} {x : Str} (h : tabOk K x = true) : ∃ c P, PySem.W.tabIn K x = some (c, P) ∧ K.lookup P = none := by
  unfold tabOk at h
  split at h
  · rename_i c P e
    exact ⟨c, P, e, by simpa using h⟩
  · cases h
theorem tabNe_at {K : PySem.W.Frag} {x y : Str} (h : tabNe K x y = true) (e : (PySem.W.tabIn K x).map (·.2) = (PySem.W.tabIn K y).map (·.2)) : False := by
  unfold tabNe at h
  split at h
  · rename_i c P c' P' e1 e2
    rw [e1, e2] at e
    have : P = P' := Option.some.inj e
    simp [this] at h
  · cases h
/-- the whole: what is left is plain -/
theorem walk_zT {l : PySem.W.OpenLaw} {n k : Nat} {q : Program} {loose : List Str} {XP : (Str → Option Value) → Heap → Prop} {YP : World → Heap → Prop} {d : DefRec} {K : Params → PySem.W.Frag} {G : Glob} {T : List Def} {con : Nat → Option PyData} {fuel f : Nat} {D : Def}
    (hn : l.most = some n) (himp : importsNone q = true) (hn2 : n ≤ sizeLine) (hdf : d.params.defaults = []) (hr : Room k callerA) (hY : ∀ (w : World) (h : Heap), YP w h → (K w.params).In h)
    (hT : getD T f = some D) (hD : D.g = d.name) (hD2 : D.x = d.name) (hps : D.ps.length = 1) (hrec : (T.all fun d => !d.lam || ((recsOf q).find? fun e => e.name == d.g).isSome) = true)
    (M : ∀ (w : World) (mg : Str → Option Value) (h : Heap), (K w.params).In h → h.Ns mainGlobals mg → Mdl G T con (K w.params) w mg ∧ TbOk (K w.params) T)
    (law : ∀ ns : List Int, ns.length ≤ n → (∀ z ∈ ns, Builtin.Int.intBits z ≤ 1048576) → ∃ st, run (tbl T) con fuel k f [.d (.list (ns.map .int))] [] = .ok (.d (.bool true)) st) :
    PySem.W.WalkO q loose XP YP l.row.toRowW d [] (fun f vs => PySem.call f vs) := by
  refine Att.attach_callB hn hdf fun w s₀ s₁ mg mb fa o pm cd doc a vs ns Gr Y ho hd hcd hmg hobj hints hlen hbits hg => ?_
  have KX := hY w _ Y
  obtain ⟨Dm, Tk⟩ := M w mg _ KX Gr.T.g
  obtain ⟨a', fd, e1, Fu⟩ := Dm.funs f D hT
  have e1' := e1
  rw [hD, hmg] at e1
  cases e1
  obtain ⟨x, hx⟩ : ∃ x, D.ps = [x] := by
    cases e : D.ps with
    | nil => rw [e] at hps; cases hps
    | cons x r => cases r with
      | nil => exact ⟨x, rfl⟩
      | cons _ _ => rw [e] at hps; simp at hps
  have hc := Dm.chk D (getD_mem hT)
  simp only [chkD, Bool.and_eq_true, decide_eq_true_eq] at hc
  obtain ⟨⟨⟨⟨⟨c1, c2⟩, c3⟩, c4⟩, c5⟩, c6⟩ := hc
  have nd : ((defArgs D.s).args.map (·.arg)).Nodup := by rw [c2]; exact (fsc_ok c5).pre ▸ (fsc_ok c5).nd.sublist (List.take_sublist _ _)
  have hl1 : (defArgs D.s).args.length = 1 := by have := congrArg List.length c2; rw [hps] at this; simpa using this
  have mem : ∀ p ∈ tbOf (K w.params) T, ∃ d ∈ T, d.lam = true ∧ ∃ c, PySem.W.tabIn (K w.params) d.g = some (c, p.1) ∧ p.2 = d.x ++ ".<locals>." ++ "<lambda>" := fun p hp => by
    obtain ⟨d, hd, e⟩ := List.mem_filterMap.mp hp
    split at e
    · rename_i hl
      rw [Option.map_eq_some_iff] at e
      obtain ⟨cp, e1, rfl⟩ := e
      exact ⟨d, hd, hl, cp.1, e1, rfl⟩
    · cases e
  have at_ : ∀ d ∈ T, d.lam = true → ∀ {c P : Addr}, PySem.W.tabIn (K w.params) d.g = some (c, P) → PySem.W.CodeHd s₁.heap c P ∧ s₁.heap.get? P = some (PySem.W.tabObj #[]) := fun d hd hl {c P} e => by
    have h1 := List.all_eq_true.mp hrec d hd
    rw [hl] at h1
    obtain ⟨d0, h2⟩ := Option.isSome_iff_exists.mp (show ((recsOf q).find? fun e => e.name == d.g).isSome = true by simpa using h1)
    exact PySem.W.tab_of Gr.T KX h2 e
  refine law_go (x := x) (fd := fd) (tb := tbOf (K w.params) T) (sp := spZ ⟨l.prog, w, K w.params, faOf T mg, caOf G mg, tbOf (K w.params) T⟩ (run (tbl T) con fuel k f)) KX Gr.T.g Gr.T.b Gr.T.builtins Gr.T.nolimit hg (by obtain ⟨mm, h, _⟩ := (Gr.T.seer himp).mods; obtain ⟨o, es, ep, h1, h2, _⟩ := h; exact ⟨o, es, ep, h1, h2⟩) hobj hints (Nat.le_trans hlen hn2) hr (fun p hp => ?_) (fun p hp => ?_) (fun p hp => ?_) Gr.T.bmain (fun bs _ _ TB => ?_) (fun s u => ?_) fun H hO hY hTabs hS => ?_
  · obtain ⟨d, hd, hl, c, e, _⟩ := mem p hp
    exact (at_ d hd hl e).2
  · obtain ⟨d, hd, hl, c, e, _⟩ := mem p hp
    obtain ⟨c', P', e', h⟩ := Tk.at_ d hd hl
    rw [e] at e'
    cases e'
    exact h
  · obtain ⟨d, hd, hl, c, e, _⟩ := mem p hp
    exact ⟨c, (at_ d hd hl e).1⟩
  · have q := all_fns (P := l.prog) (bs := bs) (fuel := fuel) (tb := tbOf (K w.params) T) Dm (fun f2 d hd hl a2 fd2 hm2 F2 => ?_) k f D hT _ fd e1' Fu
    · rw [hx] at q
      exact q
    · have hdT := getD_mem hd
      obtain ⟨c, P, e, _⟩ := Tk.at_ d hdT hl
      have hin : (P, d.x ++ ".<locals>." ++ "<lambda>") ∈ tbOf (K w.params) T := List.mem_filterMap.mpr ⟨d, hdT, by rw [if_pos hl, e]; rfl⟩
      refine ⟨c, P, ?_, TB _ hin c (at_ d hdT hl e).1, hin, fun p hp hpP => ?_⟩
      · obtain ⟨oc, od, kV, doc, pm, an, cdv, ct, osl, rfl, lk, _⟩ := F2.ex
        exact PySem.W.law_code KX Gr.T.g e hm2 (KX _ _ lk) rfl
      · obtain ⟨d', hd', hl', c', e', e2⟩ := mem p hp
        rw [e2, Tk.un d' hd' d hdT hl' hl (by rw [e, e', hpP]; rfl)]
  · obtain ⟨oc, od, kV, doc, pm, an, cdv, ct, osl, rfl, lk, hcd⟩ := Fu.ex
    refine .of_eq ?_
    have := bind_plain (x := D.x) (q := D.x) (body := defBody D.s) (scope := defScope D.s) (kV := kV) (doc := doc) (pm := pm) (an := an) (cdv := cdv) (ct := ct) (us := [u]) c1 nd (by simp [hl1])
    rw [c2, hx] at this
    exact this
  · obtain ⟨st, e⟩ := law ns hlen hbits
    refine ⟨[], [], [.d (.list (ns.map .int))], ⟨rfl, List.nodup_nil, fun n c h => by simp at h, ⟨hY, hTabs⟩⟩, .cons (.d (.lst (vs := ns.map V.int) ?_ ?_)) .nil, ?_⟩
    · rcases hS with h | h
      · rcases h with h | h
        · rcases hO a with z | ⟨o, xs, z⟩ | ⟨ps, z⟩
          · rw [h] at z; cases z
          · rw [h] at z; cases z
          · rw [h] at z; cases z
        · exact .inl h
      · exact .inr (.inr h)
    · clear e hS hlen hbits hints
      induction ns with
      | nil => exact .nil
      | cons z r ih => exact .cons (.int z) ih
    · rw [e]
      intro v H' A' g c r
      cases r with
      | d r => cases r; rfl
end Z
theorem Z.lookup_mem {α β : Type} [BEq α] [LawfulBEq α] {x : α} {y : β} : ∀ {l : List (α × β)}, l.lookup x = some y → (x, y) ∈ l
  | [], h => by cases h
  | (a, b) :: r, h => by
    simp only [List.lookup_cons] at h
    by_cases e : x = a
    · subst e; simp at h; subst h; exact List.mem_cons_self
    · have : (x == a) = false := by simpa using e
      rw [this] at h
      exact List.mem_cons_of_mem _ (Z.lookup_mem h)
theorem Z.lookS_mem {kvs : List (PySem.PyData × PySem.PyData)} {s : PySem.Str} {y : PySem.PyData} (h : Z.lookS kvs s = some y) : (PySem.PyData.str s, y) ∈ kvs := by
  unfold Z.lookS at h
  rw [Option.map_eq_some_iff] at h
  obtain ⟨⟨a, b⟩, h1, rfl⟩ := h
  have h2 := List.find?_some h1
  have h3 := List.mem_of_find?_eq_some h1
  dsimp only at h2
  split at h2
  · rename_i z
    have : z = s := by simpa using h2
    subst this
    exact h3
  · cases h2
/-! PA: how a run is worked out by simp. -/
namespace Z
open PySem
theorem run_eq (T : Nat → Option Fn) (con : Nat → Option PyData) (fuel n f : Nat) (us : List U) (st : Store) : run T con fuel (n + 1) f us st = Res.opt (T f) fun F => if us.length = F.np then
      leave st.length (exs ⟨con, run T con fuel n, fuel⟩ st.length F.body (us.map some ++ List.replicate (F.nl - F.np) none) st) else .bad := rfl
@[simp] theorem of_ok {α : Type} (τ : Vars) (a : α) (st : Store) (k : α → Store → FRes) : FRes.of τ (.ok a st) k = k a st := rfl
@[simp] theorem of_exc {α : Type} (τ : Vars) (c : Nat) (st : Store) (k : α → Store → FRes) : FRes.of τ (.exc c st : Res α) k = .ex c τ st := rfl
@[simp] theorem optF_some {α : Type} (a : α) (k : α → FRes) : FRes.opt (some a) k = k a := rfl
@[simp] theorem seq_nx (τ : Vars) (st : Store) (k : Vars → Store → FRes) : (FRes.nx τ st).seq k = k τ st := rfl
@[simp] theorem seq_rt (u : U) (st : Store) (k : Vars → Store → FRes) : (FRes.rt u st).seq k = .rt u st := rfl
@[simp] theorem seq_ct (τ : Vars) (st : Store) (k : Vars → Store → FRes) : (FRes.ct τ st).seq k = .ct τ st := rfl
@[simp] theorem seq_ex (c : Nat) (τ : Vars) (st : Store) (k : Vars → Store → FRes) : (FRes.ex c τ st).seq k = .ex c τ st := rfl
@[simp] theorem leave_nx (st : Store) (τ : Vars) : leave st.length (.nx τ st) = .ok (.d .none) st := by simp [leave]
@[simp] theorem leave_rt_d (st : Store) (x : PyData) : leave st.length (.rt (.d x) st) = .ok (.d x) st := by simp [leave, leaveU]
@[simp] theorem chk_true {p : Prop} [Decidable p] {α : Type} (a : α) (h : p) : chk p a = some a := if_pos h
@[simp] theorem inner_same {α : Type} (base : Nat) (a : α) (st : Store) : (Res.ok a st).inner base st = .ok a st := by
  have h : innerOk base st st := fun n _ => .inl rfl
  simp only [Res.inner, if_pos h]
@[simp] theorem of_val (f : Md U) : (Mn.of f).val = f := rfl
@[simp] theorem of_tst (f : Md U) (τ : Vars) (st : Store) : (Mn.of f).tst τ st = (f τ st).bind fun u st1 => .opt (truth st1 u) fun b => .ok b st1 := rfl
@[simp] theorem varU_some {τ : Vars} {i : Nat} {u : U} {st : Store} (h : τ[i]? = some (some u)) : varU i τ st = .ok u st := by unfold varU; rw [h]
theorem ite_bind {α β : Type} {c : Prop} [Decidable c] (a b : Res α) (k : α → Store → Res β) : (if c then a else b).bind k = if c then a.bind k else b.bind k := by split <;> rfl
theorem ite_of {α : Type} {c : Prop} [Decidable c] (τ : Vars) (a b : Res α) (k : α → Store → FRes) : FRes.of τ (if c then a else b) k = if c then FRes.of τ a k else FRes.of τ b k := by split <;> rfl
theorem ite_seq {c : Prop} [Decidable c] (a b : FRes) (k : Vars → Store → FRes) : (if c then a else b).seq k = if c then a.seq k else b.seq k := by split <;> rfl
@[simp] theorem inner_exc (base : Nat) {α : Type} (c : Nat) (st : Store) : (Res.exc c st : Res α).inner base st = .exc c st := by
  have h : innerOk base st st := fun n _ => .inl rfl
  simp only [Res.inner, if_pos h]
@[simp] theorem leave_ex (c : Nat) (τ : Vars) (st : Store) : leave st.length (.ex c τ st) = .exc c st := by simp [leave]
@[simp] theorem kept_ex (i n c : Nat) (τ : Vars) (st : Store) : (FRes.ex c τ st).kept i n = .nx ((τ.set n (some (.exc c))).set i none) st := rfl
@[simp] theorem kept_nx (i n : Nat) (τ : Vars) (st : Store) : (FRes.nx τ st).kept i n = .nx τ st := rfl
@[simp] theorem kept_rt (i n : Nat) (u : U) (st : Store) : (FRes.rt u st).kept i n = .rt u st := rfl
@[simp] theorem fnU_fn (f : Nat → Store → Res U) (n : Nat) (st : Store) : fnU f (.fn n) st = f n st := rfl
@[simp] theorem isEU_n (c k : Nat) (st : Store) : isEU (some c) (.exc k) st = .ok (.d (.bool (subE k c))) st := rfl
@[simp] theorem isEU_v (k : Nat) (st : Store) : isEU none (.exc k) st = .ok (.d (.bool true)) st := rfl
@[simp] theorem isEsU_n (c : List Nat) (k : Nat) (st : Store) : isEsU c (.exc k) st = .ok (.d (.bool (c.any (subE k)))) st := rfl
@[simp] theorem truth_bool (st : Store) (b : Bool) : truth st (.d (.bool b)) = some b := rfl
section
variable (M : Mach) (b0 : Nat) (τ : Vars) (st : Store)
@[simp] theorem v_lit (x : PyData) : (mn M b0 (.lit x)).val τ st = (.ok (.d x) st) := rfl
@[simp] theorem t_lit (x : PyData) : (mn M b0 (.lit x)).tst τ st = ((mn M b0 (.lit x)).val τ st).bind fun u st1 => .opt (truth st1 u) fun b => .ok b st1 := rfl
@[simp] theorem v_var (i : Nat) : (mn M b0 (.var i)).val τ st = (varU i τ st) := rfl
@[simp] theorem t_var (i : Nat) : (mn M b0 (.var i)).tst τ st = ((mn M b0 (.var i)).val τ st).bind fun u st1 => .opt (truth st1 u) fun b => .ok b st1 := rfl
@[simp] theorem v_gco (k : Nat) : (mn M b0 (.gco k)).val τ st = (.opt (M.con k) fun x => .ok (.d x) st) := rfl
@[simp] theorem t_gco (k : Nat) : (mn M b0 (.gco k)).tst τ st = ((mn M b0 (.gco k)).val τ st).bind fun u st1 => .opt (truth st1 u) fun b => .ok b st1 := rfl
@[simp] theorem v_gfn (k : Nat) : (mn M b0 (.gfn k)).val τ st = (.ok (.fn k) st) := rfl
@[simp] theorem t_gfn (k : Nat) : (mn M b0 (.gfn k)).tst τ st = ((mn M b0 (.gfn k)).val τ st).bind fun u st1 => .opt (truth st1 u) fun b => .ok b st1 := rfl
@[simp] theorem v_tup (es : LEs) : (mn M b0 (.tup es)).val τ st = ((evs (mns M b0 es) τ st).bind fun us st1 => .opt (tupOf us) fun u => .ok u st1) := rfl
@[simp] theorem t_tup (es : LEs) : (mn M b0 (.tup es)).tst τ st = ((mn M b0 (.tup es)).val τ st).bind fun u st1 => .opt (truth st1 u) fun b => .ok b st1 := rfl
@[simp] theorem v_lst (fr : Bool) (es : LEs) : (mn M b0 (.lst fr es)).val τ st = ((evs (mns M b0 es) τ st).bind fun us st1 => fin fr st1 (.lst us)) := rfl
@[simp] theorem t_lst (fr : Bool) (es : LEs) : (mn M b0 (.lst fr es)).tst τ st = ((mn M b0 (.lst fr es)).val τ st).bind fun u st1 => .opt (truth st1 u) fun b => .ok b st1 := rfl
@[simp] theorem v_rept (fr : Bool) (es : LEs) (k : LE) : (mn M b0 (.rept fr es k)).val τ st = ((evs (mns M b0 es) τ st).bind fun us st1 => .opt (chk (us.length ≤ 64) ()) fun _ => ((mn M b0 k).val τ st1).bind fun u st2 => reptU fr us u st2) := rfl
@[simp] theorem t_rept (fr : Bool) (es : LEs) (k : LE) : (mn M b0 (.rept fr es k)).tst τ st = ((mn M b0 (.rept fr es k)).val τ st).bind fun u st1 => .opt (truth st1 u) fun b => .ok b st1 := rfl
@[simp] theorem v_dct0 (t fr : Bool) : (mn M b0 (.dct0 t fr)).val τ st = (fin fr st (.dct t [])) := rfl
@[simp] theorem t_dct0 (t fr : Bool) : (mn M b0 (.dct0 t fr)).tst τ st = ((mn M b0 (.dct0 t fr)).val τ st).bind fun u st1 => .opt (truth st1 u) fun b => .ok b st1 := rfl
@[simp] theorem v_dct1 (fr : Bool) (k v : Int) : (mn M b0 (.dct1 fr k v)).val τ st = (fin fr st (.dct false [(.int k, .d (.int v))])) := rfl
@[simp] theorem t_dct1 (fr : Bool) (k v : Int) : (mn M b0 (.dct1 fr k v)).tst τ st = ((mn M b0 (.dct1 fr k v)).val τ st).bind fun u st1 => .opt (truth st1 u) fun b => .ok b st1 := rfl
@[simp] theorem v_dctE (fr : Bool) (a : LE) : (mn M b0 (.dctE fr a)).val τ st = ((mn M b0 a).val τ st).bind fun u st1 => .opt ((lstOf st1 u).map fun us => Mk.dct false (enumK 0 us)) fun mk => fin fr st1 mk := rfl
@[simp] theorem t_dctE (fr : Bool) (a : LE) : (mn M b0 (.dctE fr a)).tst τ st = ((mn M b0 (.dctE fr a)).val τ st).bind fun u st1 => .opt (truth st1 u) fun b => .ok b st1 := rfl
@[simp] theorem v_dctP (fr : Bool) (a : LE) : (mn M b0 (.dctP fr a)).val τ st = ((mn M b0 a).val τ st).bind fun u st1 => .opt (dctPOf st1 u) fun mk => fin fr st1 mk := rfl
@[simp] theorem t_dctP (fr : Bool) (a : LE) : (mn M b0 (.dctP fr a)).tst τ st = ((mn M b0 (.dctP fr a)).val τ st).bind fun u st1 => .opt (truth st1 u) fun b => .ok b st1 := rfl
@[simp] theorem v_lku (i : Nat) (a : LE) : (mn M b0 (.lku i a)).val τ st = .opt (lkAt τ st i) fun p => ((mn M b0 a).val τ (st.set p.1 (.fdct p.2.1 p.2.2))).nox.bind fun u st1 => if ndU u then .opt (unlS p.1 st1) fun st2 => .ok u st2 else .bad := rfl
@[simp] theorem t_lku (i : Nat) (a : LE) : (mn M b0 (.lku i a)).tst τ st = ((mn M b0 (.lku i a)).val τ st).bind fun u st1 => .opt (truth st1 u) fun b => .ok b st1 := rfl
@[simp] theorem x_lks (i : Nat) (s : LS) : ex M b0 (.lks i s) τ st = FRes.opt (lkAt τ st i) fun p => (ex M b0 s τ (st.set p.1 (.fdct p.2.1 p.2.2))).unl p.1 := rfl
@[simp] theorem v_lock (a : LE) : (mn M b0 (.lock a)).val τ st = ((mn M b0 a).val τ st).bind lockU := rfl
@[simp] theorem t_lock (a : LE) : (mn M b0 (.lock a)).tst τ st = ((mn M b0 (.lock a)).val τ st).bind fun u st1 => .opt (truth st1 u) fun b => .ok b st1 := rfl
@[simp] theorem v_disp (fr : Bool) (es : LEs) : (mn M b0 (.disp fr es)).val τ st = (evs (mns M b0 es) τ st).bind fun us st1 => .opt (dispOf us) fun mk => fin fr st1 mk := rfl
@[simp] theorem t_disp (fr : Bool) (es : LEs) : (mn M b0 (.disp fr es)).tst τ st = ((mn M b0 (.disp fr es)).val τ st).bind fun u st1 => .opt (truth st1 u) fun b => .ok b st1 := rfl
@[simp] theorem v_dispT (fr : Bool) (es : LEs) : (mn M b0 (.dispT fr es)).val τ st = (evs (mns M b0 es) τ st).bind fun us st1 => .opt (dispTOf us) fun mk => fin fr st1 mk := rfl
@[simp] theorem v_deq (n : Bool) (a b : LE) : (mn M b0 (.deq n a b)).val τ st = (((mn M b0 a).val τ st).bind fun u st1 => ((mn M b0 b).val τ st1).bind fun w st2 => .opt (eqDct st2 u w) fun t => .ok (if n then !t else t) st2).bind fun t st1 => .ok (.d (.bool t)) st1 := rfl
@[simp] theorem t_deq (n : Bool) (a b : LE) : (mn M b0 (.deq n a b)).tst τ st = (((mn M b0 a).val τ st).bind fun u st1 => ((mn M b0 b).val τ st1).bind fun w st2 => .opt (eqDct st2 u w) fun t => .ok (if n then !t else t) st2) := rfl
@[simp] theorem v_lval (fr : Bool) (a : LE) : (mn M b0 (.lval fr a)).val τ st = ((mn M b0 a).val τ st).bind fun u st1 => .opt ((dctT st1 u).map fun kvs => Mk.lst (kvs.map (·.2))) fun mk => fin fr st1 mk := rfl
@[simp] theorem x_setl (ts : List Tg) (e : LE) : ex M b0 (.setl ts e) τ st = FRes.of τ ((mn M b0 e).val τ st) fun u st1 => FRes.opt (unlT st1 u ts τ) fun τ1 => .nx τ1 st1 := rfl
@[simp] theorem v_isTs (ts : List Ty) (a : LE) : (mn M b0 (.isTs ts a)).val τ st = ((mn M b0 a).val τ st).bind (isTsU ts) := rfl
@[simp] theorem t_isTs (ts : List Ty) (a : LE) : (mn M b0 (.isTs ts a)).tst τ st = ((mn M b0 (.isTs ts a)).val τ st).bind fun u st1 => .opt (truth st1 u) fun b => .ok b st1 := rfl
@[simp] theorem v_sset (fr : Bool) (a : LE) : (mn M b0 (.sset fr a)).val τ st = ((mn M b0 a).val τ st).bind fun u st1 => .opt (ssetOf st1 u) fun mk => fin fr st1 mk := rfl
@[simp] theorem t_sset (fr : Bool) (a : LE) : (mn M b0 (.sset fr a)).tst τ st = ((mn M b0 (.sset fr a)).val τ st).bind fun u st1 => .opt (truth st1 u) fun b => .ok b st1 := rfl
@[simp] theorem v_minK (ky : Ky) (a : LE) : (mn M b0 (.minK ky a)).val τ st = ((mn M b0 a).val τ st).bind fun u st1 => .opt (minU st1 ky u) fun x => .ok (.d x) st1 := rfl
@[simp] theorem t_minK (ky : Ky) (a : LE) : (mn M b0 (.minK ky a)).tst τ st = ((mn M b0 (.minK ky a)).val τ st).bind fun u st1 => .opt (truth st1 u) fun b => .ok b st1 := rfl
@[simp] theorem v_lrng (fr : Bool) (es : LEs) : (mn M b0 (.lrng fr es)).val τ st = (evs (mns M b0 es) τ st).bind fun us st1 => .opt (lrngOf us) fun mk => fin fr st1 mk := rfl
@[simp] theorem t_lrng (fr : Bool) (es : LEs) : (mn M b0 (.lrng fr es)).tst τ st = ((mn M b0 (.lrng fr es)).val τ st).bind fun u st1 => .opt (truth st1 u) fun b => .ok b st1 := rfl
@[simp] theorem v_bop (op : Operator) (fr : Bool) (a b : LE) : (mn M b0 (.bop op fr a b)).val τ st = (((mn M b0 a).val τ st).bind fun u st1 => ((mn M b0 b).val τ st1).bind fun w st2 => .opt (binop op st2 u w) fun mk => fin fr st2 mk) := rfl
@[simp] theorem t_bop (op : Operator) (fr : Bool) (a b : LE) : (mn M b0 (.bop op fr a b)).tst τ st = ((mn M b0 (.bop op fr a b)).val τ st).bind fun u st1 => .opt (truth st1 u) fun b => .ok b st1 := rfl
@[simp] theorem v_neg (a : LE) : (mn M b0 (.neg a)).val τ st = (((mn M b0 a).val τ st).bind negU) := rfl
@[simp] theorem t_neg (a : LE) : (mn M b0 (.neg a)).tst τ st = ((mn M b0 (.neg a)).val τ st).bind fun u st1 => .opt (truth st1 u) fun b => .ok b st1 := rfl
@[simp] theorem v_idx (a i : LE) : (mn M b0 (.idx a i)).val τ st = (((mn M b0 a).val τ st).bind fun u st1 => ((mn M b0 i).val τ st1).bind fun w st2 => .opt (itemOf st2 u w) fun x => .ok x st2) := rfl
@[simp] theorem t_idx (a i : LE) : (mn M b0 (.idx a i)).tst τ st = ((mn M b0 (.idx a i)).val τ st).bind fun u st1 => .opt (truth st1 u) fun b => .ok b st1 := rfl
@[simp] theorem v_slc (fr : Bool) (a lo hi : LE) : (mn M b0 (.slc fr a lo hi)).val τ st = (((mn M b0 a).val τ st).bind fun u st1 => (evO (isAbs lo) (mn M b0 lo).val τ st1).bind fun l st2 => (evO (isAbs hi) (mn M b0 hi).val τ st2).bind fun h st3 => .opt (sliceOf st3 u l h) fun mk => fin fr st3 mk) := rfl
@[simp] theorem t_slc (fr : Bool) (a lo hi : LE) : (mn M b0 (.slc fr a lo hi)).tst τ st = ((mn M b0 (.slc fr a lo hi)).val τ st).bind fun u st1 => .opt (truth st1 u) fun b => .ok b st1 := rfl
@[simp] theorem v_kget (k : Nat) (i : LE) : (mn M b0 (.kget k i)).val τ st = ((mn M b0 i).val τ st).bind fun u st1 => .opt (kgetU (M.con k) u) fun x => .ok (.d x) st1 := rfl
@[simp] theorem t_kget (k : Nat) (i : LE) : (mn M b0 (.kget k i)).tst τ st = ((mn M b0 (.kget k i)).val τ st).bind fun u st1 => .opt (truth st1 u) fun b => .ok b st1 := rfl
@[simp] theorem v_frz (a : LE) : (mn M b0 (.frz a)).val τ st = ((mn M b0 a).val τ st).bind frzU := rfl
@[simp] theorem t_frz (a : LE) : (mn M b0 (.frz a)).tst τ st = ((mn M b0 (.frz a)).val τ st).bind fun u st1 => .opt (truth st1 u) fun b => .ok b st1 := rfl
@[simp] theorem v_revs (fr : Bool) (a : LE) : (mn M b0 (.revs fr a)).val τ st = (((mn M b0 a).val τ st).bind fun u st1 => .opt (revOf st1 u) fun mk => fin fr st1 mk) := rfl
@[simp] theorem rev_lst (st : Store) (xs : List PyData) : revOf st (.d (.list xs)) = some (.lst (ofD xs).reverse) := rfl
@[simp] theorem rev_cell (st : Store) (n : Nat) : revOf st (.cell n) = (lstOf st (.cell n)).map fun us => Mk.lst us.reverse := rfl
@[simp] theorem rev_str (st : Store) (z : Str) : revOf st (.d (.str z)) = chk (z.length ≤ sizeLine) (.u (.d (.str ⟨z.cps.toList.reverse.toArray⟩))) := rfl
@[simp] theorem t_revs (fr : Bool) (a : LE) : (mn M b0 (.revs fr a)).tst τ st = ((mn M b0 (.revs fr a)).val τ st).bind fun u st1 => .opt (truth st1 u) fun b => .ok b st1 := rfl
@[simp] theorem v_callv (e : LE) (es : LEs) : (mn M b0 (.callv e es)).val τ st = ((mn M b0 e).val τ st).bind (fnU fun f st1 => (evs (mns M b0 es) τ st1).bind fun us st2 => (M.call f us st2).inner b0 st2) := rfl
@[simp] theorem t_callv (e : LE) (es : LEs) : (mn M b0 (.callv e es)).tst τ st = ((mn M b0 (.callv e es)).val τ st).bind fun u st1 => .opt (truth st1 u) fun b => .ok b st1 := rfl
@[simp] theorem v_isE (c : Option Nat) (a : LE) : (mn M b0 (.isE c a)).val τ st = ((mn M b0 a).val τ st).bind (isEU c) := rfl
@[simp] theorem t_isE (c : Option Nat) (a : LE) : (mn M b0 (.isE c a)).tst τ st = ((mn M b0 (.isE c a)).val τ st).bind fun u st1 => .opt (truth st1 u) fun b => .ok b st1 := rfl
@[simp] theorem v_isEs (c : List Nat) (a : LE) : (mn M b0 (.isEs c a)).val τ st = ((mn M b0 a).val τ st).bind (isEsU c) := rfl
@[simp] theorem t_isEs (c : List Nat) (a : LE) : (mn M b0 (.isEs c a)).tst τ st = ((mn M b0 (.isEs c a)).val τ st).bind fun u st1 => .opt (truth st1 u) fun b => .ok b st1 := rfl
@[simp] theorem v_call (f : Nat) (es : LEs) : (mn M b0 (.call f es)).val τ st = ((evs (mns M b0 es) τ st).bind fun us st1 => (M.call f us st1).inner b0 st1) := rfl
@[simp] theorem t_call (f : Nat) (es : LEs) : (mn M b0 (.call f es)).tst τ st = ((mn M b0 (.call f es)).val τ st).bind fun u st1 => .opt (truth st1 u) fun b => .ok b st1 := rfl
@[simp] theorem v_pr (p : Prim) (fr : Bool) (es : LEs) : (mn M b0 (.pr p fr es)).val τ st = ((evs (mns M b0 es) τ st).bind fun us st1 => .opt (prim p st1 us) fun mk => fin fr st1 mk) := rfl
@[simp] theorem t_pr (p : Prim) (fr : Bool) (es : LEs) : (mn M b0 (.pr p fr es)).tst τ st = ((mn M b0 (.pr p fr es)).val τ st).bind fun u st1 => .opt (truth st1 u) fun b => .ok b st1 := rfl
@[simp] theorem v_me (m : Meth) (fr : Bool) (o : LE) (es : LEs) : (mn M b0 (.me m fr o es)).val τ st = (((mn M b0 o).val τ st).bind fun u st1 => .opt (mty m st1 u) fun _ => (evs (mns M b0 es) τ st1).bind fun us st2 => .opt (meth b0 m st2 u us) fun p => fin fr p.2 p.1) := rfl
@[simp] theorem t_me (m : Meth) (fr : Bool) (o : LE) (es : LEs) : (mn M b0 (.me m fr o es)).tst τ st = ((mn M b0 (.me m fr o es)).val τ st).bind fun u st1 => .opt (truth st1 u) fun b => .ok b st1 := rfl
@[simp] theorem v_cp (fr : Bool) (own : List Nat) (elt : LE) (tg : Tg) (it : LI) (cs : LEs) : (mn M b0 (.cp fr own elt tg it cs)).val τ st = (compU fr own (mn M b0 elt) tg (mi M b0 it) (mns M b0 cs) τ st) := rfl
@[simp] theorem t_cp (fr : Bool) (own : List Nat) (elt : LE) (tg : Tg) (it : LI) (cs : LEs) : (mn M b0 (.cp fr own elt tg it cs)).tst τ st = ((mn M b0 (.cp fr own elt tg it cs)).val τ st).bind fun u st1 => .opt (truth st1 u) fun b => .ok b st1 := rfl
@[simp] theorem v_nt (a : LE) : (mn M b0 (.nt a)).val τ st = (((mn M b0 a).val τ st).bind fun u st1 => .opt (truth st1 u) fun b => .ok (.d (.bool !b)) st1) := rfl
@[simp] theorem t_nt (a : LE) : (mn M b0 (.nt a)).tst τ st = (((mn M b0 a).tst τ st).bind fun b st1 => .ok (!b) st1) := rfl
@[simp] theorem v_bl (op : BoolOp) (es : LEs) : (mn M b0 (.bl op es)).val τ st = evB op (mns M b0 es) τ st := rfl
@[simp] theorem t_bl (op : BoolOp) (es : LEs) : (mn M b0 (.bl op es)).tst τ st = evTs op (mns M b0 es) τ st := rfl
@[simp] theorem v_cmp (a : LE) (cs : LCs) : (mn M b0 (.cmp a cs)).val τ st = ((((mn M b0 a).val τ st).bind fun u st1 => evC (mcs M b0 cs) u τ st1).bind fun b st2 => .ok (.d (.bool b)) st2) := rfl
@[simp] theorem t_cmp (a : LE) (cs : LCs) : (mn M b0 (.cmp a cs)).tst τ st = (((mn M b0 a).val τ st).bind fun u st1 => evC (mcs M b0 cs) u τ st1) := rfl
@[simp] theorem v_ife (c a b : LE) : (mn M b0 (.ife c a b)).val τ st = (((mn M b0 c).tst τ st).bind fun t st1 => if t then (mn M b0 a).val τ st1 else (mn M b0 b).val τ st1) := rfl
@[simp] theorem t_ife (c a b : LE) : (mn M b0 (.ife c a b)).tst τ st = (((mn M b0 c).tst τ st).bind fun t st1 => if t then (mn M b0 a).tst τ st1 else (mn M b0 b).tst τ st1) := rfl
@[simp] theorem mns_nil : mns M b0 .nil = [] := rfl
@[simp] theorem mns_cons (e : LE) (es : LEs) : mns M b0 (.cons e es) = mn M b0 e :: mns M b0 es := rfl
@[simp] theorem mcs_nil : mcs M b0 .nil = [] := rfl
@[simp] theorem mcs_cons (op : CmpOp) (e : LE) (es : LCs) : mcs M b0 (.cons op e es) = (op, mn M b0 e) :: mcs M b0 es := rfl
@[simp] theorem evs_nil : evs [] τ st = .ok [] st := rfl
@[simp] theorem evs_cons (m : Mn) (ms : List Mn) : evs (m :: ms) τ st = ((m.val τ st).bind fun u st1 => (evs ms τ st1).bind fun us st2 => .ok (u :: us) st2) := rfl
@[simp] theorem evC_one (op : CmpOp) (m : Mn) (u : U) : evC [(op, m)] u τ st = ((m.val τ st).bind fun w st1 => .opt (cmpop op st1 u w) fun b => .ok b st1) := rfl
@[simp] theorem evC_two (op : CmpOp) (m : Mn) (c : CmpOp × Mn) (cs : List (CmpOp × Mn)) (u : U) : evC ((op, m) :: c :: cs) u τ st = ((m.val τ st).bind fun w st1 => .opt (cmpop op st1 u w) fun b => if b then evC (c :: cs) w τ st1 else .ok false st1) := rfl
@[simp] theorem evB_one (op : BoolOp) (m : Mn) : evB op [m] τ st = m.val τ st := rfl
@[simp] theorem evB_and (m m2 : Mn) (ms : List Mn) : evB .And (m :: m2 :: ms) τ st = ((m.val τ st).bind fun u st1 => .opt (truth st1 u) fun b => if b = true then evB .And (m2 :: ms) τ st1 else .ok u st1) := rfl
@[simp] theorem evB_or (m m2 : Mn) (ms : List Mn) : evB .Or (m :: m2 :: ms) τ st = ((m.val τ st).bind fun u st1 => .opt (truth st1 u) fun b => if b = false then evB .Or (m2 :: ms) τ st1 else .ok u st1) := rfl
@[simp] theorem evTs_one (op : BoolOp) (m : Mn) : evTs op [m] τ st = m.tst τ st := rfl
@[simp] theorem evTs_and (m m2 : Mn) (ms : List Mn) : evTs .And (m :: m2 :: ms) τ st = ((m.tst τ st).bind fun b st1 => if b = true then evTs .And (m2 :: ms) τ st1 else .ok b st1) := rfl
@[simp] theorem evTs_or (m m2 : Mn) (ms : List Mn) : evTs .Or (m :: m2 :: ms) τ st = ((m.tst τ st).bind fun b st1 => if b = false then evTs .Or (m2 :: ms) τ st1 else .ok b st1) := rfl
@[simp] theorem evA_nil : evA [] τ st = .ok true st := rfl
@[simp] theorem evA_one (m : Mn) : evA [m] τ st = m.tst τ st := rfl
@[simp] theorem evO_true (f : Md U) : evO true f τ st = .ok none st := rfl
@[simp] theorem evO_false (f : Md U) : evO false f τ st = ((f τ st).bind fun u st1 => match u with
    | .d (.int i) => .ok (some i) st1
    | _ => .bad) := rfl
@[simp] theorem xs_nil : exs M b0 .nil τ st = .nx τ st := rfl
@[simp] theorem xs_cons (s : LS) (ss : LSs) : exs M b0 (.cons s ss) τ st = (ex M b0 s τ st).seq fun τ1 st1 => exs M b0 ss τ1 st1 := rfl
@[simp] theorem x_pass : ex M b0 .pass τ st = .nx τ st := rfl
@[simp] theorem x_cont : ex M b0 .cont τ st = .ct τ st := rfl
@[simp] theorem x_expr (e : LE) : ex M b0 (.expr e) τ st = FRes.of τ ((mn M b0 e).val τ st) fun _ st1 => .nx τ st1 := rfl
@[simp] theorem x_ret (e : LE) : ex M b0 (.ret e) τ st = FRes.of τ ((mn M b0 e).val τ st) fun u st1 => .rt u st1 := rfl
@[simp] theorem x_retn : ex M b0 .retn τ st = .rt (.d .none) st := rfl
@[simp] theorem x_set (tg : Tg) (e : LE) : ex M b0 (.set tg e) τ st = FRes.of τ ((mn M b0 e).val τ st) fun u st1 => FRes.opt (setT tg u τ) fun τ1 => .nx τ1 st1 := rfl
@[simp] theorem x_raise (c : Nat) : ex M b0 (.raise c) τ st = .ex c τ st := rfl
@[simp] theorem x_tryp (i n : Nat) (body : LSs) : ex M b0 (.tryp i n body) τ st = (exs M b0 body τ st).kept i n := rfl
@[simp] theorem x_sub (o i e : LE) : ex M b0 (.sub o i e) τ st = FRes.of τ ((mn M b0 e).val τ st) fun u st1 => FRes.of τ ((mn M b0 o).val τ st1) fun x st2 => FRes.of τ ((mn M b0 i).val τ st2) fun y st3 => FRes.opt (setAt b0 st3 x y u) fun st4 => .nx τ st4 := rfl
@[simp] theorem x_aug (i : Nat) (op : Operator) (e : LE) : ex M b0 (.aug i op e) τ st = (match τ[i]? with
    | some (some x) => FRes.of τ ((mn M b0 e).val τ st) fun y st1 => (match x, y with
      | .d (.int a), .d (.int b) => FRes.opt (intOp op a b) fun k => .nx (τ.set i (some (.d (.int k)))) st1
      | _, _ => .bad)
    | _ => .bad) := rfl
@[simp] theorem x_ife (c : LE) (a b : LSs) : ex M b0 (.ife c a b) τ st = FRes.of τ ((mn M b0 c).tst τ st) fun t st1 => if t then exs M b0 a τ st1 else exs M b0 b τ st1 := rfl
@[simp] theorem x_for (tg : Tg) (it : LI) (body : LSs) : ex M b0 (.forr tg it body) τ st = FRes.of τ (mi M b0 it τ st) fun src st1 => forL src (fun u τ1 st2 => FRes.opt (setT tg u τ1) fun τ2 => exs M b0 body τ2 st2) src.us τ st1 := rfl
@[simp] theorem x_whil (c : LE) (body : LSs) : ex M b0 (.whil c body) τ st = whileL (fun τ1 st1 => (mn M b0 c).tst τ1 st1) (fun τ1 st1 => exs M b0 body τ1 st1) M.fuel τ st := rfl
@[simp] theorem i_val (e : LE) : mi M b0 (.val e) τ st = ((mn M b0 e).val τ st).bind fun u st1 => .opt (srcVal st1 u) fun s => .ok s st1 := rfl
@[simp] theorem i_rng (es : LEs) : mi M b0 (.rng es) τ st = (evs (mns M b0 es) τ st).bind fun us st1 => .opt (srcRng (mns M b0 es).length us) fun s => .ok s st1 := rfl
@[simp] theorem i_enum (e : LE) : mi M b0 (.enum e) τ st = ((mn M b0 e).val τ st).bind fun u st1 => .opt (srcEnum st1 u) fun s => .ok s st1 := rfl
@[simp] theorem i_rev (e : LE) : mi M b0 (.rev e) τ st = ((mn M b0 e).val τ st).bind fun u st1 => .opt (srcRev st1 u) fun s => .ok s st1 := rfl
@[simp] theorem i_zip (es : LEs) : mi M b0 (.zip es) τ st = (evs (mns M b0 es) τ st).bind fun us st1 => .opt (srcZip st1 us) fun s => .ok s st1 := rfl
@[simp] theorem i_items (e : LE) : mi M b0 (.items e) τ st = ((mn M b0 e).val τ st).bind fun u st1 => .opt (srcItems st1 u) fun s => .ok s st1 := rfl
end
@[simp] theorem sortSrc_list (st : Store) (xs : List PyData) : sortSrc st (.d (.list xs)) = some (ofD xs) := rfl
@[simp] theorem isTsU_d (ts : List Ty) (x : PyData) (st : Store) : isTsU ts (.d x) st = .ok (.d (.bool (ts.any fun t => tyIs t x))) st := by
  have : ∀ b : Bool, (some b == some true) = b := by decide
  simp only [isTsU, isTy, Res.opt_some, this]
@[simp] theorem fin_u (fr : Bool) (st : Store) (x : U) : fin fr st (.u x) = .ok x st := rfl
@[simp] theorem varU_0 (u : U) (r : Vars) (st : Store) : varU 0 (some u :: r) st = .ok u st := rfl
@[simp] theorem varU_s (i : Nat) (o : Option U) (r : Vars) (st : Store) : varU (i + 1) (o :: r) st = varU i r st := rfl
@[simp] theorem setT_v (i : Nat) (u : U) (τ : Vars) : setT (.v i) u τ = some (τ.set i (some u)) := rfl
@[simp] theorem q_isT (t : Ty) (st : Store) (u : U) : prim (.isT t) st [u] = (isTy st t u).map fun b => .u (.d (.bool b)) := rfl
@[simp] theorem isTy_d (t : Ty) (st : Store) (x : PyData) : isTy st t (.d x) = some (tyIs t x) := rfl
@[simp] theorem bin_int (op : Operator) (st : Store) (i j : Int) : binop op st (.d (.int i)) (.d (.int j)) = (intOp op i j).map fun k => .u (.d (.int k)) := rfl
end Z
/-! PB: trees that are shown; the well. -/
namespace Z
open PySem
mutual
/-- small numbers, short texts -/
def nice : PyData → Bool
  | .none => true
  | .bool _ => true
  | .int i => decide (i.natAbs.log2 < 1920)
  | .str x => decide (x.length ≤ 1000) && x.cps.all (· < 0x110000)
  | .list xs => niceAll xs
  | .tuple xs => niceAll xs
  | .dict kvs => niceKv kvs
def niceAll : List PyData → Bool
  | [] => true
  | x :: r => nice x && niceAll r
def niceKv : List (PyData × PyData) → Bool
  | [] => true
  | (k, v) :: r => nice k && nice v && niceKv r
end
mutual
/-- how long a tree is shown at most -/
def wt : PyData → Nat
  | .none => 4
  | .bool _ => 5
  | .int _ => 1921
  | .str x => 10 * x.length + 2
  | .list xs => wtAll xs + 4
  | .tuple xs => wtAll xs + 4
  | .dict kvs => wtKv kvs + 4
def wtAll : List PyData → Nat
  | [] => 0
  | x :: r => wt x + 2 + wtAll r
def wtKv : List (PyData × PyData) → Nat
  | [] => 0
  | (k, v) :: r => wt k + wt v + 4 + wtKv r
end
theorem textFrom_le : ∀ (ts : List Str) (k : Nat) (acc : Str), (textFrom k acc ts).length ≤ acc.length + piled ts
  | [], k, acc => by show acc.length ≤ _; simp [piled]
  | t :: r, k, acc => by
    have ih := textFrom_le r (k + 1) (acc ++ (if k > 0 then ", " else "" : String) ++ t)
    have e : (acc ++ (if k > 0 then ", " else "" : String) ++ t).length ≤ acc.length + 2 + t.length := by
      rw [strLen_append, strLen_append]
      split
      · exact Nat.le_refl _
      · show acc.length + 0 + t.length ≤ _; omega
    rw [piled_cons]
    show (textFrom (k + 1) _ r).length ≤ _
    omega
theorem listText_le (ts : List Str) : (listText ts).length ≤ piled ts + 4 := by
  unfold listText
  rw [strLen_append]
  have := textFrom_le ts 0 "["
  have e1 : (("[" : String) : Str).length = 1 := rfl
  have e2 : (("]" : String) : Str).length = 1 := rfl
  omega
theorem tupleText_le (ts : List Str) : (tupleText ts).length ≤ piled ts + 4 := by
  unfold tupleText
  rw [strLen_append, strLen_append]
  have e1 : ("(" : Str).length = 1 := rfl
  have e2 : ((if ts.length == 1 then ",)" else ")" : String) : Str).length ≤ 2 := by split <;> decide
  by_cases h : ts = []
  · subst h
    have : (Str.join ", " []).length = 0 := rfl
    omega
  · have := join_length_add ts h
    omega
theorem dictText_le (ts : List Str) : (dictText ts).length ≤ piled ts + 4 := by
  unfold dictText
  rw [strLen_append, strLen_append]
  have e1 : ("{" : Str).length = 1 := rfl
  have e2 : ("}" : Str).length = 1 := rfl
  by_cases h : ts = []
  · subst h
    have : (Str.join ", " []).length = 0 := rfl
    omega
  · have := join_length_add ts h
    omega
mutual
theorem nice_shown : ∀ {x : PyData}, nice x = true → x.shown.length ≤ wt x ∧ x.showable = true
  | .none, _ => ⟨by decide, rfl⟩
  | .bool b, _ => ⟨by cases b <;> decide, rfl⟩
  | .int i, h => by
    simp only [nice, decide_eq_true_eq] at h
    exact ⟨by simp only [PyData.shown, wt]; exact PyProof.Rows.int_text_len_1921 h, by simp only [PyData.showable, decide_eq_true_eq]; exact h⟩
  | .str x, h => by
    simp only [nice, Bool.and_eq_true, decide_eq_true_eq] at h
    refine ⟨?_, rfl⟩
    simp only [PyData.shown, wt]
    refine StrLaws.reprText_len x fun c hc => ?_
    have := Array.all_eq_true'.mp h.2 c (by simpa using hc)
    have : c < 0x110000 := by simpa using this
    omega
  | .list xs, h => by
    simp only [nice] at h
    obtain ⟨h1, h2⟩ := niceAll_shown h
    refine ⟨?_, by simp only [PyData.showable]; exact h2⟩
    simp only [PyData.shown, wt]
    have := listText_le (PyData.shownAll xs)
    omega
  | .tuple xs, h => by
    simp only [nice] at h
    obtain ⟨h1, h2⟩ := niceAll_shown h
    refine ⟨?_, by simp only [PyData.showable]; exact h2⟩
    simp only [PyData.shown, wt]
    have := tupleText_le (PyData.shownAll xs)
    omega
  | .dict kvs, h => by
    simp only [nice] at h
    obtain ⟨h1, h2⟩ := niceKv_shown h
    refine ⟨?_, by simp only [PyData.showable]; exact h2⟩
    simp only [PyData.shown, wt]
    have := dictText_le (PyData.shownKv kvs)
    omega
theorem niceAll_shown : ∀ {xs : List PyData}, niceAll xs = true → piled (PyData.shownAll xs) ≤ wtAll xs ∧ PyData.showableAll xs = true
  | [], _ => ⟨Nat.le_refl _, rfl⟩
  | x :: r, h => by
    simp only [niceAll, Bool.and_eq_true] at h
    obtain ⟨h1, h2⟩ := nice_shown h.1
    obtain ⟨h3, h4⟩ := niceAll_shown h.2
    refine ⟨?_, by simp only [PyData.showableAll, h2, h4, Bool.and_self]⟩
    simp only [PyData.shownAll, wtAll]
    rw [piled_cons]
    omega
theorem niceKv_shown : ∀ {xs : List (PyData × PyData)}, niceKv xs = true → piled (PyData.shownKv xs) ≤ wtKv xs ∧ PyData.showableKv xs = true
  | [], _ => ⟨Nat.le_refl _, rfl⟩
  | (k, v) :: r, h => by
    simp only [niceKv, Bool.and_eq_true] at h
    obtain ⟨h1, h2⟩ := nice_shown h.1.1
    obtain ⟨h5, h6⟩ := nice_shown h.1.2
    obtain ⟨h3, h4⟩ := niceKv_shown h.2
    refine ⟨?_, by simp only [PyData.showableKv, h2, h4, h6, Bool.and_self]⟩
    simp only [PyData.shownKv, wtKv]
    rw [piled_cons, strLen_append, strLen_append]
    have e1 : ((": " : String) : Str).length = 2 := rfl
    omega
end
/-- what may be shown, and gone through -/
structure Fine (x : PyData) : Prop where
  nice : nice x = true
  depth : x.depth ≤ 60
  wt : wt x ≤ 16000000
theorem Fine.repr {x : PyData} (h : Fine x) : chk (x.showable = true ∧ x.depth ≤ 64 ∧ x.shown.length ≤ sizeLine) (Mk.u (.d (.str x.shown))) = some (.u (.d (.str x.shown))) := by
  obtain ⟨h1, h2⟩ := nice_shown h.nice
  have := h.wt
  have := h.depth
  have e : sizeLine = 16777216 := by decide
  exact if_pos ⟨h2, by omega, by omega⟩
/-! ### the well -/
/-- the well at w, its counter at most k -/
def Well (st : Store) (w k : Nat) : Prop := ∃ a b c : Int, st[w]? = some (.lst [.d (.int a), .d (.int b), .d (.int c)]) ∧ 0 ≤ c ∧ c ≤ (k : Int)
/-- from st to st' the well alone has changed -/
structure Step (w k : Nat) (st st' : Store) : Prop where
  len : st'.length = st.length
  other : ∀ i, i ≠ w → st'[i]? = st[i]?
  well : Well st' w k
theorem Step.trans {w k k' : Nat} {a b c : Store} (h : Step w k a b) (g : Step w k' b c) : Step w k' a c :=
  ⟨g.len.trans h.len, fun i hi => (g.other i hi).trans (h.other i hi), g.well⟩
theorem Well.mono {st : Store} {w k k' : Nat} (h : Well st w k) (hk : k ≤ k') : Well st w k' := by
  obtain ⟨a, b, c, h1, h2, h3⟩ := h
  exact ⟨a, b, c, h1, h2, by omega⟩
theorem Step.mono {w k k' : Nat} {a b : Store} (h : Step w k a b) (hk : k ≤ k') : Step w k' a b := ⟨h.len, h.other, h.well.mono hk⟩
theorem Step.refl {st : Store} {w k : Nat} (h : Well st w k) : Step w k st st := ⟨rfl, fun _ _ => rfl, h⟩
theorem Step.innerOk {w k base : Nat} {a b : Store} (h : Step w k a b) : innerOk base a b := fun n _ => by
  by_cases e : n = w
  · subst e
    obtain ⟨x, y, z, h1, _⟩ := h.well
    exact .inr ⟨_, h1, rfl⟩
  · exact .inl (h.other n e)
theorem Step.inner {w k base : Nat} {a b : Store} {α : Type} (x : α) (h : Step w k a b) : (Res.ok x b).inner base a = .ok x b := by
  simp only [Res.inner, if_pos h.innerOk]
theorem leave_rt {base : Nat} {st' : Store} {x : PyData} (h : st'.length = base) : leave base (.rt (.d x) st') = .ok (.d x) st' := by
  subst h; simp [leave, leaveU]
theorem leave_new {st : Store} {c : Cont} (h : c.closed st.length = true) : leave st.length (.rt (.cell st.length) (st ++ [c])) = .ok (.cell st.length) (st ++ [c]) := by
  simp [leave, leaveU, h]
theorem ixN_ok {n : Nat} {r : Int} (h : 0 ≤ r) (h2 : r < n) : L2.ixN n r = some r.toNat := by
  unfold L2.ixN
  split <;> (try split) <;> first | rfl | omega
theorem item_lst {st : Store} {xs : List PyData} {r : Int} (h : 0 ≤ r) (h2 : r < xs.length) : ∃ x, x ∈ xs ∧ itemOf st (.d (.list xs)) (.d (.int r)) = some (.d x) := by
  have hl : r.toNat < xs.length := by omega
  refine ⟨xs[r.toNat], List.getElem_mem hl, ?_⟩
  have : (ofD xs).length = xs.length := by simp [ofD]
  simp [itemOf, lstOf, L2.atI, this, ixN_ok h h2, ofD, hl]
theorem item_tup {st : Store} {xs : List PyData} {r : Int} (h : 0 ≤ r) (h2 : r < xs.length) : ∃ x, x ∈ xs ∧ itemOf st (.d (.tuple xs)) (.d (.int r)) = some (.d x) := by
  have hl : r.toNat < xs.length := by omega
  refine ⟨xs[r.toNat], List.getElem_mem hl, ?_⟩
  simp [itemOf, L2.atI, ixN_ok h h2, hl]
@[simp] theorem fin_nil (st : Store) : fin false st (.lst []) = .ok (.d (.list [])) st := rfl
@[simp] theorem fin_cons (st : Store) (u : U) (r : List U) : fin false st (.lst (u :: r)) = if r.length + 1 ≤ 16777216 then .opt (trees (u :: r)) fun xs => .ok (.d (.list xs)) st else .bad := rfl
@[simp] theorem fin_new (st : Store) (us : List U) : fin true st (.lst us) = if us.length ≤ 16777216 then .ok (.cell st.length) (st ++ [.lst us]) else .bad := rfl
@[simp] theorem fin_d0 (st : Store) (t : Bool) : fin false st (.dct t []) = .ok (.d (.dict [])) st := rfl
@[simp] theorem trees_nil : trees [] = some [] := rfl
@[simp] theorem trees_cons (x : PyData) (r : List U) : trees (.d x :: r) = (trees r).map (x :: ·) := rfl
theorem tupOf_eq (us : List U) : tupOf us = if us.length ≤ 16777216 then (trees us).map fun xs => .d (.tuple xs) else none := rfl
theorem fin_trees {st : Store} {xs : List PyData} (h : xs.length ≤ 16777216) : fin false st (.lst (ofD xs)) = .ok (.d (.list xs)) st := by
  have : (ofD xs).length ≤ sizeLine := by rw [show sizeLine = 16777216 from rfl]; simpa [ofD] using h
  simp only [fin, if_pos this, trees_ofD]
  rfl
@[simp] theorem ofD_nil : ofD [] = [] := rfl
@[simp] theorem ofD_cons (x : PyData) (r : List PyData) : ofD (x :: r) = .d x :: ofD r := rfl
@[simp] theorem bin_add_ll (st : Store) (xs ys : List PyData) : binop .Add st (.d (.list xs)) (.d (.list ys)) = if xs.length + ys.length ≤ 16777216 then some (.lst (ofD xs ++ ofD ys)) else none := by
  simp [binop, lstOf, chk, sizeLine, ofD]
/-! ### loops -/
theorem compL_at {src : Src} {step : U → Store → Res (Option U)} (I : Nat → List PyData → Store → Prop) (hk : ∀ i acc st, I i acc st → src.Keep st ∧ acc.length ≤ i)
    (hs : ∀ i u acc st, src.us[i]? = some u → I i acc st → ∃ (o : Option PyData) (st' : Store), step u st = .ok (o.map U.d) st' ∧ I (i + 1) (acc ++ o.toList) st') (hl : src.us.length ≤ 1000000) :
    ∀ (m i : Nat) (acc : List PyData) (st : Store), m = src.us.length - i → i ≤ src.us.length → I i acc st → ∃ xs st', compL src step (src.us.drop i) (ofD acc) st = .ok (ofD xs) st' ∧ I src.us.length xs st'
  | 0, i, acc, st, hm, hi, h => by
    have e : i = src.us.length := by omega
    subst e
    rw [List.drop_eq_nil_of_le (Nat.le_refl _)]
    unfold compL
    rw [if_pos (hk _ _ _ h).1]
    exact ⟨acc, st, rfl, h⟩
  | m + 1, i, acc, st, hm, hi, h => by
    have hlt : i < src.us.length := by omega
    rw [List.drop_eq_getElem_cons hlt]
    unfold compL
    obtain ⟨k1, k2⟩ := hk _ _ _ h
    have hz : (ofD acc).length < sizeLine := by
      have e : sizeLine = 16777216 := rfl
      have : (ofD acc).length = acc.length := by simp [ofD]
      omega
    rw [if_pos ⟨k1, hz⟩]
    obtain ⟨o, st', e1, h'⟩ := hs i _ acc st (List.getElem?_eq_getElem hlt) h
    rw [e1]
    have e2 : ofD acc ++ (o.map U.d).toList = ofD (acc ++ o.toList) := by cases o <;> simp [ofD]
    simp only [Res.nox_ok, Res.bind_ok, e2]
    exact compL_at I hk hs hl m (i + 1) _ _ (by omega) hlt h'
theorem compL_run {src : Src} {step : U → Store → Res (Option U)} {st : Store} (I : Nat → List PyData → Store → Prop) (hk : ∀ i acc st, I i acc st → src.Keep st ∧ acc.length ≤ i)
    (hs : ∀ i u acc st, src.us[i]? = some u → I i acc st → ∃ (o : Option PyData) (st' : Store), step u st = .ok (o.map U.d) st' ∧ I (i + 1) (acc ++ o.toList) st') (hl : src.us.length ≤ 1000000) (h0 : I 0 [] st) :
    ∃ xs st', compL src step src.us [] st = .ok (ofD xs) st' ∧ I src.us.length xs st' := by
  have := compL_at I hk hs hl src.us.length 0 [] st (by omega) (Nat.zero_le _) h0
  simpa using this
theorem forL_at {src : Src} {step : U → Vars → Store → FRes} (I : Nat → Vars → Store → Prop) (Q : U → Store → Prop) (hk : ∀ i τ st, I i τ st → src.Keep st)
    (hs : ∀ i u τ st, src.us[i]? = some u → I i τ st → (∃ τ' st', (step u τ st = .nx τ' st' ∨ step u τ st = .ct τ' st') ∧ I (i + 1) τ' st') ∨ ∃ r st', step u τ st = .rt r st' ∧ Q r st') :
    ∀ (m i : Nat) (τ : Vars) (st : Store), m = src.us.length - i → i ≤ src.us.length → I i τ st → (∃ τ' st', forL src step (src.us.drop i) τ st = .nx τ' st' ∧ I src.us.length τ' st') ∨ ∃ r st', forL src step (src.us.drop i) τ st = .rt r st' ∧ Q r st'
  | 0, i, τ, st, hm, hi, h => by
    have e : i = src.us.length := by omega
    subst e
    rw [List.drop_eq_nil_of_le (Nat.le_refl _)]
    unfold forL
    rw [if_pos (hk _ _ _ h)]
    exact .inl ⟨τ, st, rfl, h⟩
  | m + 1, i, τ, st, hm, hi, h => by
    have hlt : i < src.us.length := by omega
    rw [List.drop_eq_getElem_cons hlt, forL_cons (hk _ _ _ h)]
    rcases hs i _ τ st (List.getElem?_eq_getElem hlt) h with ⟨τ', st', e1, h'⟩ | ⟨r, st', e1, q⟩
    · have ih := forL_at I Q hk hs m (i + 1) τ' st' (by omega) hlt h'
      rcases e1 with e1 | e1 <;> (rw [e1]; exact ih)
    · rw [e1]
      exact .inr ⟨r, st', rfl, q⟩
theorem forL_run {src : Src} {step : U → Vars → Store → FRes} {τ : Vars} {st : Store} (I : Nat → Vars → Store → Prop) (Q : U → Store → Prop) (hk : ∀ i τ st, I i τ st → src.Keep st)
    (hs : ∀ i u τ st, src.us[i]? = some u → I i τ st → (∃ τ' st', (step u τ st = .nx τ' st' ∨ step u τ st = .ct τ' st') ∧ I (i + 1) τ' st') ∨ ∃ r st', step u τ st = .rt r st' ∧ Q r st') (h0 : I 0 τ st) :
    (∃ τ' st', forL src step src.us τ st = .nx τ' st' ∧ I src.us.length τ' st') ∨ ∃ r st', forL src step src.us τ st = .rt r st' ∧ Q r st' := by
  have := forL_at I Q hk hs src.us.length 0 τ st (by omega) (Nat.zero_le _) h0
  simpa using this
theorem keep_nil {us : List U} {st : Store} : Src.Keep ⟨[], us⟩ st := fun p hp => by cases hp
theorem rangeOf_get {lo : Int} {n i : Nat} {u : U} (e : (rangeOf lo n)[i]? = some u) : i < n ∧ u = .d (.int (lo + (i : Int))) := by
  unfold rangeOf at e
  rw [List.getElem?_map, Option.map_eq_some_iff] at e
  obtain ⟨j, h1, h2⟩ := e
  obtain ⟨h3, h4⟩ := List.getElem?_eq_some_iff.mp h1
  simp at h3 h4
  subst h4
  exact ⟨h3, h2.symm⟩
@[simp] theorem rangeOf_len (lo : Int) (n : Nat) : (rangeOf lo n).length = n := by simp [rangeOf]
theorem rng_1 {j : Int} (h : 0 ≤ j) (h2 : j < 2 ^ 60) : srcRng 1 [.d (.int j)] = some ⟨[], rangeOf 0 j.toNat⟩ := if_pos ⟨by omega, by omega⟩
theorem rep_one (m : Int) (x : PyData) : rep m [U.d x] = ofD (List.replicate m.toNat x) := by
  unfold rep ofD
  rw [List.map_replicate]
  generalize m.toNat = k
  induction k with
  | zero => rfl
  | succ k ih => rw [List.replicate_succ, List.flatten_cons, ih]; rfl
@[simp] theorem wipeV_nil (τ : Vars) : wipeV τ [] = τ := rfl
@[simp] theorem wipeV_cons (τ : Vars) (i : Nat) (r : List Nat) : wipeV τ (i :: r) = (wipeV τ r).set i none := rfl
@[simp] theorem q_len_list (st : Store) (xs : List PyData) : prim .len st [.d (.list xs)] = some (.u (.d (.int (xs.length : Int)))) := by simp [prim, lenOf, lstOf, ofD]
@[simp] theorem q_len_tup (st : Store) (xs : List PyData) : prim .len st [.d (.tuple xs)] = some (.u (.d (.int (xs.length : Int)))) := rfl
theorem q_len_str {st : Store} {x : Str} (h : x.length ≤ 1000000) : prim .len st [.d (.str x)] = some (.u (.d (.int (x.length : Int)))) := by
  have : x.length ≤ sizeLine := by rw [show sizeLine = 16777216 from rfl]; omega
  simp [prim, lenOf, chk, this]
theorem slice_to {st : Store} {xs : List PyData} {c : Int} (h : 0 ≤ c) (h2 : c ≤ xs.length) : sliceOf st (.d (.list xs)) none (some c) = some (.lst (ofD (xs.take c.toNat))) := by
  obtain ⟨k, rfl⟩ := Int.eq_ofNat_of_zero_le h
  have hk : k ≤ xs.length := by omega
  simp [sliceOf, lstOf, cutL, HT.sIx_nat, HT.sIx_none, ofD, Nat.min_eq_left hk]
theorem slice_from {st : Store} {xs : List PyData} {c : Int} (h : 0 ≤ c) (h2 : c ≤ xs.length) : sliceOf st (.d (.list xs)) (some c) none = some (.lst (ofD (xs.drop c.toNat))) := by
  obtain ⟨k, rfl⟩ := Int.eq_ofNat_of_zero_le h
  have hk : k ≤ xs.length := by omega
  simp [sliceOf, lstOf, cutL, HT.sIx_nat, HT.sIx_none, ofD, Nat.min_eq_left hk]
  exact List.take_of_length_le (by simp)
theorem item_str {st : Store} {z : Str} {r : Int} (h : 0 ≤ r) (h2 : r < z.length) (h3 : z.length ≤ 1000000) : ∃ c, c ∈ z.cps.toList ∧ itemOf st (.d (.str z)) (.d (.int r)) = some (.d (.str ⟨#[c]⟩)) := by
  have hl : r.toNat < z.cps.toList.length := by have : z.cps.toList.length = z.length := by simp [PySem.Str.length]
                                                omega
  refine ⟨z.cps.toList[r.toNat], List.getElem_mem hl, ?_⟩
  have hz : z.length ≤ sizeLine := by rw [show sizeLine = 16777216 from rfl]; omega
  have h4 : r < z.cps.toList.length := by have : z.cps.toList.length = z.length := by simp [PySem.Str.length]
                                          omega
  have h5 : L2.atI z.cps.toList r = some z.cps.toList[r.toNat] := by
    unfold L2.atI
    rw [ixN_ok h h4]
    exact List.getElem?_eq_getElem hl
  show (chk (z.length ≤ sizeLine) ()).bind _ = _
  rw [chk_true () hz]
  show (L2.atI z.cps.toList r).map _ = _
  rw [h5]
  rfl
@[simp] theorem isAbs_0 : isAbs .abs = true := rfl
@[simp] theorem isAbs_1 (i : Nat) : isAbs (.var i) = false := rfl
@[simp] theorem isAbs_2 (x : PyData) : isAbs (.lit x) = false := rfl
@[simp] theorem isAbs_3 (op : Operator) (fr : Bool) (a b : LE) : isAbs (.bop op fr a b) = false := rfl
@[simp] theorem isAbs_4 (f : Nat) (es : LEs) : isAbs (.call f es) = false := rfl
@[simp] theorem isAbs_5 (p : Prim) (fr : Bool) (es : LEs) : isAbs (.pr p fr es) = false := rfl
@[simp] theorem isAbs_6 (a i : LE) : isAbs (.idx a i) = false := rfl
@[simp] theorem isAbs_7 (a : LE) : isAbs (.neg a) = false := rfl
theorem bin_add_cl {st : Store} {c : Nat} {us : List U} (h : lstOf st (.cell c) = some us) (xs : List PyData) : binop .Add st (.cell c) (.d (.list xs)) = if us.length + xs.length ≤ 16777216 then some (.lst (us ++ ofD xs)) else none := by
  have e : binop .Add st (.cell c) (.d (.list xs)) = (match lstOf st (.cell c), lstOf st (.d (.list xs)) with
    | some us, some ws => chk (us.length + ws.length ≤ sizeLine) (Mk.lst (us ++ ws))
    | _, _ => none) := by
    simp only [binop]
    split <;> simp_all
  rw [e, h]
  simp [lstOf, chk, sizeLine, ofD]
theorem len_wt : ∀ xs : List PyData, xs.length ≤ wtAll xs
  | [] => Nat.le_refl _
  | x :: r => by have := len_wt r; simp only [List.length_cons, wtAll]; omega
@[simp] theorem inner_zero {α : Type} (a : α) (st st' : Store) : (Res.ok a st').inner 0 st = .ok a st' := by
  have h : innerOk 0 st st' := fun n h => absurd h (Nat.not_lt_zero n)
  simp only [Res.inner, if_pos h]
@[simp] theorem cmp_eqb (st : Store) (a b : Bool) : cmpop .Eq st (.d (.bool a)) (.d (.bool b)) = some (a == b) := by
  have h : eqOk (.bool a) (.bool b) := by cases a <;> cases b <;> decide
  show deq (.bool a) (.bool b) = _
  simp only [deq, diffLen, bothStr]
  simp [chk, h, PyData.eqv]
@[simp] theorem cmp_eqs (st : Store) (a b : Str) : cmpop .Eq st (.d (.str a)) (.d (.str b)) = some (a == b) := rfl
theorem q_repr {x : PyData} (h : Fine x) (st : Store) : prim .repr st [.d x] = some (.u (.d (.str x.shown))) := h.repr
theorem Well.app {st : Store} {w k : Nat} (h : Well st w k) (c : Cont) : Well (st ++ [c]) w k := by
  obtain ⟨a, b, d, h1, h2⟩ := h
  exact ⟨a, b, d, by rw [List.getElem?_append_left (List.getElem?_eq_some_iff.mp h1).1]; exact h1, h2⟩
theorem Well.lt {st : Store} {w k : Nat} (h : Well st w k) : w < st.length := by
  obtain ⟨a, b, d, h1, h2⟩ := h
  exact (List.getElem?_eq_some_iff.mp h1).1
theorem Well.setO {st : Store} {w k c : Nat} {x : Cont} (h : Well st w k) (hc : c ≠ w) : Well (st.set c x) w k := by
  obtain ⟨a, b, d, h1, h2⟩ := h
  exact ⟨a, b, d, by rw [List.getElem?_set_ne hc]; exact h1, h2⟩
theorem well_new {st : Store} {a b : Int} : Well (st ++ [.lst [.d (.int a), .d (.int b), .d (.int 0)]]) st.length 0 := ⟨a, b, 0, by simp, by decide, by decide⟩
@[simp] theorem cmp_ne_nil (st : Store) : cmpop .NotEq st (.d (.list [])) (.d (.list [])) = some false := rfl
@[simp] theorem cmp_eq_nil (st : Store) : cmpop .Eq st (.d (.list [])) (.d (.list [])) = some true := rfl
theorem slice_top {st : Store} {xs : List PyData} {c : Int} (h : 0 ≤ c) : sliceOf st (.d (.list xs)) none (some c) = some (.lst (ofD (xs.take c.toNat))) := by
  obtain ⟨k, rfl⟩ := Int.eq_ofNat_of_zero_le h
  simp [sliceOf, lstOf, cutL, HT.sIx_nat, HT.sIx_none, ofD]
end Z
/-! PC: comprehensions that choose and tell, over any list. -/
namespace Z
open PySem
theorem getD_ofD {xs : List PyData} {i : Nat} {u : U} (h : (ofD xs)[i]? = some u) : ∃ x, xs[i]? = some x ∧ u = .d x := by
  rw [ofD, List.getElem?_map, Option.map_eq_some_iff] at h
  obtain ⟨x, h1, h2⟩ := h
  exact ⟨x, h1, h2.symm⟩
theorem comp_flt {α : Type} {src : Src} {S : Store} {L : List α} (g r : α → PyData) (B : α → Bool) (hk : src.Keep S) (hus : src.us = ofD (L.map g)) (hl : L.length ≤ 1000000) {step : U → Store → Res (Option U)}
    (hs : ∀ x ∈ L, step (.d (g x)) S = .ok (if B x = true then some (.d (r x)) else none) S) : compL src step src.us [] S = .ok (ofD ((L.filter B).map r)) S := by
  obtain ⟨ys, s2, ec, hy, hst⟩ := compL_run (src := src) (st := S) (step := step) (fun i acc st2 => acc = ((L.take i).filter B).map r ∧ st2 = S)
    (fun i acc st2 ⟨g1, g2⟩ => ⟨g2 ▸ hk, by rw [g1, List.length_map]; exact Nat.le_trans (List.length_filter_le _ _) (by simp; omega)⟩)
    (fun i u acc st2 hu ⟨g1, g2⟩ => by
      subst g2
      rw [hus] at hu
      obtain ⟨x, hx, rfl⟩ := getD_ofD hu
      rw [List.getElem?_map, Option.map_eq_some_iff] at hx
      obtain ⟨t, ht, rfl⟩ := hx
      refine ⟨if B t = true then some (r t) else none, st2, ?_, ?_, rfl⟩
      · rw [hs t (List.mem_of_getElem? ht)]
        cases B t <;> rfl
      · rw [g1, List.take_add_one, ht, List.filter_append, List.map_append]
        cases hq : B t <;> simp [hq]) (by rw [hus]; simp [ofD]; omega) ⟨by simp, rfl⟩
  subst hst
  rw [ec, hy, hus]
  rw [show (ofD (L.map g)).length = L.length by simp [ofD], List.take_length]
theorem cp_gen {α : Type} {M0 : Mach} {b0 : Nat} {S S0 : Store} {src : Src} {L : List α} (g r : α → PyData) (B : α → Bool) (τx : α → Vars) {τ : Vars} {own : List Nat} {tg : Tg} {elt : LE} {is : LEs} {it : LI} {fr : Bool}
    (hit : mi M0 b0 it τ S0 = .ok src S) (hk : src.Keep S) (hus : src.us = ofD (L.map g)) (hl : L.length ≤ 1000000)
    (hT : ∀ x ∈ L, setT tg (.d (g x)) (wipeV τ own) = some (τx x)) (hA : ∀ x ∈ L, evA (mns M0 b0 is) (τx x) S = .ok (B x) S) (hE : ∀ x ∈ L, B x = true → (mn M0 b0 elt).val (τx x) S = .ok (.d (r x)) S) :
    (mn M0 b0 (.cp fr own elt tg it is)).val τ S0 = fin fr S (.lst (ofD ((L.filter B).map r))) := by
  rw [v_cp]
  unfold compU
  rw [hit, Res.bind_ok]
  rw [comp_flt g r B hk hus hl (fun x hx => by
    rw [hT x hx, Res.opt_some, hA x hx, Res.bind_ok]
    cases hB : B x with
    | true => rw [if_pos rfl, if_pos rfl, hE x hx hB, Res.bind_ok]
    | false => rw [if_neg (by simp), if_neg (by simp)]), Res.bind_ok]
/-- one name, tests -/
theorem cp_flt {α : Type} {M0 : Mach} {b0 : Nat} {S S0 : Store} {src : Src} {L : List α} (g r : α → PyData) (B : α → Bool) {τ : Vars} {i : Nat} {elt : LE} {is : LEs} {it : LI} {fr : Bool}
    (hit : mi M0 b0 it τ S0 = .ok src S) (hk : src.Keep S) (hus : src.us = ofD (L.map g)) (hl : L.length ≤ 1000000)
    (hA : ∀ x ∈ L, evA (mns M0 b0 is) (τ.set i (some (.d (g x)))) S = .ok (B x) S) (hE : ∀ x ∈ L, B x = true → (mn M0 b0 elt).val (τ.set i (some (.d (g x)))) S = .ok (.d (r x)) S) :
    (mn M0 b0 (.cp fr [i] elt (.v i) it is)).val τ S0 = fin fr S (.lst (ofD ((L.filter B).map r))) :=
  cp_gen g r B (fun x => τ.set i (some (.d (g x)))) hit hk hus hl (fun x _ => by rw [setT_v, wipeV_cons, wipeV_nil, List.set_set]) hA hE
/-- one name, no test -/
theorem cp_map {α : Type} {M0 : Mach} {b0 : Nat} {S S0 : Store} {src : Src} {L : List α} (g r : α → PyData) {τ : Vars} {i : Nat} {elt : LE} {it : LI} {fr : Bool}
    (hit : mi M0 b0 it τ S0 = .ok src S) (hk : src.Keep S) (hus : src.us = ofD (L.map g)) (hl : L.length ≤ 1000000)
    (hE : ∀ x ∈ L, (mn M0 b0 elt).val (τ.set i (some (.d (g x)))) S = .ok (.d (r x)) S) :
    (mn M0 b0 (.cp fr [i] elt (.v i) it .nil)).val τ S0 = fin fr S (.lst (ofD (L.map r))) := by
  have := cp_flt (fr := fr) (is := .nil) g r (fun _ => true) hit hk hus hl (fun x _ => rfl) (fun x hx _ => hE x hx)
  rwa [show L.filter (fun _ => true) = L from List.filter_eq_self.mpr fun _ _ => rfl] at this
theorem fin_cell {st : Store} {xs : List PyData} (h : xs.length ≤ 16777216) : fin true st (.lst (ofD xs)) = .ok (.cell st.length) (st ++ [.lst (ofD xs)]) := by
  rw [fin_new, if_pos (by simpa [ofD] using h)]
theorem src_cell {st : Store} {c : Nat} {us : List U} (h : st[c]? = some (.lst us)) : srcVal st (.cell c) = some ⟨[(c, us)], us⟩ := by
  simp [srcVal, srcLst, h]
theorem keep_one {st : Store} {c : Nat} {us ws : List U} (h : st[c]? = some (.lst us)) : Src.Keep ⟨[(c, us)], ws⟩ st := fun p hp => by
  simp only [List.mem_singleton] at hp
  subst hp; exact h
end Z
namespace Z
open PySem
theorem forL_go {src : Src} {step : U → Vars → Store → FRes} {τ : Vars} {st : Store} (I : Nat → Vars → Store → Prop) (hk : ∀ i τ st, I i τ st → src.Keep st) (h0 : I 0 τ st)
    (hs : ∀ i u τ st, src.us[i]? = some u → I i τ st → ∃ τ' st', step u τ st = .nx τ' st' ∧ I (i + 1) τ' st') : ∃ τ' st', forL src step src.us τ st = .nx τ' st' ∧ I src.us.length τ' st' := by
  rcases forL_run I (fun _ _ => False) hk (fun i u τ st hu h => by
    obtain ⟨τ', st', e, h'⟩ := hs i u τ st hu h
    exact .inl ⟨τ', st', .inl e, h'⟩) h0 with h | ⟨_, _, _, h⟩
  · exact h
  · exact h.elim
end Z
/-! OG: stores without dicts in trees; unlocking. -/
namespace K
open PySem Z
theorem nd_of {st : Store} (h : ndS st = true) {i : Nat} {c : Cont} (e : st[i]? = some c) : ndC c = true := List.all_eq_true.mp h c (List.mem_of_getElem? e)
theorem nd_mk {st : Store} (h : ∀ (i : Nat) (c : Cont), st[i]? = some c → ndC c = true) : ndS st = true := List.all_eq_true.mpr fun c hc => by
  obtain ⟨i, hi⟩ := List.getElem?_of_mem hc
  exact h i c hi
theorem nd_app {st : Store} (h : ndS st = true) {c : Cont} (hc : ndC c = true) : ndS (st ++ [c]) = true := by
  unfold ndS at h ⊢
  rw [List.all_append, h]
  simp [hc]
theorem nd_set {st : Store} (h : ndS st = true) {c : Cont} (hc : ndC c = true) (n : Nat) : ndS (st.set n c) = true := nd_mk fun i d e => by
  rw [List.getElem?_set] at e
  split at e
  · split at e
    · cases e; exact hc
    · cases e
  · exact nd_of h e
theorem set_self {st : Store} {a : Nat} {c d : Cont} (h : st[a]? = some c) : (st.set a d).set a c = st := by
  rw [List.set_set]
  refine List.ext_getElem? fun i => ?_
  rw [List.getElem?_set]
  split
  · rename_i e
    subst e
    split
    · exact h.symm
    · rename_i hl
      rw [List.getElem?_eq_none (by omega)] at h; cases h
  · rfl
theorem nd_well1 {st : Store} {w k : Nat} (h : Well st w k) {c : Cont} (e : st[w]? = some c) : ndC c = true := by
  obtain ⟨a, b, d, e2, _⟩ := h
  rw [e2] at e; cases e
  rfl
theorem nd_Step {w k : Nat} {st st' : Store} (h : Z.Step w k st st') (nd : ndS st = true) : ndS st' = true := nd_mk fun i c e => by
  by_cases hi : i = w
  · subst hi; exact nd_well1 h.well e
  · exact nd_of nd ((h.other i hi).symm.trans e)
theorem xl_unl {n : Nat} {τ : Vars} {st st1 : Store} (h : unlK τ n st = some st1) : (FRes.nx τ st).unl n = .nx τ st1 := by
  show (match unlK τ n st with
    | some st1 => FRes.nx τ st1
    | none => .bad) = _
  rw [h]
theorem unlS_at {n : Nat} {st : Store} {t : Bool} {kvs : List (PyData × U)} (hs : ndS st = true) (h : st[n]? = some (.fdct t kvs)) : unlS n st = some (st.set n (.dct t kvs)) := by
  unfold unlS
  rw [hs, h]
  rfl
end K
/-! LB: the defs that most laws share, and what they do. -/
namespace K
open PySem Z
/- is_whole, 0 -/
def b_is_whole : LSs :=
    (.cons (.ret (.bl .And (.cons (.pr (.isT .int) false (.cons (.var 0) .nil)) (.cons (.nt (.pr (.isT .bool) false (.cons (.var 0) .nil))) .nil))))
    .nil)
def F_is_whole : Fn := ⟨1, 1, b_is_whole⟩
/- is_sign, 1 -/
def b_is_sign : LSs :=
    (.cons (.ret (.bl .And (.cons (.pr (.isT .str) false (.cons (.var 0) .nil)) (.cons (.cmp (.pr .len false (.cons (.var 0) .nil)) (.cons .Eq (.lit (.int 1)) .nil)) (.cons (.cmp (.var 0) (.cons .In (.gco 0) .nil)) .nil)))))
    .nil)
def F_is_sign : Fn := ⟨1, 1, b_is_sign⟩
/- count_in, 2 -/
def b_count_in : LSs :=
    (.cons (.ife (.call 0 (.cons (.var 0) .nil)) (.cons (.ret (.lit (.int 1)))
    .nil) .nil)
    (.cons (.ife (.bl .Or (.cons (.nt (.pr (.isT .tuple) false (.cons (.var 0) .nil))) (.cons (.cmp (.pr .len false (.cons (.var 0) .nil)) (.cons .NotEq (.lit (.int 3)) .nil)) (.cons (.nt (.call 1 (.cons (.idx (.var 0) (.lit (.int 0))) .nil))) .nil)))) (.cons (.ret (.lit (.int 0)))
    .nil) .nil)
    (.cons (.set (.v 1) (.call 2 (.cons (.idx (.var 0) (.lit (.int 1))) .nil)))
    (.cons (.set (.v 2) (.call 2 (.cons (.idx (.var 0) (.lit (.int 2))) .nil)))
    (.cons (.ife (.bl .Or (.cons (.cmp (.var 1) (.cons .Eq (.lit (.int 0)) .nil)) (.cons (.cmp (.var 2) (.cons .Eq (.lit (.int 0)) .nil)) .nil))) (.cons (.ret (.lit (.int 0)))
    .nil) .nil)
    (.cons (.ret (.bop .Add false (.var 1) (.var 2)))
    .nil))))))
def F_count_in : Fn := ⟨1, 3, b_count_in⟩
/- is_way, 3 -/
def b_is_way : LSs :=
    (.cons (.ret (.cmp (.lit (.int 1)) (.cons .LtE (.call 2 (.cons (.var 0) .nil)) (.cons .LtE (.gco 1) .nil))))
    .nil)
def F_is_way : Fn := ⟨1, 1, b_is_way⟩
/- _law_mixed, 4 -/
def b_l_mixed : LSs :=
    (.cons (.set (.v 2) (.bop .Mod false (.bop .Add false (.bop .Add false (.bop .Mod false (.var 0) (.lit (.int 2147483629))) (.bop .Mult false (.bop .Mult false (.lit (.int 1000003)) (.var 1)) (.var 1))) (.bop .Mult false (.lit (.int 7919)) (.var 1))) (.lit (.int 2147483629))))
    (.cons (.set (.v 2) (.bop .Mod false (.bop .Mult false (.var 2) (.var 2)) (.lit (.int 2147483587))))
    (.cons (.ret (.bop .FloorDiv false (.bop .Mod false (.bop .Mult false (.var 2) (.bop .Add false (.var 2) (.lit (.int 40961)))) (.lit (.int 2147483563))) (.lit (.int 4))))
    .nil)))
def F_l_mixed : Fn := ⟨2, 3, b_l_mixed⟩
/- _law_well, 5 -/
def b_l_well : LSs :=
    (.cons (.ret (.lst true (.cons (.bop .Mult false (.var 0) (.pr .int false (.cons (.cmp (.var 0) (.cons .GtE (.bop .Pow false (.lit (.int 10)) (.lit (.int 18))) .nil)) .nil))) (.cons (.var 0) (.cons (.lit (.int 0)) .nil)))))
    .nil)
def F_l_well : Fn := ⟨1, 1, b_l_well⟩
/- _law_draw, 6 -/
def b_l_draw : LSs :=
    (.cons (.ife (.cmp (.idx (.var 0) (.lit (.int 0))) (.cons .Gt (.lit (.int 0)) .nil)) (.cons (.set (.v 2) (.bop .Mod false (.idx (.var 0) (.lit (.int 0))) (.var 1)))
    (.cons (.sub (.var 0) (.lit (.int 0)) (.bop .FloorDiv false (.idx (.var 0) (.lit (.int 0))) (.var 1)))
    (.cons (.ret (.var 2))
    .nil))) .nil)
    (.cons (.sub (.var 0) (.lit (.int 2)) (.bop .Add false (.idx (.var 0) (.lit (.int 2))) (.lit (.int 1))))
    (.cons (.ret (.bop .Mod false (.call 4 (.cons (.idx (.var 0) (.lit (.int 1))) (.cons (.idx (.var 0) (.lit (.int 2))) .nil))) (.var 1)))
    .nil)))
def F_l_draw : Fn := ⟨2, 3, b_l_draw⟩
/- _law_number, 7 -/
def b_l_number : LSs :=
    (.cons (.set (.v 1) (.lst false (.cons (.call 6 (.cons (.var 0) (.cons (.lit (.int 10)) .nil))) (.cons (.call 6 (.cons (.var 0) (.cons (.lit (.int 4)) .nil))) (.cons (.bop .Sub false (.lit (.int 0)) (.call 6 (.cons (.var 0) (.cons (.lit (.int 10)) .nil)))) (.cons (.call 6 (.cons (.var 0) (.cons (.bop .Pow false (.lit (.int 10)) (.lit (.int 12))) .nil))) .nil))))))
    (.cons (.set (.v 1) (.bop .Add false (.var 1) (.lst false (.cons (.bop .Sub false (.lit (.int 0)) (.call 6 (.cons (.var 0) (.cons (.bop .Pow false (.lit (.int 10)) (.lit (.int 12))) .nil)))) (.cons (.call 6 (.cons (.var 0) (.cons (.lit (.int 100)) .nil))) .nil)))))
    (.cons (.ret (.idx (.var 1) (.idx (.lst false (.cons (.lit (.int 0)) (.cons (.lit (.int 0)) (.cons (.lit (.int 0)) (.cons (.lit (.int 1)) (.cons (.lit (.int 1)) (.cons (.lit (.int 2)) (.cons (.lit (.int 2)) (.cons (.lit (.int 3)) (.cons (.lit (.int 4)) (.cons (.lit (.int 5)) .nil))))))))))) (.call 6 (.cons (.var 0) (.cons (.lit (.int 10)) .nil))))))
    .nil)))
def F_l_number : Fn := ⟨1, 2, b_l_number⟩
/- _law_row, 8 -/
def b_l_row_c1 : LE :=
    (.call 7 (.cons (.var 0) .nil))
def b_l_row : LSs :=
    (.cons (.ife (.cmp (.call 6 (.cons (.var 0) (.cons (.lit (.int 8)) .nil))) (.cons .Eq (.lit (.int 0)) .nil)) (.cons (.ret (.rept false (.cons (.call 7 (.cons (.var 0) .nil)) .nil) (.var 1)))
    .nil) .nil)
    (.cons (.ret (.cp false [2] b_l_row_c1 (.v 2) (.rng (.cons (.var 1) .nil)) .nil))
    .nil))
def F_l_row : Fn := ⟨2, 3, b_l_row⟩
/- _law_signs, 9 -/
def b_l_signs : LSs :=
    (.cons (.ret (.idx (.lst false (.cons (.lit (.str "+-*")) (.cons (.lit (.str "+-*")) (.cons (.lit (.str "+-*")) (.cons (.lit (.str "+")) (.cons (.lit (.str "-")) (.cons (.lit (.str "*")) (.cons (.lit (.str "+-")) (.cons (.lit (.str "+*")) (.cons (.lit (.str "-*")) .nil)))))))))) (.call 6 (.cons (.var 0) (.cons (.lit (.int 9)) .nil)))))
    .nil)
def F_l_signs : Fn := ⟨1, 1, b_l_signs⟩
/- _law_way, 10 -/
def b_l_way : LSs :=
    (.cons (.ife (.cmp (.pr .len false (.cons (.var 1) .nil)) (.cons .Eq (.lit (.int 1)) .nil)) (.cons (.ret (.idx (.var 1) (.lit (.int 0))))
    .nil) .nil)
    (.cons (.set (.v 3) (.idx (.lst false (.cons (.bop .Add false (.lit (.int 1)) (.call 6 (.cons (.var 0) (.cons (.bop .Sub false (.pr .len false (.cons (.var 1) .nil)) (.lit (.int 1))) .nil)))) (.cons (.lit (.int 1)) (.cons (.bop .Sub false (.pr .len false (.cons (.var 1) .nil)) (.lit (.int 1))) .nil)))) (.bop .FloorDiv false (.call 6 (.cons (.var 0) (.cons (.lit (.int 5)) .nil))) (.lit (.int 2)))))
    (.cons (.set (.v 4) (.idx (.var 2) (.call 6 (.cons (.var 0) (.cons (.pr .len false (.cons (.var 2) .nil)) .nil)))))
    (.cons (.ret (.tup (.cons (.var 4) (.cons (.call 10 (.cons (.var 0) (.cons (.slc false (.var 1) .abs (.var 3)) (.cons (.var 2) .nil)))) (.cons (.call 10 (.cons (.var 0) (.cons (.slc false (.var 1) (.var 3) .abs) (.cons (.var 2) .nil)))) .nil)))))
    .nil))))
def F_l_way : Fn := ⟨3, 5, b_l_way⟩
theorem run_at {T : Nat → Option Fn} {con : Nat → Option PyData} {fuel f n : Nat} {F : Fn} (h : T f = some F) {us : List U} {st : Store} (hl : us.length = F.np) :
    run T con fuel (n + 1) f us st = leave st.length (exs ⟨con, run T con fuel n, fuel⟩ st.length F.body (us.map some ++ List.replicate (F.nl - F.np) none) st) := by
  rw [run_eq, h]
  exact if_pos hl
theorem mul_l {i j : Int} (h : -(2 ^ 64) < i ∧ i < 2 ^ 64) : intOp .Mult i j = some (i * j) := if_pos (.inl (.inl h))
theorem mul_r {i j : Int} (h : -(2 ^ 64) < j ∧ j < 2 ^ 64) : intOp .Mult i j = some (i * j) := if_pos (.inl (.inr h))
theorem mod_p {i j : Int} (h : 0 < j) : intOp .Mod i j = some (i % j) := if_pos h
theorem div_p {i j : Int} (h : 0 < j) (h2 : j < 2 ^ 64) : intOp .FloorDiv i j = some (i / j) := by
  refine if_pos ⟨h, ?_⟩
  have h3 : j.natAbs < 2 ^ 64 := by omega
  have h4 : j.natAbs ≠ 0 := by omega
  have := (Nat.log2_lt h4).mpr h3
  omega
theorem pow_p {i j : Int} (h : 0 ≤ j ∧ j ≤ 1000000 ∧ i.natAbs < 2 ^ 64) : intOp .Pow i j = some (i ^ j.toNat) := if_pos h
@[simp] theorem add_p (i j : Int) : intOp .Add i j = some (i + j) := rfl
@[simp] theorem sub_p (i j : Int) : intOp .Sub i j = some (i - j) := rfl
@[simp] theorem cmp_gt (st : Store) (i j : Int) : cmpop .Gt st (.d (.int i)) (.d (.int j)) = some (decide (j < i)) := rfl
@[simp] theorem cmp_lt (st : Store) (i j : Int) : cmpop .Lt st (.d (.int i)) (.d (.int j)) = some (decide (i < j)) := rfl
@[simp] theorem cmp_ge (st : Store) (i j : Int) : cmpop .GtE st (.d (.int i)) (.d (.int j)) = some (decide (j ≤ i)) := rfl
@[simp] theorem cmp_le (st : Store) (i j : Int) : cmpop .LtE st (.d (.int i)) (.d (.int j)) = some (decide (i ≤ j)) := rfl
theorem deq_int (i j : Int) : deq (.int i) (.int j) = some (i == j) := rfl
@[simp] theorem cmp_eq (st : Store) (i j : Int) : cmpop .Eq st (.d (.int i)) (.d (.int j)) = some (i == j) := rfl
@[simp] theorem cmp_ne (st : Store) (i j : Int) : cmpop .NotEq st (.d (.int i)) (.d (.int j)) = some (!(i == j)) := rfl
/-! ### the drawn numbers -/
structure HW (T : Nat → Option Fn) : Prop where
  mixed : T 4 = some F_l_mixed
  well : T 5 = some F_l_well
  draw : T 6 = some F_l_draw
def mix1 (cell k : Int) : Int := (cell % 2147483629 + 1000003 * k * k + 7919 * k) % 2147483629
def mixed (cell k : Int) : Int := (mix1 cell k * mix1 cell k % 2147483587) * (mix1 cell k * mix1 cell k % 2147483587 + 40961) % 2147483563 / 4
section
variable {T : Nat → Option Fn} {con : Nat → Option PyData} {fuel n : Nat}
theorem f_mixed (h : HW T) (cell k : Int) (hk : 0 ≤ k) (hk2 : k < 2 ^ 60) (st : Store) : run T con fuel (n + 1) 4 [.d (.int cell), .d (.int k)] st = .ok (.d (.int (mixed cell k))) st := by
  rw [run_at h.mixed rfl]
  have m0 : intOp .Mod cell 2147483629 = some (cell % 2147483629) := mod_p (by decide)
  have m1 : intOp .Mult 1000003 k = some (1000003 * k) := mul_l (by decide)
  have m2 : intOp .Mult (1000003 * k) k = some (1000003 * k * k) := mul_r (by omega)
  have m3 : intOp .Mult 7919 k = some (7919 * k) := mul_l (by decide)
  have m4 : intOp .Mod (cell % 2147483629 + 1000003 * k * k + 7919 * k) 2147483629 = some (mix1 cell k) := mod_p (by decide)
  have b1 : 0 ≤ mix1 cell k ∧ mix1 cell k < 2147483629 := ⟨Int.emod_nonneg _ (by decide), Int.emod_lt_of_pos _ (by decide)⟩
  have m5 : intOp .Mult (mix1 cell k) (mix1 cell k) = some (mix1 cell k * mix1 cell k) := mul_l (by omega)
  have m6 : intOp .Mod (mix1 cell k * mix1 cell k) 2147483587 = some (mix1 cell k * mix1 cell k % 2147483587) := mod_p (by decide)
  have b2 : 0 ≤ mix1 cell k * mix1 cell k % 2147483587 ∧ mix1 cell k * mix1 cell k % 2147483587 < 2147483587 := ⟨Int.emod_nonneg _ (by decide), Int.emod_lt_of_pos _ (by decide)⟩
  have m7 : intOp .Mult (mix1 cell k * mix1 cell k % 2147483587) (mix1 cell k * mix1 cell k % 2147483587 + 40961) = some ((mix1 cell k * mix1 cell k % 2147483587) * (mix1 cell k * mix1 cell k % 2147483587 + 40961)) := mul_l (by omega)
  have m8 : intOp .Mod ((mix1 cell k * mix1 cell k % 2147483587) * (mix1 cell k * mix1 cell k % 2147483587 + 40961)) 2147483563 = some ((mix1 cell k * mix1 cell k % 2147483587) * (mix1 cell k * mix1 cell k % 2147483587 + 40961) % 2147483563) := mod_p (by decide)
  have m9 : intOp .FloorDiv ((mix1 cell k * mix1 cell k % 2147483587) * (mix1 cell k * mix1 cell k % 2147483587 + 40961) % 2147483563) 4 = some (mixed cell k) := div_p (by decide) (by decide)
  simp [F_l_mixed, b_l_mixed, m0, m1, m2, m3, m4, m5, m6, m7, m8, m9]
theorem f_draw (h : HW T) {w k : Nat} {st : Store} {m : Int} (hw : Well st w k) (hk : k < 2 ^ 50) (hm : 0 < m) (hm2 : m < 2 ^ 64) :
    ∃ r st', run T con fuel (n + 2) 6 [.cell w, .d (.int m)] st = .ok (.d (.int r)) st' ∧ 0 ≤ r ∧ r < m ∧ Step w (k + 1) st st' := by
  obtain ⟨a, b, c, e, h0, h1⟩ := hw
  have hwl : w < st.length := (List.getElem?_eq_some_iff.mp e).1
  rw [run_at h.draw rfl]
  have i0 : itemOf st (.cell w) (.d (.int 0)) = some (.d (.int a)) := by simp [itemOf, lstOf, e, L2.atI, L2.ixN]
  by_cases ha : 0 < a
  · have d1 : intOp .Mod a m = some (a % m) := mod_p hm
    have d2 : intOp .FloorDiv a m = some (a / m) := div_p hm hm2
    have s1 : setAt st.length st (.cell w) (.d (.int 0)) (.d (.int (a / m))) = some (st.set w (.lst [.d (.int (a / m)), .d (.int b), .d (.int c)])) := by
      simp [setAt, dctAt, lstAt, e, L2.ixN, okIn, U.below]
    refine ⟨a % m, st.set w (.lst [.d (.int (a / m)), .d (.int b), .d (.int c)]), ?_, Int.emod_nonneg _ (by omega), Int.emod_lt_of_pos _ hm, by simp, fun i hi => List.getElem?_set_ne (Ne.symm hi), a / m, b, c, by simp [hwl], h0, by omega⟩
    simp [F_l_draw, b_l_draw, i0, ha, d1, d2, s1]
    exact leave_rt (by simp)
  · have i2 : itemOf st (.cell w) (.d (.int 2)) = some (.d (.int c)) := by simp [itemOf, lstOf, e, L2.atI, L2.ixN]
    have s1 : setAt st.length st (.cell w) (.d (.int 2)) (.d (.int (c + 1))) = some (st.set w (.lst [.d (.int a), .d (.int b), .d (.int (c + 1))])) := by
      simp [setAt, dctAt, lstAt, e, L2.ixN, okIn, U.below]
    have e' : (st.set w (.lst [.d (.int a), .d (.int b), .d (.int (c + 1))]))[w]? = some (.lst [.d (.int a), .d (.int b), .d (.int (c + 1))]) := by simp [hwl]
    have j1 : itemOf (st.set w (.lst [.d (.int a), .d (.int b), .d (.int (c + 1))])) (.cell w) (.d (.int 1)) = some (.d (.int b)) := by simp [itemOf, lstOf, e', L2.atI, L2.ixN]
    have j2 : itemOf (st.set w (.lst [.d (.int a), .d (.int b), .d (.int (c + 1))])) (.cell w) (.d (.int 2)) = some (.d (.int (c + 1))) := by simp [itemOf, lstOf, e', L2.atI, L2.ixN]
    have c1 := f_mixed (con := con) (fuel := fuel) (n := n) h b (c + 1) (by omega) (by omega) (st.set w (.lst [.d (.int a), .d (.int b), .d (.int (c + 1))]))
    have d1 : intOp .Mod (mixed b (c + 1)) m = some (mixed b (c + 1) % m) := mod_p hm
    refine ⟨mixed b (c + 1) % m, st.set w (.lst [.d (.int a), .d (.int b), .d (.int (c + 1))]), ?_, Int.emod_nonneg _ (by omega), Int.emod_lt_of_pos _ hm, by simp, fun i hi => List.getElem?_set_ne (Ne.symm hi), a, b, c + 1, e', by omega, by omega⟩
    simp [F_l_draw, b_l_draw, i0, ha, i2, s1, j1, j2, c1, d1]
    exact leave_rt (by simp)
theorem f_well (h : HW T) (cell : Int) (st : Store) : ∃ a, run T con fuel (n + 1) 5 [.d (.int cell)] st = .ok (.cell st.length) (st ++ [.lst [.d (.int a), .d (.int cell), .d (.int 0)]]) := by
  rw [run_at h.well rfl]
  have m0 : intOp .Pow 10 18 = some (10 ^ 18) := pow_p (by decide)
  have m1 : intOp .Mult cell (if 1000000000000000000 ≤ cell then 1 else 0) = some (cell * if 1000000000000000000 ≤ cell then 1 else 0) := mul_r (by split <;> decide)
  refine ⟨cell * if 1000000000000000000 ≤ cell then 1 else 0, ?_⟩
  simp [F_l_well, b_l_well, m0, prim, m1]
  exact leave_new rfl
structure HN (T : Nat → Option Fn) : Prop extends HW T where
  number : T 7 = some F_l_number
  row : T 8 = some F_l_row
theorem f_number (h : HN T) {w k : Nat} {st : Store} (hw : Well st w k) (hk : k < 2 ^ 49) :
    ∃ r st', run T con fuel (n + 3) 7 [.cell w] st = .ok (.d (.int r)) st' ∧ r.natAbs < 2 ^ 40 ∧ Step w (k + 7) st st' := by
  obtain ⟨r1, s1, e1, a1, b1, g1⟩ := f_draw (con := con) (fuel := fuel) (n := n) h.toHW (m := 10) hw (by omega) (by decide) (by decide)
  obtain ⟨r2, s2, e2, a2, b2, g2⟩ := f_draw (con := con) (fuel := fuel) (n := n) h.toHW (m := 4) g1.well (by omega) (by decide) (by decide)
  obtain ⟨r3, s3, e3, a3, b3, g3⟩ := f_draw (con := con) (fuel := fuel) (n := n) h.toHW (m := 10) g2.well (by omega) (by decide) (by decide)
  obtain ⟨r4, s4, e4, a4, b4, g4⟩ := f_draw (con := con) (fuel := fuel) (n := n) h.toHW (m := 1000000000000) g3.well (by omega) (by decide) (by decide)
  obtain ⟨r5, s5, e5, a5, b5, g5⟩ := f_draw (con := con) (fuel := fuel) (n := n) h.toHW (m := 1000000000000) g4.well (by omega) (by decide) (by decide)
  obtain ⟨r6, s6, e6, a6, b6, g6⟩ := f_draw (con := con) (fuel := fuel) (n := n) h.toHW (m := 100) g5.well (by omega) (by decide) (by decide)
  obtain ⟨r7, s7, e7, a7, b7, g7⟩ := f_draw (con := con) (fuel := fuel) (n := n) h.toHW (m := 10) g6.well (by omega) (by decide) (by decide)
  have m0 : intOp .Pow 10 12 = some 1000000000000 := pow_p (by decide)
  obtain ⟨x, hx, ex⟩ := item_lst (st := s7) (xs := [.int 0, .int 0, .int 0, .int 1, .int 1, .int 2, .int 2, .int 3, .int 4, .int 5]) (r := r7) a7 (by simpa using b7)
  obtain ⟨j, rfl, j0, j1⟩ : ∃ j, x = .int j ∧ 0 ≤ j ∧ j < 6 := by
    simp only [List.mem_cons, List.not_mem_nil, or_false] at hx
    rcases hx with rfl | rfl | rfl | rfl | rfl | rfl | rfl | rfl | rfl | rfl <;> exact ⟨_, rfl, by decide, by decide⟩
  obtain ⟨y, hy, ey⟩ := item_lst (st := s7) (xs := [.int r1, .int r2, .int (-r3), .int r4, .int (-r5), .int r6]) (r := j) j0 (by simpa using j1)
  obtain ⟨v, rfl, hv⟩ : ∃ v, y = .int v ∧ v.natAbs < 2 ^ 40 := by
    simp only [List.mem_cons, List.not_mem_nil, or_false] at hy
    rcases hy with rfl | rfl | rfl | rfl | rfl | rfl <;> exact ⟨_, rfl, by omega⟩
  have gs := (((((g1.trans g2).trans g3).trans g4).trans g5).trans g6).trans g7
  refine ⟨v, s7, ?_, hv, gs⟩
  rw [run_at h.number rfl]
  have q1 := fun (b : Nat) => g1.inner (base := b) (U.d (.int r1))
  have q2 := fun (b : Nat) => g2.inner (base := b) (U.d (.int r2))
  have q3 := fun (b : Nat) => g3.inner (base := b) (U.d (.int r3))
  have q4 := fun (b : Nat) => g4.inner (base := b) (U.d (.int r4))
  have q5 := fun (b : Nat) => g5.inner (base := b) (U.d (.int r5))
  have q6 := fun (b : Nat) => g6.inner (base := b) (U.d (.int r6))
  have q7 := fun (b : Nat) => g7.inner (base := b) (U.d (.int r7))
  simp [F_l_number, b_l_number, e1, e2, e3, e4, q1, q2, q3, q4, m0, e5, e6, q5, q6, e7, q7, ex, ey]
  exact leave_rt gs.len
theorem f_row (h : HN T) {w k : Nat} {st : Store} {m : Int} (hw : Well st w k) (hk : k < 2 ^ 48) (hm : 0 ≤ m) (hm2 : m ≤ 60) :
    ∃ (xs : List Int) (st' : Store), run T con fuel (n + 4) 8 [.cell w, .d (.int m)] st = .ok (.d (.list (xs.map .int))) st' ∧ xs.length = m.toNat ∧ (∀ x ∈ xs, x.natAbs < 2 ^ 40) ∧ Step w (k + 500) st st' := by
  obtain ⟨r1, s1, e1, a1, b1, g1⟩ := f_draw (con := con) (fuel := fuel) (n := n + 1) h.toHW (m := 8) hw (by omega) (by decide) (by decide)
  have q1 := fun (b : Nat) => g1.inner (base := b) (U.d (.int r1))
  by_cases h0 : r1 = 0
  · subst h0
    obtain ⟨r2, s2, e2, a2, g2⟩ := f_number (con := con) (fuel := fuel) (n := n) h g1.well (by omega)
    have q2 := fun (b : Nat) => g2.inner (base := b) (U.d (.int r2))
    refine ⟨List.replicate m.toNat r2, s2, ?_, List.length_replicate .., fun x hx => by rw [(List.mem_replicate.mp hx).2]; exact a2, (g1.trans g2).mono (by omega)⟩
    rw [run_at h.row rfl]
    have c1 : chk (0 ≤ m ∧ m ≤ 1000) () = some () := if_pos ⟨hm, by omega⟩
    have c2 : fin false s2 (.lst (rep m [U.d (.int r2)])) = .ok (.d (.list (List.replicate m.toNat (.int r2)))) s2 := by
      rw [rep_one]
      exact fin_trees (by simp; omega)
    simp [F_l_row, b_l_row, e1, q1, e2, q2, chk, reptU, c1, c2]
    rw [if_pos ⟨hm, by omega⟩]
    simp [c2]
    exact leave_rt (g1.trans g2).len
  · obtain ⟨xs, s2, e2, l2, x2, g2⟩ : ∃ (xs : List Int) (s2 : Store), compL ⟨[], rangeOf 0 m.toNat⟩ (fun u st2 => Res.opt (setT (.v 2) u (wipeV [some (.cell w), some (.d (.int m)), none] [2])) fun τ1 =>
        (run T con fuel (n + 3) 7 [.cell w] st2).inner st.length st2 |>.bind fun x st4 => .ok (some x) st4) (rangeOf 0 m.toNat) [] s1 = .ok (ofD (xs.map .int)) s2 ∧ xs.length = m.toNat ∧ (∀ x ∈ xs, x.natAbs < 2 ^ 40) ∧ Step w (k + 500) st s2 := by
      obtain ⟨ys, s2, e, xs, rfl, l, x, g⟩ := compL_run (src := ⟨[], rangeOf 0 m.toNat⟩) (st := s1) (step := fun u st2 => Res.opt (setT (.v 2) u (wipeV [some (.cell w), some (.d (.int m)), none] [2])) fun τ1 =>
          (run T con fuel (n + 3) 7 [.cell w] st2).inner st.length st2 |>.bind fun x st4 => .ok (some x) st4)
        (fun i ys st2 => ∃ xs : List Int, ys = xs.map .int ∧ xs.length = i ∧ (∀ x ∈ xs, x.natAbs < 2 ^ 40) ∧ Step w (k + 1 + 7 * i) st st2)
        (fun i acc st2 ⟨xs, e, l, _⟩ => ⟨keep_nil, by rw [e]; simp [l]⟩) (fun i u acc st2 hu ⟨xs, e, l, x, g⟩ => by
          obtain ⟨hi, rfl⟩ := rangeOf_get hu
          obtain ⟨r2, s2, e2, a2, g2⟩ := f_number (con := con) (fuel := fuel) (n := n) h g.well (by omega)
          refine ⟨some (.int r2), s2, ?_, xs ++ [r2], by simp [e], by simp [l], fun y hy => ?_, (g.trans g2).mono (by omega)⟩
          · simp [e2, g2.inner]
          · rcases List.mem_append.mp hy with q | q
            · exact x y q
            · rw [List.mem_singleton.mp q]; exact a2) (by simp; omega) ⟨[], rfl, rfl, fun _ h => by simp at h, g1.mono (by omega)⟩
      simp only [rangeOf_len] at l g
      exact ⟨xs, s2, e, l, x, g.mono (by omega)⟩
    refine ⟨xs, s2, ?_, l2, x2, g2⟩
    rw [run_at h.row rfl]
    have c2 : fin false s2 (.lst (ofD (xs.map .int))) = .ok (.d (.list (xs.map .int))) s2 := fin_trees (by simp; omega)
    have c3 : srcRng 1 [.d (.int m)] = some ⟨[], rangeOf 0 m.toNat⟩ := rng_1 hm (by omega)
    have h0' : (r1 == 0) = false := by simpa using h0
    simp [F_l_row, b_l_row, b_l_row_c1, e1, q1, h0', compU, c3]
    simp only [setT_v, Res.opt_some] at e2
    rw [e2]
    simp [c2]
    exact leave_rt g2.len
/-! ### signs, ways -/
structure HS (T : Nat → Option Fn) : Prop extends HN T where
  signs : T 9 = some F_l_signs
  way : T 10 = some F_l_way
/-- signs to put -/
def Sg (x : Str) : Prop := 1 ≤ x.length ∧ x.length ≤ 3 ∧ ∀ c ∈ x.cps.toList, c = 43 ∨ c = 45 ∨ c = 42
instance (x : Str) : Decidable (Sg x) := by unfold Sg; infer_instance
theorem f_signs (h : HS T) {w k : Nat} {st : Store} (hw : Well st w k) (hk : k < 2 ^ 48) : ∃ (sg : Str) (st' : Store), run T con fuel (n + 3) 9 [.cell w] st = .ok (.d (.str sg)) st' ∧ Sg sg ∧ Step w (k + 1) st st' := by
  obtain ⟨r1, s1, e1, a1, b1, g1⟩ := f_draw (con := con) (fuel := fuel) (n := n) h.toHW (m := 9) hw (by omega) (by decide) (by decide)
  have q1 := fun (b : Nat) => g1.inner (base := b) (U.d (.int r1))
  obtain ⟨x, hx, ex⟩ := item_lst (st := s1) (xs := [.str "+-*", .str "+-*", .str "+-*", .str "+", .str "-", .str "*", .str "+-", .str "+*", .str "-*"]) (r := r1) a1 (by simpa using b1)
  obtain ⟨sg, rfl, hs⟩ : ∃ sg, x = .str sg ∧ Sg sg := by
    simp only [List.mem_cons, List.not_mem_nil, or_false] at hx
    rcases hx with rfl | rfl | rfl | rfl | rfl | rfl | rfl | rfl | rfl <;> exact ⟨_, rfl, by decide +kernel⟩
  refine ⟨sg, s1, ?_, hs, g1⟩
  rw [run_at h.signs rfl]
  simp [F_l_signs, b_l_signs, e1, q1, ex]
  exact leave_rt g1.len
/-- a way of these numbers, of these signs -/
inductive WayT (sg : Str) : List Int → PyData → Prop
  | one (a : Int) : WayT sg [a] (.int a)
  | two {c : Nat} {xs ys : List Int} {l r : PyData} : c ∈ sg.cps.toList → WayT sg xs l → WayT sg ys r → WayT sg (xs ++ ys) (.tuple [.str ⟨#[c]⟩, l, r])
theorem f_way (h : HS T) {sg : Str} (hs : Sg sg) : ∀ (L n : Nat) {w k : Nat} {st : Store} {xs : List Int}, xs.length = L + 1 → Well st w k → k + 3 * L < 2 ^ 48 → L ≤ 60 →
    ∃ (x : PyData) (st' : Store), run T con fuel (n + L + 3) 10 [.cell w, .d (.list (xs.map .int)), .d (.str sg)] st = .ok (.d x) st' ∧ WayT sg xs x ∧ Step w (k + 3 * L) st st' := by
  intro L
  induction L using Nat.strongRecOn with
  | _ L ih =>
  intro n w k st xs hl hw hk hL
  by_cases h1 : L = 0
  · subst h1
    obtain ⟨a, rfl⟩ : ∃ a, xs = [a] := by
      match xs, hl with
      | [a], _ => exact ⟨a, rfl⟩
    refine ⟨.int a, st, ?_, .one a, Step.refl hw⟩
    rw [run_at h.way rfl]
    have i0 : itemOf st (.d (.list [.int a])) (.d (.int 0)) = some (.d (.int a)) := by simp [itemOf, lstOf, L2.atI, L2.ixN]
    simp [F_l_way, b_l_way, i0]
  · have hn : n + L + 3 = (n + L) + 2 + 1 := by omega
    obtain ⟨r1, s1, e1, a1, b1, g1⟩ := f_draw (con := con) (fuel := fuel) (n := n + L) h.toHW (m := (L : Int)) hw (by omega) (by omega) (by omega)
    obtain ⟨r2, s2, e2, a2, b2, g2⟩ := f_draw (con := con) (fuel := fuel) (n := n + L) h.toHW (m := 5) g1.well (by omega) (by decide) (by decide)
    obtain ⟨r3, s3, e3, a3, b3, g3⟩ := f_draw (con := con) (fuel := fuel) (n := n + L) h.toHW (m := (sg.length : Int)) g2.well (by omega) (by have := hs.1; omega) (by have := hs.2.1; omega)
    have q1 := fun (b : Nat) => g1.inner (base := b) (U.d (.int r1))
    have q2 := fun (b : Nat) => g2.inner (base := b) (U.d (.int r2))
    have q3 := fun (b : Nat) => g3.inner (base := b) (U.d (.int r3))
    have d1 : intOp .FloorDiv r2 2 = some (r2 / 2) := div_p (by decide) (by decide)
    obtain ⟨x, hx, ex⟩ := item_lst (st := s2) (xs := [.int (1 + r1), .int 1, .int (L : Int)]) (r := r2 / 2) (by omega) (by simp; omega)
    obtain ⟨c, rfl, c1, c2⟩ : ∃ c : Int, x = .int c ∧ 1 ≤ c ∧ c ≤ L := by
      simp only [List.mem_cons, List.not_mem_nil, or_false] at hx
      rcases hx with rfl | rfl | rfl <;> exact ⟨_, rfl, by omega, by omega⟩
    obtain ⟨ch, hch, ec⟩ := item_str (st := s3) (z := sg) a3 b3 (by have := hs.2.1; omega)
    have sl1 : sliceOf s3 (.d (.list (xs.map .int))) none (some c) = some (.lst (ofD ((xs.map .int).take c.toNat))) := slice_to (by omega) (by simp; omega)
    obtain ⟨x4, s4, e4, w4, g4⟩ := ih (c.toNat - 1) (by omega) (n + (L - c.toNat)) (w := w) (k := k + 3) (st := s3) (xs := xs.take c.toNat) (by simp; omega) (by have := g3.well; exact this.mono (by omega)) (by omega) (by omega)
    have sl2 : sliceOf s4 (.d (.list (xs.map .int))) (some c) none = some (.lst (ofD ((xs.map .int).drop c.toNat))) := slice_from (by omega) (by simp; omega)
    obtain ⟨x5, s5, e5, w5, g5⟩ := ih (L - c.toNat) (by omega) (n + (c.toNat - 1)) (w := w) (k := k + 3 + 3 * (c.toNat - 1)) (st := s4) (xs := xs.drop c.toNat) (by simp; omega) g4.well (by omega) (by omega)
    rw [show n + (L - c.toNat) + (c.toNat - 1) + 3 = n + L + 2 by omega] at e4
    rw [show n + (c.toNat - 1) + (L - c.toNat) + 3 = n + L + 2 by omega] at e5
    rw [List.map_take] at e4
    rw [List.map_drop] at e5
    have q4 := fun (b : Nat) => g4.inner (base := b) (U.d x4)
    have q5 := fun (b : Nat) => g5.inner (base := b) (U.d x5)
    have gs := ((((g1.trans g2).trans g3).trans g4).trans g5)
    refine ⟨.tuple [.str ⟨#[ch]⟩, x4, x5], s5, ?_, ?_, gs.mono (by omega)⟩
    · rw [hn, run_at h.way rfl]
      have hL' : ((xs.length : Int) == 1) = false := by rw [hl]; simp; omega
      have hL2 : ((L : Int) + 1 == 1) = false := by simp; omega
      have f1 : fin false s3 (.lst (ofD ((xs.map .int).take c.toNat))) = .ok (.d (.list ((xs.map .int).take c.toNat))) s3 := fin_trees (by simp; omega)
      have f2 : fin false s4 (.lst (ofD ((xs.map .int).drop c.toNat))) = .ok (.d (.list ((xs.map .int).drop c.toNat))) s4 := fin_trees (by simp; omega)
      have hs3 := q_len_str (st := s2) (x := sg) (by have := hs.2.1; omega)
      simp [F_l_way, b_l_way, hl, hL2, e1, q1, e2, q2, d1, ex, hs3, e3, q3, ec, sl1, f1, e4, q4, sl2, f2, e5, q5, tupOf_eq]
      exact leave_rt gs.len
    · have := WayT.two (l := x4) (r := x5) hch w4 w5
      rwa [List.take_append_drop] at this
end
end K
/-! LC: the ways module. -/
namespace K
open PySem Z
theorem occ1 (c : Nat) : (!(Builtin.Str.occurrences "+-*" ⟨#[c]⟩ 0 3 1).isEmpty) = (decide (c = 43) || decide (c = 45) || decide (c = 42)) := by
  by_cases h1 : c = 43
  · subst h1; decide +kernel
  by_cases h2 : c = 45
  · subst h2; decide +kernel
  by_cases h3 : c = 42
  · subst h3; decide +kernel
  have e : ("+-*" : Str) = ⟨#[43, 45, 42]⟩ := by decide +kernel
  rw [e]
  simp [Builtin.Str.occurrences, Builtin.Str.subAt, PySem.Str.length, h1, h2, h3, Ne.symm h1, Ne.symm h2, Ne.symm h3, Std.Legacy.Range.forIn_eq_forIn_range', List.range']
structure HC (T : Nat → Option Fn) (con : Nat → Option PyData) : Prop where
  whole : T 0 = some F_is_whole
  sign : T 1 = some F_is_sign
  count : T 2 = some F_count_in
  way : T 3 = some F_is_way
  c0 : con 0 = some (.str "+-*")
  c1 : con 1 = some (.int 9)
def isWhole : PyData → Bool
  | .int _ => true
  | _ => false
/-- is one of the three signs -/
def sgn : PyData → Bool
  | .str s => decide (s.cps.toList = [43]) || decide (s.cps.toList = [45]) || decide (s.cps.toList = [42])
  | _ => false
/-- how many numbers a way has; 0 of what is none -/
def cnt : PyData → Nat
  | .int _ => 1
  | .tuple [s, a, b] => if sgn s = true ∧ cnt a ≠ 0 ∧ cnt b ≠ 0 then cnt a + cnt b else 0
  | _ => 0
section
variable {T : Nat → Option Fn} {con : Nat → Option PyData} {fuel n : Nat}
theorem f_whole (h : HC T con) (x : PyData) (st : Store) : run T con fuel (n + 1) 0 [.d x] st = .ok (.d (.bool (isWhole x))) st := by
  rw [run_at h.whole rfl]
  cases x <;> simp [F_is_whole, b_is_whole, tyIs, isWhole]
theorem one_cp {s : Str} (h : s.length = 1) : ∃ c, s = ⟨#[c]⟩ := by
  obtain ⟨a⟩ := s
  obtain ⟨c, rfl⟩ := Array.size_eq_one_iff.mp h
  exact ⟨c, rfl⟩
theorem f_sign (h : HC T con) {x : PyData} (hn : nice x = true) (st : Store) : run T con fuel (n + 1) 1 [.d x] st = .ok (.d (.bool (sgn x))) st := by
  rw [run_at h.sign rfl]
  cases x with
  | str s =>
    simp only [nice, Bool.and_eq_true, decide_eq_true_eq] at hn
    have hl := q_len_str (st := st) (x := s) (by omega)
    by_cases h1 : s.length = 1
    · obtain ⟨c, rfl⟩ := one_cp h1
      have e : cmpop .In st (.d (.str ⟨#[c]⟩)) (.d (.str "+-*")) = some (!(Builtin.Str.occurrences "+-*" ⟨#[c]⟩ 0 3 1).isEmpty) := rfl
      rw [occ1] at e
      simp [F_is_sign, b_is_sign, tyIs, hl, h1, h.c0, e, sgn]
    · have h2 : ((s.length : Int) == 1) = false := by simp; omega
      have h3 : sgn (.str s) = false := by
        have : ∀ c, s.cps.toList ≠ [c] := fun c e => h1 (by have := congrArg List.length e; simpa [PySem.Str.length] using this)
        simp [sgn, this]
      simp [F_is_sign, b_is_sign, tyIs, hl, h2, h3]
  | _ => simp [F_is_sign, b_is_sign, tyIs, sgn]
theorem depthAll_mem {x : PyData} : ∀ {xs : List PyData}, x ∈ xs → x.depth ≤ PyData.depthAll xs
  | y :: r, h => by
    simp only [PyData.depthAll]
    rcases List.mem_cons.mp h with e | e
    · subst e; omega
    · have := depthAll_mem e; omega
theorem niceAll_mem {x : PyData} : ∀ {xs : List PyData}, niceAll xs = true → x ∈ xs → nice x = true
  | y :: r, h, hx => by
    simp only [niceAll, Bool.and_eq_true] at h
    rcases List.mem_cons.mp hx with e | e
    · subst e; exact h.1
    · exact niceAll_mem h.2 e
theorem cnt_len : ∀ {xs : List PyData}, xs.length ≠ 3 → cnt (.tuple xs) = 0
  | [], _ => by simp [cnt]
  | [_], _ => by simp [cnt]
  | [_, _], _ => by simp [cnt]
  | [_, _, _], h => absurd rfl h
  | _ :: _ :: _ :: _ :: _, _ => by simp [cnt]
theorem item_0 {st : Store} {a b c : PyData} : itemOf st (.d (.tuple [a, b, c])) (.d (.int 0)) = some (.d a) := rfl
theorem item_1 {st : Store} {a b c : PyData} : itemOf st (.d (.tuple [a, b, c])) (.d (.int 1)) = some (.d b) := rfl
theorem item_2 {st : Store} {a b c : PyData} : itemOf st (.d (.tuple [a, b, c])) (.d (.int 2)) = some (.d c) := rfl
theorem f_count (h : HC T con) : ∀ (d n : Nat) {x : PyData}, x.depth ≤ d → nice x = true → ∀ st, run T con fuel (n + d + 2) 2 [.d x] st = .ok (.d (.int (cnt x))) st := by
  intro d
  induction d with
  | zero =>
    intro n x hd hn st
    rw [run_at h.count rfl]
    have e0 := f_whole (fuel := fuel) (n := n + 0) h x st
    cases x with
    | list xs => simp [PyData.depth] at hd
    | tuple xs => simp [PyData.depth] at hd
    | dict xs => simp [PyData.depth] at hd
    | _ => simp [F_count_in, b_count_in, e0, isWhole, tyIs, cnt]
  | succ d ih =>
    intro n x hd hn st
    rw [run_at h.count rfl]
    have e0 := f_whole (fuel := fuel) (n := n + d + 1) h x st
    have ee : n + (d + 1) + 1 = n + d + 1 + 1 := by omega
    cases x with
    | tuple xs =>
      by_cases hl : xs.length = 3
      · obtain ⟨a, b, c, rfl⟩ : ∃ a b c, xs = [a, b, c] := by
          match xs, hl with
          | [a, b, c], _ => exact ⟨a, b, c, rfl⟩
        simp only [PyData.depth, PyData.depthAll] at hd
        simp only [nice, niceAll, Bool.and_eq_true] at hn
        have e1 := f_sign (fuel := fuel) (n := n + d + 1) h hn.1 st
        have e2 := ih n (x := b) (by omega) hn.2.1 st
        have e3 := ih n (x := c) (by omega) hn.2.2.1 st
        by_cases hs : sgn a = true
        · by_cases hb : cnt b = 0
          · simp [F_count_in, b_count_in, ee, e0, isWhole, tyIs, item_0, e1, hs, item_1, item_2, e2, e3, cnt, hb]
          · have hb' : ((cnt b : Int) == 0) = false := by simpa using hb
            by_cases hc : cnt c = 0
            · simp [F_count_in, b_count_in, ee, e0, isWhole, tyIs, item_0, e1, hs, item_1, item_2, e2, e3, cnt, hb, hb', hc]
            · have hc' : ((cnt c : Int) == 0) = false := by simpa using hc
              simp [F_count_in, b_count_in, ee, e0, isWhole, tyIs, item_0, e1, hs, item_1, item_2, e2, e3, cnt, hb, hb', hc, hc']
        · have hs' : sgn a = false := by simpa using hs
          simp [F_count_in, b_count_in, ee, e0, isWhole, tyIs, item_0, e1, hs', cnt]
      · have hl' : ((xs.length : Int) == 3) = false := by simp; omega
        have hc := cnt_len hl
        simp [F_count_in, b_count_in, ee, e0, isWhole, tyIs, hl', hc]
    | _ => simp [F_count_in, b_count_in, ee, e0, isWhole, tyIs, cnt]
theorem f_isway (h : HC T con) {x : PyData} (hd : x.depth ≤ 60) (hn : nice x = true) (st : Store) : run T con fuel (n + 63) 3 [.d x] st = .ok (.d (.bool (decide (1 ≤ cnt x) && decide (cnt x ≤ 9)))) st := by
  rw [run_at h.way rfl]
  have e := f_count (fuel := fuel) h 60 n hd hn st
  by_cases h1 : 1 ≤ cnt x
  · have h1' : (1 : Int) ≤ (cnt x : Int) := by omega
    by_cases h2 : cnt x ≤ 9
    · have h2' : (cnt x : Int) ≤ 9 := by omega
      simp [F_is_way, b_is_way, e, h1, h1', h2, h2', h.c1]
    · have h2' : ¬ (cnt x : Int) ≤ 9 := by omega
      simp [F_is_way, b_is_way, e, h1, h1', h2, h2', h.c1]
  · have h1' : ¬ (1 : Int) ≤ (cnt x : Int) := by omega
    simp [F_is_way, b_is_way, e, h1, h1']
end
end K
/-! LI: rows and signs to put. -/
namespace Z
open PySem
def obody (z : Array Nat) (c : Nat) (i : Nat) (s : Array Nat × Nat) : Id (ForInStep (Array Nat × Nat)) :=
  if ((s.fst = #[] ∧ s.snd ≤ i) ∧ i + 1 ≤ z.size) ∧ z.extract i (i + 1) = #[c] then
            ForInStep.yield (s.fst.push i, i + 1)
          else ForInStep.yield (s.fst, s.snd)
theorem ofor_cons (z : Array Nat) (c i : Nat) (r : List Nat) (p q : Array Nat × Nat) (h : obody z c i p = .yield q) : forIn (m := Id) (i :: r) p (obody z c) = forIn (m := Id) r q (obody z c) := by
  rw [List.forIn_cons, h]; rfl
theorem occ_loop (z : Array Nat) (c : Nat) : ∀ (l : List Nat) (p : Array Nat × Nat), (p.1 ≠ #[] → (forIn (m := Id) l p (obody z c)).fst.isEmpty = false) ∧ (p = (#[], 0) → (forIn (m := Id) l p (obody z c)).fst.isEmpty = l.all fun i => !decide (i + 1 ≤ z.size ∧ z.extract i (i + 1) = #[c]))
  | [], p => ⟨fun h => by simpa [pure] using h, fun h => by subst h; rfl⟩
  | i :: r, p => by
    refine ⟨fun h => ?_, fun h => ?_⟩
    · have hh : ¬ (((p.fst = #[] ∧ p.snd ≤ i) ∧ i + 1 ≤ z.size) ∧ z.extract i (i + 1) = #[c]) := fun q => h q.1.1.1
      rw [ofor_cons z c i r p (p.1, p.2) (if_neg hh)]
      exact (occ_loop z c r (p.1, p.2)).1 h
    · subst h
      by_cases hh : i + 1 ≤ z.size ∧ z.extract i (i + 1) = #[c]
      · have h2 : (((#[] : Array Nat) = #[] ∧ 0 ≤ i) ∧ i + 1 ≤ z.size) ∧ z.extract i (i + 1) = #[c] := ⟨⟨⟨rfl, Nat.zero_le _⟩, hh.1⟩, hh.2⟩
        rw [ofor_cons z c i r (#[], 0) (#[].push i, i + 1) (if_pos h2)]
        refine ((occ_loop z c r (#[].push i, i + 1)).1 (by simp)).trans ?_
        simp [hh]
      · have h2 : ¬ ((((#[] : Array Nat) = #[] ∧ 0 ≤ i) ∧ i + 1 ≤ z.size) ∧ z.extract i (i + 1) = #[c]) := fun q => hh ⟨q.1.2, q.2⟩
        rw [ofor_cons z c i r (#[], 0) (#[], 0) (if_neg h2)]
        refine ((occ_loop z c r (#[], 0)).2 rfl).trans ?_
        simp only [List.all_cons, hh, decide_false, Bool.not_false, Bool.true_and]
theorem occX (z : Str) (c : Nat) : (!(Builtin.Str.occurrences z ⟨#[c]⟩ 0 z.length 1).isEmpty) = decide (c ∈ z.cps.toList) := by
  simp only [Builtin.Str.occurrences, Builtin.Str.subAt, Std.Legacy.Range.forIn_eq_forIn_range', Id.run, bind, pure, Id]
  simp [PySem.Str.length]
  have := (occ_loop z.cps c (List.range' 0 (z.cps.size + 1)) (#[], 0)).2 rfl
  refine this.trans ?_
  rw [Bool.eq_iff_iff]
  simp only [List.all_eq_true, Bool.not_eq_true', decide_eq_false_iff_not]
  constructor
  · intro h hc
    obtain ⟨i, hi, e⟩ := Array.mem_iff_getElem.mp hc
    refine h i (by simp; omega) ⟨hi, ?_⟩
    apply Array.ext
    · simp; omega
    · intro j h1 h2
      simp at h1 h2
      subst h2
      simpa using e
  · rintro h i hi ⟨h1, h2⟩
    refine h ?_
    have : i < z.cps.size := h1
    have e : z.cps[i] = c := by
      have h3 : (z.cps.extract i (i + 1))[0]? = some c := by rw [h2]; rfl
      rw [Array.getElem?_extract] at h3
      simp [this] at h3
      exact h3.2
    exact e ▸ Array.getElem_mem this
/-- a comprehension that changes nothing -/
theorem compL_pureS {src : Src} {us : List PyData} {step : U → Store → Res (Option U)} {st : Store} (hk : src.Keep st) (hus : src.us = ofD us) (f : PyData → Option PyData) (hs : ∀ x ∈ us, step (.d x) st = .ok ((f x).map .d) st) (hl : us.length ≤ 1000000) :
    compL src step src.us [] st = .ok (ofD (us.filterMap f)) st := by
  obtain ⟨xs, s2, e, rfl, rfl⟩ := compL_run (src := src) (st := st) (step := step) (fun i acc st2 => acc = (us.take i).filterMap f ∧ st2 = st)
    (fun i acc st2 ⟨h1, h2⟩ => ⟨by rw [h2]; exact hk, by rw [h1]; exact Nat.le_trans (List.length_filterMap_le _ _) (by simp; omega)⟩)
    (fun i u acc st2 hu ⟨h1, h2⟩ => by
      subst h2
      rw [hus] at hu
      obtain ⟨x, hx, rfl⟩ := get_ofD hu
      refine ⟨f x, st2, hs x (List.mem_of_getElem? hx), ?_, rfl⟩
      subst h1
      rw [List.take_add_one, hx, List.filterMap_append]
      cases h : f x <;> simp [h]) (by rw [hus]; simpa [ofD] using hl) ⟨rfl, rfl⟩
  rw [e, hus]
  simp [ofD]
theorem compL_pure {us : List PyData} {step : U → Store → Res (Option U)} {st : Store} (f : PyData → Option PyData) (hs : ∀ x ∈ us, step (.d x) st = .ok ((f x).map .d) st) (hl : us.length ≤ 1000000) :
    compL ⟨[], ofD us⟩ step (ofD us) [] st = .ok (ofD (us.filterMap f)) st := compL_pureS (src := ⟨[], ofD us⟩) (fun p hp => by cases hp) rfl f hs hl
/-! one statement, and what stands behind it -/
theorem seq_step {M : Mach} {b : Nat} {s : LS} {ss : LSs} {τ τ1 : Vars} {st st1 : Store} {r : FRes} (h : ex M b s τ st = .nx τ1 st1) (h2 : exs M b ss τ1 st1 = r) : exs M b (.cons s ss) τ st = r := by rw [xs_cons, h, seq_nx, h2]
theorem seq_ret {M : Mach} {b : Nat} {s : LS} {ss : LSs} {τ : Vars} {st st1 : Store} {u : U} (h : ex M b s τ st = .rt u st1) : exs M b (.cons s ss) τ st = .rt u st1 := by rw [xs_cons, h]; rfl
theorem seq_exc {M : Mach} {b : Nat} {s : LS} {ss : LSs} {τ τ1 : Vars} {st st1 : Store} {c : Nat} (h : ex M b s τ st = .ex c τ1 st1) : exs M b (.cons s ss) τ st = .ex c τ1 st1 := by rw [xs_cons, h]; rfl
theorem leave_of {b : Nat} {r : FRes} {u : U} {st1 : Store} {z : Res U} (h : r = .rt u st1) (h2 : leave b (.rt u st1) = z) : leave b r = z := by rw [h, h2]
end Z
namespace K
open PySem Z
/- is_row, 74 -/
def b_is_row_c1 : LE :=
    (.var 1)
def b_is_row_i1 : LEs :=
    (.cons (.nt (.call 0 (.cons (.var 1) .nil))) .nil)
def b_is_row : LSs :=
    (.cons (.ife (.bl .Or (.cons (.nt (.pr (.isT .list) false (.cons (.var 0) .nil))) (.cons (.nt (.cmp (.lit (.int 1)) (.cons .LtE (.pr .len false (.cons (.var 0) .nil)) (.cons .LtE (.gco 1) .nil)))) .nil))) (.cons (.ret (.lit (.bool false)))
    .nil) .nil)
    (.cons (.ret (.cmp (.cp false [1] b_is_row_c1 (.v 1) (.val (.var 0)) b_is_row_i1) (.cons .Eq (.lst false .nil) .nil)))
    .nil))
def F_is_row : Fn := ⟨1, 2, b_is_row⟩
/- is_signs, 75 -/
def b_is_signs_c1 : LE :=
    (.var 1)
def b_is_signs_i1 : LEs :=
    (.cons (.cmp (.var 1) (.cons .In (.var 0) .nil)) .nil)
def b_is_signs : LSs :=
    (.cons (.ife (.bl .Or (.cons (.nt (.pr (.isT .str) false (.cons (.var 0) .nil))) (.cons (.cmp (.var 0) (.cons .Eq (.lit (.str "")) .nil)) .nil))) (.cons (.ret (.lit (.bool false)))
    .nil) .nil)
    (.cons (.ret (.cmp (.var 0) (.cons .Eq (.me .join false (.lit (.str "")) (.cons (.cp false [1] b_is_signs_c1 (.v 1) (.val (.gco 0)) b_is_signs_i1) .nil)) .nil)))
    .nil))
def F_is_signs : Fn := ⟨1, 2, b_is_signs⟩
structure HR (T : Nat → Option Fn) (con : Nat → Option PyData) : Prop where
  whole : T 0 = some F_is_whole
  c0 : con 0 = some (.str "+-*")
  c1 : con 1 = some (.int 9)
  row : T 74 = some F_is_row
  signs : T 75 = some F_is_signs
def isRow : PyData → Bool
  | .list xs => decide (1 ≤ xs.length) && decide (xs.length ≤ 9) && xs.all isWhole
  | _ => false
def seven : List Str := ["+", "-", "*", "+-", "+*", "-*", "+-*"]
def isSg : PyData → Bool
  | .str s => seven.any (· == s)
  | _ => false
section
variable {T : Nat → Option Fn} {con : Nat → Option PyData} {fuel : Nat}
theorem gr_whole {n : Nat} (h : HR T con) (x : PyData) (st : Store) : run T con fuel (n + 1) 0 [.d x] st = .ok (.d (.bool (isWhole x))) st := by
  rw [run_at h.whole rfl]
  cases x <;> simp [F_is_whole, b_is_whole, tyIs, isWhole]
theorem g_is_row (h : HR T con) {N : Nat} (hN : 2 ≤ N) (x : PyData) (st : Store) : run T con fuel N 74 [.d x] st = .ok (.d (.bool (isRow x))) st := by
  obtain ⟨n, rfl⟩ : ∃ n, N = n + 2 := ⟨N - 2, by omega⟩
  rw [run_at h.row rfl]
  cases x with
  | list xs =>
    by_cases h1 : 1 ≤ xs.length
    · by_cases h2 : xs.length ≤ 9
      · have h1' : (1 : Int) ≤ (xs.length : Int) := by omega
        have h2' : (xs.length : Int) ≤ 9 := by omega
        have key : (mn ⟨con, run T con fuel (n + 1), fuel⟩ st.length (.cp false [1] b_is_row_c1 (.v 1) (.val (.var 0)) b_is_row_i1)).val [some (.d (.list xs)), none] st = .ok (.d (.list (xs.filterMap fun x => if isWhole x then none else some x))) st := by
          have e := compL_pure (us := xs) (st := st) (step := fun u st2 => Res.opt (setT (.v 1) u (wipeV [some (.d (.list xs)), none] [1])) fun τ1 => (evA (mns ⟨con, run T con fuel (n + 1), fuel⟩ st.length b_is_row_i1) τ1 st2).bind fun b st3 =>
              if b then ((mn ⟨con, run T con fuel (n + 1), fuel⟩ st.length b_is_row_c1).val τ1 st3).bind fun x st4 => .ok (some x) st4 else .ok none st3) (fun x => if isWhole x then none else some x) (fun x hx => by
              have e0 := gr_whole (fuel := fuel) (n := n) h x st
              cases hw : isWhole x <;> simp [b_is_row_i1, b_is_row_c1, e0, hw]) (by omega)
          rw [v_cp]
          unfold compU
          simp [srcVal, srcLst] at e ⊢
          rw [e]
          exact fin_trees (Nat.le_trans (List.length_filterMap_le _ _) (by omega))
        have fe : cmpop .Eq st (.d (.list (xs.filterMap fun x => if isWhole x then none else some x))) (.d (.list [])) = some (xs.all isWhole) := by
          show deq _ _ = _
          cases hq : xs.filterMap fun x => if isWhole x then none else some x with
          | nil =>
            have : xs.all isWhole = true := by
              rw [List.all_eq_true]
              intro x hx
              by_cases hw : isWhole x = true
              · exact hw
              · have : x ∈ xs.filterMap fun x => if isWhole x then none else some x := List.mem_filterMap.mpr ⟨x, hx, by simp [hw]⟩
                rw [hq] at this
                cases this
            rw [this]; rfl
          | cons y r =>
            have : y ∈ xs.filterMap fun x => if isWhole x then none else some x := by rw [hq]; simp
            obtain ⟨x, hx, hxy⟩ := List.mem_filterMap.mp this
            have hw : isWhole x = false := by
              cases q : isWhole x
              · rfl
              · rw [q] at hxy; simp at hxy
            have : xs.all isWhole = false := by
              rw [List.all_eq_false]
              exact ⟨x, hx, by simp [hw]⟩
            rw [this]
            simp [deq, diffLen]
        simp [-v_cp, F_is_row, b_is_row, tyIs, h1, h1', h2, h2', h.c1, key, fe, isRow]
      · have h1' : (1 : Int) ≤ (xs.length : Int) := by omega
        have h2' : ¬ (xs.length : Int) ≤ 9 := by omega
        simp [-v_cp, F_is_row, b_is_row, tyIs, h1, h1', h2, h2', h.c1, isRow]
    · have h1' : ¬ (1 : Int) ≤ (xs.length : Int) := by omega
      simp [-v_cp, F_is_row, b_is_row, tyIs, h1, h1', h.c1, isRow]
  | _ => simp [-v_cp, F_is_row, b_is_row, tyIs, isRow]
theorem str_in {st : Store} {s : Str} (h : nice (.str s) = true) (ss : List Str) (hs : SeqAt.shaped (.list (ss.map .str)) = true) : cmpop .In st (.d (.str s)) (.d (.list (ss.map .str))) = some (ss.any (· == s)) := by
  have e : cmpop .In st (.d (.str s)) (.d (.list (ss.map .str))) = chk (eqOk (.str s) (.list (ss.map .str))) ((ss.map PyData.str).any fun y => y.eqv (.str s)) := rfl
  have ok : eqOk (.str s) (.list (ss.map .str)) := by
    simp only [nice, Bool.and_eq_true, decide_eq_true_eq] at h
    refine ⟨?_, hs⟩
    show ((PyData.str s).canLay0 && decide ((PyData.str s).depth ≤ 64)) = true
    simp only [PyData.canLay0, PyData.depth, PyData.strOk]
    simp [h.2]
  rw [e, chk_true _ ok, List.any_map]
  rfl
def jn (s : Str) : List PyData := (if 43 ∈ s.cps.toList then [.str "+"] else []) ++ ((if 45 ∈ s.cps.toList then [.str "-"] else []) ++ (if 42 ∈ s.cps.toList then [.str "*"] else []))
def jnS (s : Str) : Str := ⟨((if 43 ∈ s.cps.toList then [43] else []) ++ ((if 45 ∈ s.cps.toList then [45] else []) ++ (if 42 ∈ s.cps.toList then [42] else []))).toArray⟩
theorem jn_join (s : Str) (st : Store) : joinU st (.d (.str "")) (.d (.list (jn s))) = some (.d (.str (jnS s))) := by
  unfold jn jnS
  by_cases a : 43 ∈ s.cps.toList <;> by_cases b : 45 ∈ s.cps.toList <;> by_cases c : 42 ∈ s.cps.toList <;> simp only [a, b, c, if_true, if_false] <;> rfl
theorem jn_eq {s : Str} (h : s ≠ "") : (s == jnS s) = seven.any (· == s) := by
  rw [Bool.eq_iff_iff]
  constructor
  · intro q
    have q : s = jnS s := by simpa using q
    have : jnS s ∈ seven ∨ jnS s = "" := by
      unfold jnS
      by_cases a : 43 ∈ s.cps.toList <;> by_cases b : 45 ∈ s.cps.toList <;> by_cases c : 42 ∈ s.cps.toList <;> simp only [a, b, c, if_true, if_false] <;> decide +kernel
    rw [← q] at this
    rcases this with t | t
    · exact List.any_eq_true.mpr ⟨s, t, by simp⟩
    · exact absurd t h
  · intro q
    obtain ⟨t, ht, e⟩ := List.any_eq_true.mp q
    have : t = s := by simpa using e
    subst this
    simp only [seven, List.mem_cons, List.not_mem_nil, or_false] at ht
    rcases ht with rfl | rfl | rfl | rfl | rfl | rfl | rfl <;> decide +kernel
def inS (s : Str) : PyData → Bool
  | .str t => t.cps.toList.all fun c => decide (c ∈ s.cps.toList)
  | _ => false
theorem g_is_signs (h : HR T con) {N : Nat} (hN : 1 ≤ N) {x : PyData} (hn : nice x = true) (st : Store) : run T con fuel N 75 [.d x] st = .ok (.d (.bool (isSg x))) st := by
  obtain ⟨n, rfl⟩ : ∃ n, N = n + 1 := ⟨N - 1, by omega⟩
  rw [run_at h.signs rfl]
  cases x with
  | str s =>
    by_cases h0 : s = ""
    · subst h0
      have : isSg (.str "") = false := by decide +kernel
      simp [-v_cp, F_is_signs, b_is_signs, tyIs, this]
    · have key : (mn ⟨con, run T con fuel n, fuel⟩ st.length (.cp false [1] b_is_signs_c1 (.v 1) (.val (.gco 0)) b_is_signs_i1)).val [some (.d (.str s)), none] st = .ok (.d (.list (jn s))) st := by
        have e := compL_pure (us := signs "+-*") (st := st) (step := fun u st2 => Res.opt (setT (.v 1) u (wipeV [some (.d (.str s)), none] [1])) fun τ1 => (evA (mns ⟨con, run T con fuel n, fuel⟩ st.length b_is_signs_i1) τ1 st2).bind fun b st3 =>
              if b then ((mn ⟨con, run T con fuel n, fuel⟩ st.length b_is_signs_c1).val τ1 st3).bind fun x st4 => .ok (some x) st4 else .ok none st3) (fun x => if inS s x = true then some x else none) (fun x hx => by
              have hx' : x ∈ [PyData.str ⟨#[43]⟩, .str ⟨#[45]⟩, .str ⟨#[42]⟩] := hx
              simp only [List.mem_cons, List.not_mem_nil, or_false] at hx'
              have o : ∀ c : Nat, cmpop .In st (.d (.str ⟨#[c]⟩)) (.d (.str s)) = some (decide (c ∈ s.cps.toList)) := fun c => by
                have : cmpop .In st (.d (.str ⟨#[c]⟩)) (.d (.str s)) = some (!(Builtin.Str.occurrences s ⟨#[c]⟩ 0 s.length 1).isEmpty) := rfl
                rw [this, occX]
              rcases hx' with rfl | rfl | rfl
              · by_cases q : 43 ∈ s.cps.toList <;> simp [b_is_signs_i1, b_is_signs_c1, o, q, inS] <;> simp_all
              · by_cases q : 45 ∈ s.cps.toList <;> simp [b_is_signs_i1, b_is_signs_c1, o, q, inS] <;> simp_all
              · by_cases q : 42 ∈ s.cps.toList <;> simp [b_is_signs_i1, b_is_signs_c1, o, q, inS] <;> simp_all) (by decide)
        rw [v_cp]
        unfold compU
        simp [srcVal, h.c0] at e ⊢
        rw [e]
        have e2 : (signs "+-*").filterMap (fun x => if inS s x = true then some x else none) = jn s := by
          show List.filterMap _ [PyData.str ⟨#[43]⟩, .str ⟨#[45]⟩, .str ⟨#[42]⟩] = _
          unfold jn
          by_cases a : 43 ∈ s.cps.toList <;> by_cases b : 45 ∈ s.cps.toList <;> by_cases c : 42 ∈ s.cps.toList <;> simp only [inS, List.all_cons, List.all_nil, List.filterMap_cons, List.filterMap_nil, a, b, c, decide_true, decide_false, Bool.and_true, if_true, if_false, reduceCtorEq] <;> rfl
        have e3 : (jn s).length ≤ 16777216 := by
          unfold jn
          by_cases a : 43 ∈ s.cps.toList <;> by_cases b : 45 ∈ s.cps.toList <;> by_cases c : 42 ∈ s.cps.toList <;> simp [a, b, c]
        rw [e2]
        exact fin_trees e3
      have h0' : (s == "") = false := by simpa using h0
      have mj : meth st.length .join st (.d (.str "")) [.d (.list (jn s))] = some (.u (.d (.str (jnS s))), st) := by
        show (joinU st _ _).map _ = _
        rw [jn_join]; rfl
      have mt : mty .join st (.d (.str "")) = some () := rfl
      have je := jn_eq h0
      simp [-v_cp, F_is_signs, b_is_signs, tyIs, h0', key, mt, mj, je, isSg]
  | _ => simp [-v_cp, F_is_signs, b_is_signs, tyIs, isSg]
end
end K
/-! LD: bounds of trees; while loops. -/
namespace Z
open PySem
theorem whileL_run {test : Vars → Store → Res Bool} {step : Vars → Store → FRes} (I : Nat → Vars → Store → Prop) (F : Vars → Store → Prop) (Q : U → Store → Prop)
    (h : ∀ m τ st, I m τ st → (∃ st1, test τ st = .ok false st1 ∧ F τ st1) ∨ ∃ st1, test τ st = .ok true st1 ∧ ((∃ τ' st', (step τ st1 = .nx τ' st' ∨ step τ st1 = .ct τ' st') ∧ ∃ m', m' < m ∧ I m' τ' st') ∨ ∃ r st', step τ st1 = .rt r st' ∧ Q r st')) :
    ∀ (N m : Nat) (τ : Vars) (st : Store), m < N → I m τ st → (∃ τ' st', whileL test step N τ st = .nx τ' st' ∧ F τ' st') ∨ ∃ r st', whileL test step N τ st = .rt r st' ∧ Q r st'
  | 0, m, τ, st, hm, hi => by omega
  | N + 1, m, τ, st, hm, hi => by
    rcases h m τ st hi with ⟨st1, e, f⟩ | ⟨st1, e, q⟩
    · refine .inl ⟨τ, st1, ?_, f⟩
      unfold whileL
      rw [e]
      rfl
    · rcases q with ⟨τ', st', e2, m', hm', hi'⟩ | ⟨r, st', e2, q⟩
      · have ih := whileL_run I F Q h N m' τ' st' (by omega) hi'
        have e3 : whileL test step (N + 1) τ st = whileL test step N τ' st' := by
          conv => lhs; unfold whileL
          rw [e]
          rcases e2 with e2 | e2 <;> simp [e2]
        rw [e3]
        exact ih
      · refine .inr ⟨r, st', ?_, q⟩
        unfold whileL
        rw [e]
        simp [e2]
/-- a tree within bounds -/
structure Fi (d w : Nat) (x : PyData) : Prop where
  nice : nice x = true
  depth : x.depth ≤ d
  wt : wt x ≤ w
theorem Fi.mono {d d' w w' : Nat} {x : PyData} (h : Fi d w x) (h1 : d ≤ d') (h2 : w ≤ w') : Fi d' w' x := ⟨h.nice, by have := h.depth; omega, by have := h.wt; omega⟩
theorem Fi.fine {d w : Nat} {x : PyData} (h : Fi d w x) (h1 : d ≤ 60) (h2 : w ≤ 16000000) : Fine x := ⟨h.nice, by have := h.depth; omega, by have := h.wt; omega⟩
theorem Fi.tup3 {d w1 w2 w3 : Nat} {a b c : PyData} (h1 : Fi d w1 a) (h2 : Fi d w2 b) (h3 : Fi d w3 c) : Fi (d + 1) (w1 + w2 + w3 + 10) (.tuple [a, b, c]) :=
  ⟨by simp [Z.nice, niceAll, h1.nice, h2.nice, h3.nice], by have := h1.depth; have := h2.depth; have := h3.depth; simp only [PyData.depth, PyData.depthAll]; omega, by have := h1.wt; have := h2.wt; have := h3.wt; simp only [Z.wt, wtAll]; omega⟩
theorem Fi.lst3 {d w1 w2 w3 : Nat} {a b c : PyData} (h1 : Fi d w1 a) (h2 : Fi d w2 b) (h3 : Fi d w3 c) : Fi (d + 1) (w1 + w2 + w3 + 10) (.list [a, b, c]) :=
  ⟨by simp [Z.nice, niceAll, h1.nice, h2.nice, h3.nice], by have := h1.depth; have := h2.depth; have := h3.depth; simp only [PyData.depth, PyData.depthAll]; omega, by have := h1.wt; have := h2.wt; have := h3.wt; simp only [Z.wt, wtAll]; omega⟩
theorem Fi.tup2 {d w1 w2 : Nat} {a b : PyData} (h1 : Fi d w1 a) (h2 : Fi d w2 b) : Fi (d + 1) (w1 + w2 + 8) (.tuple [a, b]) :=
  ⟨by simp [Z.nice, niceAll, h1.nice, h2.nice], by have := h1.depth; have := h2.depth; simp only [PyData.depth, PyData.depthAll]; omega, by have := h1.wt; have := h2.wt; simp only [Z.wt, wtAll]; omega⟩
theorem Fi.tup4 {d w1 w2 w3 w4 : Nat} {a b c e : PyData} (h1 : Fi d w1 a) (h2 : Fi d w2 b) (h3 : Fi d w3 c) (h4 : Fi d w4 e) : Fi (d + 1) (w1 + w2 + w3 + w4 + 12) (.tuple [a, b, c, e]) :=
  ⟨by simp [Z.nice, niceAll, h1.nice, h2.nice, h3.nice, h4.nice], by have := h1.depth; have := h2.depth; have := h3.depth; have := h4.depth; simp only [PyData.depth, PyData.depthAll]; omega, by have := h1.wt; have := h2.wt; have := h3.wt; have := h4.wt; simp only [Z.wt, wtAll]; omega⟩
theorem Fi.lst1 {d w1 : Nat} {a : PyData} (h1 : Fi d w1 a) : Fi (d + 1) (w1 + 6) (.list [a]) :=
  ⟨by simp [Z.nice, niceAll, h1.nice], by have := h1.depth; simp only [PyData.depth, PyData.depthAll]; omega, by have := h1.wt; simp only [Z.wt, wtAll]; omega⟩
theorem Fi.int {i : Int} (h : i.natAbs < 2 ^ 64) : Fi 0 1921 (.int i) := by
  refine ⟨?_, by simp [PyData.depth], by simp [Z.wt]⟩
  simp only [Z.nice, decide_eq_true_eq]
  by_cases h0 : i.natAbs = 0
  · rw [h0]; decide
  · have := (Nat.log2_lt h0).mpr h; omega
theorem Fi.chr {c : Nat} (h : c < 0x110000) : Fi 0 12 (.str ⟨#[c]⟩) := ⟨by simp [Z.nice, PySem.Str.length, h], by simp [PyData.depth], by simp [Z.wt, PySem.Str.length]⟩
theorem niceAll_of {xs : List PyData} (h : ∀ x ∈ xs, nice x = true) : niceAll xs = true := by
  induction xs with
  | nil => rfl
  | cons x r ih => simp only [niceAll, h x (by simp), ih fun y hy => h y (by simp [hy]), Bool.and_self]
theorem depthAll_of {d : Nat} {xs : List PyData} (h : ∀ x ∈ xs, x.depth ≤ d) : PyData.depthAll xs ≤ d := by
  induction xs with
  | nil => simp [PyData.depthAll]
  | cons x r ih =>
    have := h x (by simp)
    have := ih fun y hy => h y (by simp [hy])
    simp only [PyData.depthAll]; omega
theorem wtAll_of {w : Nat} {xs : List PyData} (h : ∀ x ∈ xs, wt x ≤ w) : wtAll xs ≤ xs.length * (w + 2) := by
  induction xs with
  | nil => simp [wtAll]
  | cons x r ih =>
    have := h x (by simp)
    have := ih fun y hy => h y (by simp [hy])
    simp only [wtAll, List.length_cons, Nat.add_mul]; omega
theorem Fi.list {d w : Nat} {xs : List PyData} (h : ∀ x ∈ xs, Fi d w x) : Fi (d + 1) (xs.length * (w + 2) + 4) (.list xs) :=
  ⟨by simp only [Z.nice]; exact niceAll_of fun x hx => (h x hx).nice, by have := depthAll_of fun x hx => (h x hx).depth; simp only [PyData.depth]; omega, by have := wtAll_of fun x hx => (h x hx).wt; simp only [Z.wt]; omega⟩
theorem Fi.tuple {d w : Nat} {xs : List PyData} (h : ∀ x ∈ xs, Fi d w x) : Fi (d + 1) (xs.length * (w + 2) + 4) (.tuple xs) :=
  ⟨by simp only [Z.nice]; exact niceAll_of fun x hx => (h x hx).nice, by have := depthAll_of fun x hx => (h x hx).depth; simp only [PyData.depth]; omega, by have := wtAll_of fun x hx => (h x hx).wt; simp only [Z.wt]; omega⟩
end Z
namespace K
open PySem Z
theorem WayT.fi {sg : Str} (hs : Sg sg) {xs : List Int} {x : PyData} (h : WayT sg xs x) : (∀ a ∈ xs, a.natAbs < 2 ^ 64) → 1 ≤ xs.length ∧ Fi (xs.length - 1) (2000 * xs.length - 70) x := by
  induction h with
  | one a => intro h; exact ⟨Nat.le_refl _, (Fi.int (h a (by simp))).mono (by simp) (by simp)⟩
  | @two c xs ys l r hc h1 h2 ih1 ih2 =>
    intro h
    obtain ⟨l1, f1⟩ := ih1 fun a ha => h a (List.mem_append_left _ ha)
    obtain ⟨l2, f2⟩ := ih2 fun a ha => h a (List.mem_append_right _ ha)
    have c1 : c < 0x110000 := by rcases hs.2.2 c hc with e | e | e <;> omega
    refine ⟨by rw [List.length_append]; omega, ?_⟩
    have := Fi.tup3 (d := xs.length + ys.length - 2) ((Fi.chr c1).mono (Nat.zero_le _) (Nat.le_refl _)) (f1.mono (by omega) (Nat.le_refl _)) (f2.mono (by omega) (Nat.le_refl _))
    exact this.mono (by rw [List.length_append]; omega) (by rw [List.length_append]; omega)
end K
/-! LT: ways as trees. -/
namespace K
open PySem Z
inductive Sn where
  | p | m | t
  deriving DecidableEq
def Sn.ch : Sn → Nat
  | .p => 43 | .m => 45 | .t => 42
def Sn.s (s : Sn) : Str := ⟨#[s.ch]⟩
def Sn.op : Sn → Int → Int → Int
  | .p, a, b => a + b
  | .m, a, b => a - b
  | .t, a, b => a * b
inductive Tr where
  | lf (a : Int)
  | nd (s : Sn) (l r : Tr)
  deriving DecidableEq
namespace Tr
def d : Tr → PyData
  | .lf a => .int a
  | .nd s l r => .tuple [.str s.s, l.d, r.d]
/-- how many numbers -/
def n : Tr → Nat
  | .lf _ => 1
  | .nd _ l r => l.n + r.n
def h : Tr → Nat
  | .lf _ => 0
  | .nd _ l r => Nat.max l.h r.h + 1
def nums : Tr → List Int
  | .lf a => [a]
  | .nd _ l r => l.nums ++ r.nums
/-- all numbers below -/
def Ok (B : Nat) : Tr → Prop
  | .lf a => a.natAbs < 2 ^ B
  | .nd _ l r => l.Ok B ∧ r.Ok B
def worth : Tr → Int
  | .lf a => a
  | .nd s l r => s.op l.worth r.worth
theorem n_pos : ∀ t : Tr, 1 ≤ t.n
  | .lf _ => Nat.le_refl _
  | .nd _ l r => by have := n_pos l; simp only [n]; omega
theorem h_lt : ∀ t : Tr, t.h < t.n
  | .lf _ => Nat.lt_succ_self _
  | .nd _ l r => by
    have h1 := h_lt l; have h2 := h_lt r; have h3 := n_pos l; have h4 := n_pos r
    simp only [n, h]
    rcases Nat.le_total l.h r.h with q | q
    · rw [show Nat.max l.h r.h = r.h from Nat.max_eq_right q]; omega
    · rw [show Nat.max l.h r.h = l.h from Nat.max_eq_left q]; omega
theorem nums_len : ∀ t : Tr, t.nums.length = t.n
  | .lf _ => rfl
  | .nd _ l r => by simp [nums, n, nums_len l, nums_len r]
theorem h_l (s : Sn) (l r : Tr) : l.h < (nd s l r).h := Nat.lt_succ_of_le (Nat.le_max_left _ _)
theorem h_r (s : Sn) (l r : Tr) : r.h < (nd s l r).h := Nat.lt_succ_of_le (Nat.le_max_right _ _)
theorem depth : ∀ t : Tr, t.d.depth = t.h
  | .lf _ => by simp [d, h, PyData.depth]
  | .nd s l r => by
    simp only [d, h, PyData.depth, PyData.depthAll, depth l, depth r, Nat.max_zero, Nat.zero_max]
theorem log_lt {a : Int} {B : Nat} (h : a.natAbs < 2 ^ B) (hB : B ≤ 1900) : a.natAbs.log2 < 1920 := by
  by_cases h0 : a.natAbs = 0
  · rw [h0]; decide
  · have := (Nat.log2_lt h0).mpr h; omega
theorem fi {B : Nat} (hB : B ≤ 1900) : ∀ {t : Tr}, t.Ok B → Fi t.h (2000 * t.n - 70) t.d
  | .lf a, h => ⟨by simp only [d, nice, decide_eq_true_eq]; exact log_lt h hB, by simp [d, Tr.h, PyData.depth], by simp [d, n, wt]⟩
  | .nd s l r, h => by
    have f1 := fi hB h.1
    have f2 := fi hB h.2
    have c1 : s.ch < 0x110000 := by cases s <;> decide
    have := Fi.tup3 (d := Nat.max l.h r.h) ((Fi.chr c1).mono (Nat.zero_le _) (Nat.le_refl _)) (f1.mono (Nat.le_max_left _ _) (Nat.le_refl _)) (f2.mono (Nat.le_max_right _ _) (Nat.le_refl _))
    have h3 := n_pos l; have h4 := n_pos r
    exact this.mono (Nat.le_refl _) (by simp only [n]; omega)
theorem sgn_s (s : Sn) : sgn (.str s.s) = true := by cases s <;> decide +kernel
theorem cnt_d : ∀ t : Tr, cnt t.d = t.n
  | .lf _ => rfl
  | .nd s l r => by
    have h3 := n_pos l; have h4 := n_pos r
    simp only [d, cnt, cnt_d l, cnt_d r, n]
    rw [if_pos ⟨sgn_s s, by omega, by omega⟩]
theorem Ok.mono {B B' : Nat} (hB : B ≤ B') : ∀ {t : Tr}, t.Ok B → t.Ok B'
  | .lf _, h => Nat.lt_of_lt_of_le h (Nat.pow_le_pow_right (by decide) hB)
  | .nd _ _ _, h => ⟨h.1.mono hB, h.2.mono hB⟩
theorem of_nums {B : Nat} : ∀ {t : Tr}, (∀ a ∈ t.nums, a.natAbs < 2 ^ B) → t.Ok B
  | .lf a, h => h a (by simp [nums])
  | .nd _ l r, h => ⟨of_nums fun a ha => h a (List.mem_append_left _ ha), of_nums fun a ha => h a (List.mem_append_right _ ha)⟩
end Tr
/-- of these signs -/
def Tr.Sgs (sg : Str) : Tr → Prop
  | .lf _ => True
  | .nd s l r => s.ch ∈ sg.cps.toList ∧ l.Sgs sg ∧ r.Sgs sg
theorem WayT.tr {sg : Str} (hs : Sg sg) {xs : List Int} {x : PyData} (h : WayT sg xs x) : ∃ t : Tr, x = t.d ∧ t.nums = xs ∧ t.Sgs sg := by
  induction h with
  | one a => exact ⟨.lf a, rfl, rfl, trivial⟩
  | @two c xs ys l r hc h1 h2 ih1 ih2 =>
    obtain ⟨t1, rfl, e1, g1⟩ := ih1
    obtain ⟨t2, rfl, e2, g2⟩ := ih2
    rcases hs.2.2 c hc with rfl | rfl | rfl
    · exact ⟨.nd .p t1 t2, rfl, by rw [← e1, ← e2]; rfl, hc, g1, g2⟩
    · exact ⟨.nd .m t1 t2, rfl, by rw [← e1, ← e2]; rfl, hc, g1, g2⟩
    · exact ⟨.nd .t t1 t2, rfl, by rw [← e1, ← e2]; rfl, hc, g1, g2⟩
/-! sizes -/
/-- small enough to be multiplied -/
def Sm (i : Int) : Prop := i.natAbs.log2 < 4001
theorem sm_of {i : Int} {B : Nat} (h : i.natAbs < 2 ^ B) (hB : B ≤ 4000) : Sm i := by
  unfold Sm
  by_cases h0 : i.natAbs = 0
  · rw [h0]; decide
  · have := (Nat.log2_lt h0).mpr h; omega
theorem mul_b {i j : Int} (h : Sm i) (g : Sm j) : intOp .Mult i j = some (i * j) := by
  unfold Sm at h g
  exact if_pos (.inr (by omega))
theorem two_pow_add {x y : Nat} (hx : 2 ≤ x) (hy : 2 ≤ y) : x + y ≤ x * y := by
  have h1 : 2 * y ≤ x * y := Nat.mul_le_mul_right _ hx
  have h2 : x * 2 ≤ x * y := Nat.mul_le_mul_left _ hy
  omega
theorem Sn.op_lt {s : Sn} {a b : Int} {x y : Nat} (hx : 1 ≤ x) (hy : 1 ≤ y) (ha : a.natAbs < 2 ^ x) (hb : b.natAbs < 2 ^ y) : (s.op a b).natAbs < 2 ^ (x + y) := by
  have e : 2 ^ (x + y) = 2 ^ x * 2 ^ y := Nat.pow_add ..
  have q := two_pow_add (x := 2 ^ x) (y := 2 ^ y) (by have : 2 ^ 1 ≤ 2 ^ x := Nat.pow_le_pow_right (by decide) hx; omega) (by have : 2 ^ 1 ≤ 2 ^ y := Nat.pow_le_pow_right (by decide) hy; omega)
  have m := Nat.mul_lt_mul'' ha hb
  rw [e]
  cases s with
  | p => simp only [Sn.op]; omega
  | m => simp only [Sn.op]; omega
  | t => simp only [Sn.op, Int.natAbs_mul]; exact m
theorem Tr.worth_lt {B : Nat} (hB : 1 ≤ B) : ∀ {t : Tr}, t.Ok B → t.worth.natAbs < 2 ^ (B * t.n)
  | .lf a, h => by simpa [Tr.worth, Tr.n, Tr.Ok] using h
  | .nd s l r, h => by
    have h1 := worth_lt hB h.1
    have h2 := worth_lt hB h.2
    have p1 : 1 ≤ B * l.n := Nat.mul_pos hB (n_pos l)
    have p2 : 1 ≤ B * r.n := Nat.mul_pos hB (n_pos r)
    have := Sn.op_lt (s := s) p1 p2 h1 h2
    simp only [Tr.worth, Tr.n, Nat.mul_add]
    exact this
theorem Tr.worth_sm {B : Nat} {t : Tr} (h : t.Ok B) (hB : 1 ≤ B) (hb : B * t.n ≤ 4000) : Sm t.worth := sm_of (Tr.worth_lt hB h) hb
theorem deq_self {x : PyData} (h : SeqAt.shaped x = true) : deq x x = some true := by
  have e := SeqAt.eqv_refl x (SeqAt.canLay_of_shaped h)
  have d : diffLen x x = false := by cases x <;> simp [diffLen]
  unfold deq
  rw [d, e]
  simp [chk, eqOk, h]
theorem cmp_selfE (st : Store) {x : PyData} (h : SeqAt.shaped x = true) : cmpop .Eq st (.d x) (.d x) = some true := deq_self h
theorem cmp_selfN (st : Store) {x : PyData} (h : SeqAt.shaped x = true) : cmpop .NotEq st (.d x) (.d x) = some false := by
  show (deq x x).map (!·) = _
  rw [deq_self h]
  rfl
theorem cmp_pair (st : Store) (i j : Int) : cmpop .NotEq st (.d (.tuple [.int i, .int j])) (.d (.tuple [.int i, .int j])) = some false := cmp_selfN st rfl
@[simp] theorem cmp_nes (st : Store) (a b : Str) : cmpop .NotEq st (.d (.str a)) (.d (.str b)) = some (!(a == b)) := rfl
end K
/-! LU: the worths module. -/
namespace K
open PySem Z
/- need_way, 16 -/
def b_need_way : LSs :=
    (.cons (.ife (.nt (.call 3 (.cons (.var 0) .nil))) (.cons (.raise 3)
    .nil) .nil)
    .nil)
def F_need_way : Fn := ⟨1, 1, b_need_way⟩
/- put, 27 -/
def b_put : LSs :=
    (.cons (.ife (.cmp (.var 0) (.cons .Eq (.lit (.str "+")) .nil)) (.cons (.ret (.bop .Add false (.var 1) (.var 2)))
    .nil) .nil)
    (.cons (.ife (.cmp (.var 0) (.cons .Eq (.lit (.str "-")) .nil)) (.cons (.ret (.bop .Sub false (.var 1) (.var 2)))
    .nil) .nil)
    (.cons (.ret (.bop .Mult false (.var 1) (.var 2)))
    .nil)))
def F_put : Fn := ⟨3, 3, b_put⟩
/- worth_in, 28 -/
def b_worth_in : LSs :=
    (.cons (.ife (.call 0 (.cons (.var 0) .nil)) (.cons (.ret (.var 0))
    .nil) .nil)
    (.cons (.ret (.call 27 (.cons (.idx (.var 0) (.lit (.int 0))) (.cons (.call 28 (.cons (.idx (.var 0) (.lit (.int 1))) .nil)) (.cons (.call 28 (.cons (.idx (.var 0) (.lit (.int 2))) .nil)) .nil)))))
    .nil))
def F_worth_in : Fn := ⟨1, 1, b_worth_in⟩
/- worth_of, 29 -/
def b_worth_of : LSs :=
    (.cons (.expr (.call 16 (.cons (.var 0) .nil)))
    (.cons (.ret (.call 28 (.cons (.var 0) .nil)))
    .nil))
def F_worth_of : Fn := ⟨1, 1, b_worth_of⟩
/- need_place, 30 -/
def b_need_place : LSs :=
    (.cons (.expr (.call 16 (.cons (.var 0) .nil)))
    (.cons (.ife (.bl .Or (.cons (.nt (.call 0 (.cons (.var 1) .nil))) (.cons (.nt (.cmp (.lit (.int 0)) (.cons .LtE (.var 1) (.cons .Lt (.call 2 (.cons (.var 0) .nil)) .nil)))) .nil))) (.cons (.raise 5)
    .nil) .nil)
    .nil))
def F_need_place : Fn := ⟨2, 2, b_need_place⟩
/- hangs_within, 31 -/
def b_hangs_within : LSs :=
    (.cons (.ife (.call 0 (.cons (.var 0) .nil)) (.cons (.ret (.tup (.cons (.lit (.int 1)) (.cons (.lit (.int 0)) .nil))))
    .nil) .nil)
    (.cons (.set (.v 2) (.call 2 (.cons (.idx (.var 0) (.lit (.int 1))) .nil)))
    (.cons (.ife (.cmp (.var 1) (.cons .Lt (.var 2) .nil)) (.cons (.set (.t [(.v 4), (.v 5)]) (.call 31 (.cons (.idx (.var 0) (.lit (.int 1))) (.cons (.var 1) .nil))))
    (.cons (.set (.v 3) (.call 28 (.cons (.idx (.var 0) (.lit (.int 2))) .nil)))
    (.cons (.ife (.cmp (.idx (.var 0) (.lit (.int 0))) (.cons .Eq (.lit (.str "*")) .nil)) (.cons (.ret (.tup (.cons (.bop .Mult false (.var 4) (.var 3)) (.cons (.bop .Mult false (.var 5) (.var 3)) .nil))))
    .nil) .nil)
    (.cons (.ret (.tup (.cons (.var 4) (.cons (.call 27 (.cons (.idx (.var 0) (.lit (.int 0))) (.cons (.var 5) (.cons (.var 3) .nil)))) .nil))))
    .nil)))) .nil)
    (.cons (.set (.t [(.v 4), (.v 5)]) (.call 31 (.cons (.idx (.var 0) (.lit (.int 2))) (.cons (.bop .Sub false (.var 1) (.var 2)) .nil))))
    (.cons (.set (.v 3) (.call 28 (.cons (.idx (.var 0) (.lit (.int 1))) .nil)))
    (.cons (.ret (.tup (.cons (.call 27 (.cons (.idx (.var 0) (.lit (.int 0))) (.cons (.bop .Mult false (.pr .int false (.cons (.cmp (.idx (.var 0) (.lit (.int 0))) (.cons .Eq (.lit (.str "*")) .nil)) .nil)) (.var 3)) (.cons (.var 4) .nil)))) (.cons (.call 27 (.cons (.idx (.var 0) (.lit (.int 0))) (.cons (.var 3) (.cons (.var 5) .nil)))) .nil))))
    .nil))))))
def F_hangs_within : Fn := ⟨2, 6, b_hangs_within⟩
/- hangs_by, 32 -/
def b_hangs_by : LSs :=
    (.cons (.expr (.call 30 (.cons (.var 0) (.cons (.var 1) .nil))))
    (.cons (.ret (.call 31 (.cons (.var 0) (.cons (.var 1) .nil))))
    .nil))
def F_hangs_by : Fn := ⟨2, 2, b_hangs_by⟩
/- with_it, 33 -/
def b_with_it : LSs :=
    (.cons (.ife (.call 0 (.cons (.var 0) .nil)) (.cons (.ret (.var 2))
    .nil) .nil)
    (.cons (.set (.v 3) (.call 2 (.cons (.idx (.var 0) (.lit (.int 1))) .nil)))
    (.cons (.ife (.cmp (.var 1) (.cons .Lt (.var 3) .nil)) (.cons (.ret (.tup (.cons (.idx (.var 0) (.lit (.int 0))) (.cons (.call 33 (.cons (.idx (.var 0) (.lit (.int 1))) (.cons (.var 1) (.cons (.var 2) .nil)))) (.cons (.idx (.var 0) (.lit (.int 2))) .nil)))))
    .nil) .nil)
    (.cons (.ret (.tup (.cons (.idx (.var 0) (.lit (.int 0))) (.cons (.idx (.var 0) (.lit (.int 1))) (.cons (.call 33 (.cons (.idx (.var 0) (.lit (.int 2))) (.cons (.bop .Sub false (.var 1) (.var 3)) (.cons (.var 2) .nil)))) .nil)))))
    .nil))))
def F_with_it : Fn := ⟨3, 4, b_with_it⟩
/- with_number, 34 -/
def b_with_number : LSs :=
    (.cons (.expr (.call 30 (.cons (.var 0) (.cons (.var 1) .nil))))
    (.cons (.ife (.nt (.call 0 (.cons (.var 2) .nil))) (.cons (.raise 4)
    .nil) .nil)
    (.cons (.ret (.call 33 (.cons (.var 0) (.cons (.var 1) (.cons (.var 2) .nil)))))
    .nil)))
def F_with_number : Fn := ⟨3, 3, b_with_number⟩
@[simp] theorem whole_d (t : Tr) : isWhole t.d = (match t with | .lf _ => true | _ => false) := by cases t <;> rfl
@[simp] theorem whole_lf (a : Int) : isWhole (Tr.lf a).d = true := rfl
@[simp] theorem whole_nd (s : Sn) (l r : Tr) : isWhole (Tr.nd s l r).d = false := rfl
@[simp] theorem s_plus (s : Sn) : (s.s == ("+" : Str)) = decide (s = .p) := by cases s <;> decide +kernel
@[simp] theorem s_minus (s : Sn) : (s.s == ("-" : Str)) = decide (s = .m) := by cases s <;> decide +kernel
@[simp] theorem s_times (s : Sn) : (s.s == ("*" : Str)) = decide (s = .t) := by cases s <;> decide +kernel
theorem item_s0 {st : Store} {s : Sn} {l r : Tr} : itemOf st (.d (Tr.nd s l r).d) (.d (.int 0)) = some (.d (.str s.s)) := rfl
theorem item_s1 {st : Store} {s : Sn} {l r : Tr} : itemOf st (.d (Tr.nd s l r).d) (.d (.int 1)) = some (.d l.d) := rfl
theorem item_s2 {st : Store} {s : Sn} {l r : Tr} : itemOf st (.d (Tr.nd s l r).d) (.d (.int 2)) = some (.d r.d) := rfl
@[simp] theorem setT_pair (i j : Nat) (x y : PyData) (τ : Vars) : setT (.t [.v i, .v j]) (.d (.tuple [x, y])) τ = some ((τ.set i (some (.d x))).set j (some (.d y))) := by simp [setT, setTs]
theorem suc {N m : Nat} (h : m < N) : ∃ M, N = M + 1 ∧ m ≤ M := ⟨N - 1, by omega, by omega⟩
section
variable {T : Nat → Option Fn} {con : Nat → Option PyData} {fuel : Nat}
theorem g_whole (h : HC T con) {N : Nat} (hN : 1 ≤ N) (x : PyData) (st : Store) : run T con fuel N 0 [.d x] st = .ok (.d (.bool (isWhole x))) st := by
  obtain ⟨M, rfl, _⟩ := suc hN
  exact f_whole h x st
/-- a way, small enough -/
structure Wy (B : Nat) (t : Tr) : Prop where
  ok : t.Ok B
  n : t.n ≤ 9
  b : B ≤ 400
theorem Wy.fine {B : Nat} {t : Tr} (h : Wy B t) : Fine t.d := by
  have h1 := Tr.fi (by have := h.b; omega) h.ok
  have := t.h_lt
  have := h.n
  exact h1.fine (by omega) (by omega)
theorem Wy.l {B : Nat} {s : Sn} {l r : Tr} (h : Wy B (.nd s l r)) : Wy B l := ⟨h.ok.1, by have := h.n; simp only [Tr.n] at this; omega, h.b⟩
theorem Wy.r {B : Nat} {s : Sn} {l r : Tr} (h : Wy B (.nd s l r)) : Wy B r := ⟨h.ok.2, by have := h.n; simp only [Tr.n] at this; omega, h.b⟩
theorem Wy.h {B : Nat} {t : Tr} (h : Wy B t) : t.h ≤ 8 := by have := t.h_lt; have := h.n; omega
theorem Wy.sm {B : Nat} {t : Tr} (h : Wy (B + 1) t) : Sm t.worth := by
  refine Tr.worth_sm h.ok (by omega) ?_
  have h1 := h.b
  have h2 := h.n
  have : (B + 1) * t.n ≤ 400 * 9 := Nat.mul_le_mul h1 h2
  omega
theorem g_count (h : HC T con) {B N : Nat} {t : Tr} (ht : Wy B t) (hN : 20 ≤ N) (st : Store) : run T con fuel N 2 [.d t.d] st = .ok (.d (.int t.n)) st := by
  have f := ht.fine
  have e := f_count (fuel := fuel) h 8 (N - 10) (x := t.d) (by rw [Tr.depth]; exact ht.h) f.nice st
  rw [show N - 10 + 8 + 2 = N by omega, Tr.cnt_d] at e
  exact e
structure HY (T : Nat → Option Fn) (con : Nat → Option PyData) : Prop extends HC T con where
  need : T 16 = some F_need_way
theorem g_need (h : HY T con) {B N : Nat} {t : Tr} (ht : Wy B t) (hN : 70 ≤ N) (st : Store) : run T con fuel N 16 [.d t.d] st = .ok (.d .none) st := by
  obtain ⟨M, rfl, hM⟩ := suc (N := N) (m := 69) hN
  rw [run_at h.need rfl]
  have f := ht.fine
  have e := f_isway (fuel := fuel) (n := M - 63) h.toHC (x := t.d) f.depth f.nice st
  rw [show M - 63 + 63 = M by omega, Tr.cnt_d] at e
  have h1 := t.n_pos
  have h2 := ht.n
  simp [F_need_way, b_need_way, e, h1, h2]
structure HWo (T : Nat → Option Fn) (con : Nat → Option PyData) : Prop extends HY T con where
  put : T 27 = some F_put
  win : T 28 = some F_worth_in
  wof : T 29 = some F_worth_of
structure HWi (T : Nat → Option Fn) (con : Nat → Option PyData) : Prop extends HWo T con where
  npl : T 30 = some F_need_place
  wit : T 33 = some F_with_it
  wnr : T 34 = some F_with_number
structure HV (T : Nat → Option Fn) (con : Nat → Option PyData) : Prop extends HWi T con where
  han : T 31 = some F_hangs_within
  hby : T 32 = some F_hangs_by
theorem g_put (h : HWo T con) {N : Nat} (hN : 1 ≤ N) (s : Sn) {a b : Int} (ha : Sm a) (hb : Sm b) (st : Store) : run T con fuel N 27 [.d (.str s.s), .d (.int a), .d (.int b)] st = .ok (.d (.int (s.op a b))) st := by
  obtain ⟨M, rfl, _⟩ := suc hN
  rw [run_at h.put rfl]
  cases s with
  | p => simp [F_put, b_put, Sn.op]
  | m => simp [F_put, b_put, Sn.op]
  | t => simp [F_put, b_put, Sn.op, mul_b ha hb]
theorem g_worth_in (h : HWo T con) {B : Nat} : ∀ {t : Tr} {N : Nat}, Wy (B + 1) t → t.h + 2 ≤ N → ∀ st, run T con fuel N 28 [.d t.d] st = .ok (.d (.int t.worth)) st
  | .lf a, N, ht, hN, st => by
    obtain ⟨M, rfl, hM⟩ := suc (N := N) (m := 1) (by omega)
    rw [run_at h.win rfl]
    have e := g_whole (fuel := fuel) h.toHC hM (Tr.lf a).d st
    simp [F_worth_in, b_worth_in, e, Tr.worth]
    rfl
  | .nd s l r, N, ht, hN, st => by
    have q1 := Tr.h_l s l r
    have q2 := Tr.h_r s l r
    obtain ⟨M, rfl, hM⟩ := suc (N := N) (m := (Tr.nd s l r).h + 1) (by omega)
    rw [run_at h.win rfl]
    have e := g_whole (fuel := fuel) h.toHC (N := M) (by omega) (Tr.nd s l r).d st
    have e1 := g_worth_in h ht.l (N := M) (by omega) st
    have e2 := g_worth_in h ht.r (N := M) (by omega) st
    have e3 := g_put (fuel := fuel) h (N := M) (by omega) s ht.l.sm ht.r.sm st
    simp [F_worth_in, b_worth_in, e, item_s0, item_s1, item_s2, e1, e2, e3, Tr.worth]
theorem g_worth_of (h : HWo T con) {B N : Nat} {t : Tr} (ht : Wy (B + 1) t) (hN : 80 ≤ N) (st : Store) : run T con fuel N 29 [.d t.d] st = .ok (.d (.int t.worth)) st := by
  obtain ⟨M, rfl, hM⟩ := suc (N := N) (m := 79) hN
  rw [run_at h.wof rfl]
  have e1 := g_need (fuel := fuel) h.toHY ht (N := M) (by omega) st
  have e2 := g_worth_in (fuel := fuel) h ht (N := M) (by have := ht.h; omega) st
  simp [F_worth_of, b_worth_of, e1, e2]
theorem g_need_place (h : HWi T con) {B N : Nat} {t : Tr} (ht : Wy B t) (hN : 80 ≤ N) {p : Int} (h0 : 0 ≤ p) (h1 : p < t.n) (st : Store) : run T con fuel N 30 [.d t.d, .d (.int p)] st = .ok (.d .none) st := by
  obtain ⟨M, rfl, hM⟩ := suc (N := N) (m := 79) hN
  rw [run_at h.npl rfl]
  have e1 := g_need (fuel := fuel) h.toHY ht (N := M) (by omega) st
  have e2 := g_whole (fuel := fuel) h.toHC (N := M) (by omega) (.int p) st
  have e3 := g_count (fuel := fuel) h.toHC ht (N := M) (by omega) st
  simp [F_need_place, b_need_place, e1, e2, e3, isWhole, h0, h1]
/-- by how much a worth hangs on the number at a place -/
def Tr.hang : Tr → Nat → Int × Int
  | .lf _, _ => (1, 0)
  | .nd s l r, p => if p < l.n then (match s with
      | .t => ((l.hang p).1 * r.worth, (l.hang p).2 * r.worth)
      | s => ((l.hang p).1, s.op (l.hang p).2 r.worth))
    else (s.op (if s = .t then l.worth else 0) (r.hang (p - l.n)).1, s.op l.worth (r.hang (p - l.n)).2)
theorem Tr.hang_lt {B : Nat} (hB : 1 ≤ B) : ∀ {t : Tr} {p : Nat}, t.Ok B → (t.hang p).1.natAbs < 2 ^ (B * t.n) ∧ (t.hang p).2.natAbs < 2 ^ (B * t.n)
  | .lf a, p, h => by
    have : 2 ^ 1 ≤ 2 ^ (B * 1) := Nat.pow_le_pow_right (by decide) (by omega)
    simp only [Tr.hang, Tr.n]
    omega
  | .nd s l r, p, h => by
    have p1 : 1 ≤ B * l.n := Nat.mul_pos hB (n_pos l)
    have p2 : 1 ≤ B * r.n := Nat.mul_pos hB (n_pos r)
    have w1 := Tr.worth_lt hB h.1
    have w2 := Tr.worth_lt hB h.2
    have le : 2 ^ (B * l.n) ≤ 2 ^ (B * l.n + B * r.n) := Nat.pow_le_pow_right (by decide) (by omega)
    simp only [Tr.hang, Tr.n, Nat.mul_add]
    split
    · obtain ⟨h1, h2⟩ := hang_lt hB (t := l) (p := p) h.1
      cases s with
      | t => exact ⟨Sn.op_lt (s := .t) p1 p2 h1 w2, Sn.op_lt (s := .t) p1 p2 h2 w2⟩
      | p => exact ⟨Nat.lt_of_lt_of_le h1 le, Sn.op_lt (s := .p) p1 p2 h2 w2⟩
      | m => exact ⟨Nat.lt_of_lt_of_le h1 le, Sn.op_lt (s := .m) p1 p2 h2 w2⟩
    · obtain ⟨h1, h2⟩ := hang_lt hB (t := r) (p := p - l.n) h.2
      refine ⟨Sn.op_lt p1 p2 ?_ h1, Sn.op_lt p1 p2 w1 h2⟩
      split
      · exact w1
      · have : 2 ^ 0 ≤ 2 ^ (B * l.n) := Nat.pow_le_pow_right (by decide) (by omega)
        simp only [Int.natAbs_zero]; omega
theorem Wy.hsm {B : Nat} {t : Tr} (h : Wy (B + 1) t) (p : Nat) : Sm (t.hang p).1 ∧ Sm (t.hang p).2 := by
  have := Tr.hang_lt (by omega) (p := p) h.ok
  have h1 := h.b
  have h2 := h.n
  have h3 : (B + 1) * t.n ≤ 400 * 9 := Nat.mul_le_mul h1 h2
  exact ⟨sm_of this.1 (by omega), sm_of this.2 (by omega)⟩
theorem sm_0 : Sm 0 := by unfold Sm; decide
theorem sm_1 : Sm 1 := by unfold Sm; decide
theorem g_hang (h : HV T con) {B : Nat} : ∀ {t : Tr} {N p : Nat}, Wy (B + 1) t → t.h + 30 ≤ N → ∀ st, run T con fuel N 31 [.d t.d, .d (.int p)] st = .ok (.d (.tuple [.int (t.hang p).1, .int (t.hang p).2])) st := by
  intro t
  induction t with
  | lf a =>
    intro N p ht hN st
    obtain ⟨M, rfl, hM⟩ := suc (N := N) (m := 20) (by omega)
    rw [run_at h.han rfl]
    have e := g_whole (fuel := fuel) h.toHC (N := M) (by omega) (Tr.lf a).d st
    simp [F_hangs_within, b_hangs_within, e, tupOf_eq, Tr.hang]
  | nd s l r ihl ihr =>
    intro N p ht hN st
    have q1 := Tr.h_l s l r
    have q2 := Tr.h_r s l r
    obtain ⟨M, rfl, hM⟩ := suc (N := N) (m := (Tr.nd s l r).h + 29) (by omega)
    rw [run_at h.han rfl]
    have e := g_whole (fuel := fuel) h.toHC (N := M) (by omega) (Tr.nd s l r).d st
    have e1 := g_count (fuel := fuel) h.toHC ht.l (N := M) (by omega) st
    by_cases hp : p < l.n
    · have hp' : (p : Int) < (l.n : Int) := by omega
      have e2 := ihl (p := p) ht.l (N := M) (by omega) st
      have e3 := g_worth_in (fuel := fuel) h.toHWo ht.r (N := M) (by omega) st
      have s1 := ht.l.hsm p
      have e4 := g_put (fuel := fuel) h.toHWo (N := M) (by omega) s s1.2 ht.r.sm st
      have m1 := mul_b s1.1 ht.r.sm
      have m2 := mul_b s1.2 ht.r.sm
      cases s with
      | t => simp [F_hangs_within, b_hangs_within, e, item_s0, item_s1, item_s2, e1, hp', hp, e2, e3, e4, tupOf_eq, Tr.hang, m1, m2]
      | p => simp [F_hangs_within, b_hangs_within, e, item_s0, item_s1, item_s2, e1, hp', hp, e2, e3, e4, tupOf_eq, Tr.hang]
      | m => simp [F_hangs_within, b_hangs_within, e, item_s0, item_s1, item_s2, e1, hp', hp, e2, e3, e4, tupOf_eq, Tr.hang]
    · have hp' : ¬ (p : Int) < (l.n : Int) := by omega
      have e2 := ihr (p := p - l.n) ht.r (N := M) (by omega) st
      rw [show ((p - l.n : Nat) : Int) = (p : Int) - (l.n : Int) by omega] at e2
      have e3 := g_worth_in (fuel := fuel) h.toHWo ht.l (N := M) (by omega) st
      have s1 := ht.r.hsm (p - l.n)
      have e4 := g_put (fuel := fuel) h.toHWo (N := M) (by omega) s ht.l.sm s1.2 st
      have e5 := g_put (fuel := fuel) h.toHWo (N := M) (by omega) s (a := if s = .t then l.worth else 0) (by split; exact ht.l.sm; exact sm_0) s1.1 st
      have m1 := mul_b sm_1 ht.l.sm
      have m2 := mul_b sm_0 ht.l.sm
      cases s with
      | t => simp at e5; simp at m1; simp [F_hangs_within, b_hangs_within, e, item_s0, item_s1, item_s2, e1, hp', hp, e2, e3, e4, e5, tupOf_eq, Tr.hang, m1, prim]
      | p => simp at e5; simp at m2; simp [F_hangs_within, b_hangs_within, e, item_s0, item_s1, item_s2, e1, hp', hp, e2, e3, e4, e5, tupOf_eq, Tr.hang, m2, prim]
      | m => simp at e5; simp at m2; simp [F_hangs_within, b_hangs_within, e, item_s0, item_s1, item_s2, e1, hp', hp, e2, e3, e4, e5, tupOf_eq, Tr.hang, m2, prim]
theorem g_hangs_by (h : HV T con) {B N : Nat} {t : Tr} (ht : Wy (B + 1) t) (hN : 90 ≤ N) {p : Nat} (h1 : p < t.n) (st : Store) : run T con fuel N 32 [.d t.d, .d (.int p)] st = .ok (.d (.tuple [.int (t.hang p).1, .int (t.hang p).2])) st := by
  obtain ⟨M, rfl, hM⟩ := suc (N := N) (m := 89) hN
  rw [run_at h.hby rfl]
  have e1 := g_need_place (fuel := fuel) h.toHWi ht (N := M) (by omega) (p := p) (by omega) (by omega) st
  have e2 := g_hang (fuel := fuel) h (p := p) ht (N := M) (by have := ht.h; omega) st
  simp [F_hangs_by, b_hangs_by, e1, e2]
/-- another number at a place -/
def Tr.wth : Tr → Nat → Int → Tr
  | .lf _, _, a => .lf a
  | .nd s l r, p, a => if p < l.n then .nd s (l.wth p a) r else .nd s l (r.wth (p - l.n) a)
theorem g_with_it (h : HWi T con) {B : Nat} (a : Int) : ∀ {t : Tr} {N p : Nat}, Wy B t → t.h + 30 ≤ N → ∀ st, run T con fuel N 33 [.d t.d, .d (.int p), .d (.int a)] st = .ok (.d (t.wth p a).d) st := by
  intro t
  induction t with
  | lf b =>
    intro N p ht hN st
    obtain ⟨M, rfl, hM⟩ := suc (N := N) (m := 20) (by omega)
    rw [run_at h.wit rfl]
    have e := g_whole (fuel := fuel) h.toHC (N := M) (by omega) (Tr.lf b).d st
    simp [F_with_it, b_with_it, e, Tr.wth]
    rfl
  | nd s l r ihl ihr =>
    intro N p ht hN st
    have q1 := Tr.h_l s l r
    have q2 := Tr.h_r s l r
    obtain ⟨M, rfl, hM⟩ := suc (N := N) (m := (Tr.nd s l r).h + 29) (by omega)
    rw [run_at h.wit rfl]
    have e := g_whole (fuel := fuel) h.toHC (N := M) (by omega) (Tr.nd s l r).d st
    have e1 := g_count (fuel := fuel) h.toHC ht.l (N := M) (by omega) st
    by_cases hp : p < l.n
    · have hp' : (p : Int) < (l.n : Int) := by omega
      have e2 := ihl (p := p) ht.l (N := M) (by omega) st
      simp [F_with_it, b_with_it, e, item_s0, item_s1, item_s2, e1, hp', hp, e2, tupOf_eq, Tr.wth]
      rfl
    · have hp' : ¬ (p : Int) < (l.n : Int) := by omega
      have e2 := ihr (p := p - l.n) ht.r (N := M) (by omega) st
      rw [show ((p - l.n : Nat) : Int) = (p : Int) - (l.n : Int) by omega] at e2
      simp [F_with_it, b_with_it, e, item_s0, item_s1, item_s2, e1, hp', hp, e2, tupOf_eq, Tr.wth]
      rfl
theorem g_with_number (h : HWi T con) {B N : Nat} {t : Tr} (ht : Wy B t) (hN : 90 ≤ N) {p : Nat} (h1 : p < t.n) (a : Int) (st : Store) : run T con fuel N 34 [.d t.d, .d (.int p), .d (.int a)] st = .ok (.d (t.wth p a).d) st := by
  obtain ⟨M, rfl, hM⟩ := suc (N := N) (m := 89) hN
  rw [run_at h.wnr rfl]
  have e1 := g_need_place (fuel := fuel) h ht (N := M) (by omega) (p := p) (by omega) (by omega) st
  have e2 := g_with_it (fuel := fuel) h a (p := p) ht (N := M) (by have := ht.h; omega) st
  have e3 := g_whole (fuel := fuel) h.toHC (N := M) (by omega) (.int a) st
  simp [F_with_number, b_with_number, e1, e2, e3, isWhole]
end
theorem wth_n (a : Int) : ∀ (t : Tr) (p : Nat), (t.wth p a).n = t.n := by
  intro t
  induction t with
  | lf b => intro p; rfl
  | nd s l r ihl ihr => intro p; simp only [Tr.wth]; split <;> simp [Tr.n, ihl, ihr]
theorem wth_ok {B : Nat} {a : Int} (ha : a.natAbs < 2 ^ B) : ∀ (t : Tr) (p : Nat), t.Ok B → (t.wth p a).Ok B := by
  intro t
  induction t with
  | lf b => intro p _; exact ha
  | nd s l r ihl ihr =>
    intro p h
    simp only [Tr.wth]
    split
    · exact ⟨ihl p h.1, h.2⟩
    · exact ⟨h.1, ihr _ h.2⟩
theorem wth_hang (a : Int) : ∀ (t : Tr) (p : Nat), (t.wth p a).hang p = t.hang p := by
  intro t
  induction t with
  | lf b => intro p; rfl
  | nd s l r ihl ihr =>
    intro p
    by_cases h : p < l.n
    · simp only [Tr.wth, h, if_true, Tr.hang, wth_n, ihl]
    · simp only [Tr.wth, h, if_false, Tr.hang, wth_n, ihr]
theorem wth_worth (a : Int) : ∀ (t : Tr) (p : Nat), (t.hang p).1 * a + (t.hang p).2 = (t.wth p a).worth := by
  intro t
  induction t with
  | lf b => intro p; simp [Tr.hang, Tr.wth, Tr.worth]
  | nd s l r ihl ihr =>
    intro p
    by_cases h : p < l.n
    · have := ihl p
      simp only [Tr.wth, h, if_true, Tr.hang, Tr.worth, ← this]
      cases s <;> simp only [Sn.op] <;> grind
    · have := ihr (p - l.n)
      simp only [Tr.wth, h, if_false, Tr.hang, Tr.worth, ← this]
      cases s <;> simp [Sn.op] <;> grind
end K
/-! LN: numbers, signs, stretches, tokens. -/
namespace K
open PySem Z
/- numbers_in, 49 -/
def b_numbers_in_v2 : LSs :=
    (.cons (.ife (.call 0 (.cons (.var 0) .nil)) (.cons (.ret (.lst true (.cons (.var 0) .nil)))
    .nil) .nil)
    (.cons (.ret (.bop .Add true (.call 49 (.cons (.idx (.var 0) (.lit (.int 1))) .nil)) (.call 49 (.cons (.idx (.var 0) (.lit (.int 2))) .nil))))
    .nil))
def F_numbers_in_v2 : Fn := ⟨1, 1, b_numbers_in_v2⟩
/- numbers_of, 50 -/
def b_numbers_of_v2 : LSs :=
    (.cons (.expr (.call 16 (.cons (.var 0) .nil)))
    (.cons (.ret (.call 49 (.cons (.var 0) .nil)))
    .nil))
def F_numbers_of_v2 : Fn := ⟨1, 1, b_numbers_of_v2⟩
/- signs_in, 42 -/
def b_signs_in : LSs :=
    (.cons (.ife (.call 0 (.cons (.var 0) .nil)) (.cons (.ret (.lit (.str "")))
    .nil) .nil)
    (.cons (.ret (.bop .Add false (.bop .Add false (.call 42 (.cons (.idx (.var 0) (.lit (.int 1))) .nil)) (.idx (.var 0) (.lit (.int 0)))) (.call 42 (.cons (.idx (.var 0) (.lit (.int 2))) .nil))))
    .nil))
def F_signs_in : Fn := ⟨1, 1, b_signs_in⟩
/- signs_of, 43 -/
def b_signs_of : LSs :=
    (.cons (.expr (.call 16 (.cons (.var 0) .nil)))
    (.cons (.ret (.call 42 (.cons (.var 0) .nil)))
    .nil))
def F_signs_of : Fn := ⟨1, 1, b_signs_of⟩
/- stretches_in, 44 -/
def b_stretches_in : LSs :=
    (.cons (.ife (.call 0 (.cons (.var 0) .nil)) (.cons (.ret (.lst false .nil))
    .nil) .nil)
    (.cons (.set (.v 2) (.bop .Add false (.var 1) (.call 2 (.cons (.idx (.var 0) (.lit (.int 1))) .nil))))
    (.cons (.set (.v 3) (.lst false (.cons (.tup (.cons (.var 1) (.cons (.bop .Sub false (.bop .Add false (.var 1) (.call 2 (.cons (.var 0) .nil))) (.lit (.int 1))) .nil))) .nil)))
    (.cons (.ret (.bop .Add false (.bop .Add false (.var 3) (.call 44 (.cons (.idx (.var 0) (.lit (.int 1))) (.cons (.var 1) .nil)))) (.call 44 (.cons (.idx (.var 0) (.lit (.int 2))) (.cons (.var 2) .nil)))))
    .nil))))
def F_stretches_in : Fn := ⟨2, 4, b_stretches_in⟩
/- stretches_of, 51 -/
def b_stretches_of_v2 : LSs :=
    (.cons (.expr (.call 16 (.cons (.var 0) .nil)))
    (.cons (.ret (.pr .sorted true (.cons (.call 44 (.cons (.var 0) (.cons (.lit (.int 0)) .nil))) .nil)))
    .nil))
def F_stretches_of_v2 : Fn := ⟨1, 1, b_stretches_of_v2⟩
/- _law_tokens, 20 -/
def b_l_tokens_t1 : LE :=
    (.cmp (.var 2) (.cons .NotEq (.lst false .nil) .nil))
def b_l_tokens_b1 : LSs :=
    (.cons (.set (.v 3) (.me .popL false (.var 2) .nil))
    (.cons (.ife (.pr (.isT .tuple) false (.cons (.var 3) .nil)) (.cons (.set (.v 2) (.bop .Add true (.var 2) (.lst false (.cons (.lit (.str ")")) (.cons (.idx (.var 3) (.lit (.int 2))) (.cons (.idx (.var 3) (.lit (.int 0))) (.cons (.idx (.var 3) (.lit (.int 1))) (.cons (.lit (.str "(")) .nil))))))))
    .nil) (.cons (.expr (.me .append false (.var 1) (.cons (.var 3) .nil)))
    .nil))
    .nil))
def b_l_tokens : LSs :=
    (.cons (.set (.v 1) (.lst true .nil))
    (.cons (.set (.v 2) (.lst true (.cons (.var 0) .nil)))
    (.cons (.whil b_l_tokens_t1 b_l_tokens_b1)
    (.cons (.ret (.var 1))
    .nil))))
def F_l_tokens : Fn := ⟨1, 4, b_l_tokens⟩
theorem inner_app {α : Type} {base : Nat} {st : Store} (x : α) (gs : Store) (h : base ≤ st.length) : (Res.ok x (st ++ gs)).inner base st = .ok x (st ++ gs) := by
  have : innerOk base st (st ++ gs) := fun n hn => .inl (List.getElem?_append_left (by omega))
  simp only [Res.inner, if_pos this]
theorem bin_cc {st : Store} {a b : Nat} {us ws : List U} (h1 : lstOf st (.cell a) = some us) (h2 : lstOf st (.cell b) = some ws) : binop .Add st (.cell a) (.cell b) = if us.length + ws.length ≤ 16777216 then some (.lst (us ++ ws)) else none := by
  simp only [binop, h1, h2]
  rfl
theorem get_app (st gs : Store) (k : Nat) : (st ++ gs)[st.length + k]? = gs[k]? := by
  rw [List.getElem?_append_right (Nat.le_add_right _ _), Nat.add_sub_cancel_left]
theorem lst_at {st gs : Store} {k : Nat} {us : List U} (h : gs[k]? = some (.lst us)) : lstOf (st ++ gs) (.cell (st.length + k)) = some us := by
  simp [lstOf, get_app, h]
theorem lst_at0 {st gs : Store} {us : List U} (h : gs[0]? = some (.lst us)) : lstOf (st ++ gs) (.cell st.length) = some us := lst_at (k := 0) h
@[simp] theorem closed_ofD (xs : List PyData) (b : Nat) : (Cont.lst (ofD xs)).closed b = true := by
  simp [Cont.closed, ofD, U.below]
theorem leave_cell {st gs : Store} {k : Nat} {xs : List PyData} (h : gs[k]? = some (.lst (ofD xs))) : leave st.length (.rt (.cell (st.length + k)) (st ++ gs)) = .ok (.cell st.length) (st ++ [.lst (ofD xs)]) := by
  have hk : ¬ st.length + k < st.length := by omega
  simp only [leave, leaveU, if_neg hk, get_app, h, closed_ofD, if_true, List.take_left']
theorem leave_cell0 {st gs : Store} {xs : List PyData} (h : gs[0]? = some (.lst (ofD xs))) : leave st.length (.rt (.cell st.length) (st ++ gs)) = .ok (.cell st.length) (st ++ [.lst (ofD xs)]) := leave_cell (k := 0) h
theorem leave_d {st gs : Store} (x : PyData) : leave st.length (.rt (.d x) (st ++ gs)) = .ok (.d x) st := by
  simp [leave, leaveU]
theorem ofD_app (xs ys : List PyData) : ofD xs ++ ofD ys = ofD (xs ++ ys) := by simp [ofD]
theorem Tr.nl (t : Tr) : (t.nums.map PyData.int).length = t.n := by rw [List.length_map, nums_len]
def Tr.sgs : Tr → Str
  | .lf _ => ""
  | .nd s l r => (l.sgs ++ s.s) ++ r.sgs
def Tr.pre : Tr → Nat → List (Nat × Nat)
  | .lf _, _ => []
  | .nd s l r, b => [(b, b + (l.n + r.n) - 1)] ++ l.pre b ++ r.pre (b + l.n)
def pr (p : Nat × Nat) : PyData := .tuple [.int p.1, .int p.2]
theorem Tr.pre_len : ∀ (t : Tr) (b : Nat), (t.pre b).length + 1 = t.n
  | .lf _, _ => rfl
  | .nd s l r, b => by
    have := pre_len l b; have := pre_len r (b + l.n)
    simp only [pre, n, List.length_append, List.length_cons, List.length_nil]; omega
theorem Tr.sgs_len : ∀ (t : Tr), t.sgs.length + 1 = t.n
  | .lf _ => rfl
  | .nd s l r => by
    have h1 := sgs_len l; have h2 := sgs_len r
    have h3 : s.s.length = 1 := rfl
    have e1 : (l.sgs ++ s.s ++ r.sgs).length = (l.sgs ++ s.s).length + r.sgs.length := strLen_append _ _
    have e2 : (l.sgs ++ s.s).length = l.sgs.length + s.s.length := strLen_append _ _
    simp only [sgs, n]
    omega
theorem bin_str {st : Store} {x y : Str} (h : x.length + y.length ≤ 16777216) : binop .Add st (.d (.str x)) (.d (.str y)) = some (.u (.d (.str (x ++ y)))) := by
  show (if Operator.Add = .Add then chk (x.length + y.length ≤ sizeLine) _ else none) = _
  rw [if_pos rfl, chk_true _ (show x.length + y.length ≤ sizeLine from h)]
section
variable {T : Nat → Option Fn} {con : Nat → Option PyData} {fuel : Nat}
structure HM (T : Nat → Option Fn) (con : Nat → Option PyData) : Prop extends HY T con where
  sin : T 42 = some F_signs_in
  sof : T 43 = some F_signs_of
  tin : T 44 = some F_stretches_in
structure HMc (T : Nat → Option Fn) (con : Nat → Option PyData) : Prop extends HM T con where
  nin : T 49 = some F_numbers_in_v2
  nof : T 50 = some F_numbers_of_v2
  tof : T 51 = some F_stretches_of_v2
theorem g_numbers_in (h : HMc T con) {B : Nat} : ∀ {t : Tr} {N : Nat}, Wy B t → t.h + 2 ≤ N → ∀ st, run T con fuel N 49 [.d t.d] st = .ok (.cell st.length) (st ++ [.lst (ofD (t.nums.map .int))]) := by
  intro t
  induction t with
  | lf a =>
    intro N ht hN st
    obtain ⟨M, rfl, hM⟩ := suc (N := N) (m := 1) (by omega)
    rw [run_at h.nin rfl]
    have e := g_whole (fuel := fuel) h.toHC hM (Tr.lf a).d st
    simp [F_numbers_in_v2, b_numbers_in_v2, e]
    exact leave_cell0 (gs := [.lst (ofD [.int a])]) rfl
  | nd s l r ihl ihr =>
    intro N ht hN st
    have q1 := Tr.h_l s l r
    have q2 := Tr.h_r s l r
    obtain ⟨M, rfl, hM⟩ := suc (N := N) (m := (Tr.nd s l r).h + 1) (by omega)
    rw [run_at h.nin rfl]
    have e := g_whole (fuel := fuel) h.toHC (N := M) (by omega) (Tr.nd s l r).d st
    have e1 := ihl ht.l (N := M) (by omega) st
    have e2 := ihr ht.r (N := M) (by omega) (st ++ [.lst (ofD (l.nums.map .int))])
    have i1 := inner_app (base := st.length) (st := st) (U.cell st.length) [.lst (ofD (l.nums.map .int))] (Nat.le_refl _)
    have i2 := inner_app (base := st.length) (st := st ++ [.lst (ofD (l.nums.map .int))]) (U.cell (st.length + 1)) [.lst (ofD (r.nums.map .int))] (by simp)
    have bc := bin_cc (st := st ++ [.lst (ofD (l.nums.map .int)), .lst (ofD (r.nums.map .int))]) (a := st.length) (b := st.length + 1) (lst_at0 rfl) (lst_at rfl)
    have l1 := Tr.nl l
    have l2 := Tr.nl r
    have hn := ht.n
    simp only [Tr.n] at hn
    rw [if_pos (by simp only [ofD, List.length_map] at l1 l2 ⊢; omega), ofD_app, ← List.map_append] at bc
    simp only [List.append_assoc, List.cons_append, List.nil_append, List.length_append, List.length_cons, List.length_nil] at e2 i2
    have hz : (ofD (List.map PyData.int (l.nums ++ r.nums))).length ≤ 16777216 := by simp only [ofD, List.length_map, List.length_append] at l1 l2 ⊢; omega
    have f := fin_new (st ++ [.lst (ofD (l.nums.map .int)), .lst (ofD (r.nums.map .int))]) (ofD (List.map PyData.int (l.nums ++ r.nums)))
    rw [if_pos hz] at f
    have lv := leave_cell (st := st) (gs := [.lst (ofD (l.nums.map .int)), .lst (ofD (r.nums.map .int)), .lst (ofD (List.map PyData.int (l.nums ++ r.nums)))]) (k := 2) rfl
    have ex : exs ⟨con, run T con fuel M, fuel⟩ st.length b_numbers_in_v2 [some (.d (Tr.nd s l r).d)] st = .rt (.cell (st.length + 2)) (st ++ [.lst (ofD (l.nums.map .int)), .lst (ofD (r.nums.map .int)), .lst (ofD (List.map PyData.int (l.nums ++ r.nums)))]) := by
      simp [-fin_new, -List.map_append, b_numbers_in_v2, e, item_s1, item_s2, e1, i1, e2, i2, bc, f]
    show leave st.length (exs ⟨con, run T con fuel M, fuel⟩ st.length b_numbers_in_v2 [some (.d (Tr.nd s l r).d)] st) = _
    rw [ex, lv]
    rfl
theorem g_numbers_of (h : HMc T con) {B N : Nat} {t : Tr} (ht : Wy B t) (hN : 80 ≤ N) (st : Store) : run T con fuel N 50 [.d t.d] st = .ok (.cell st.length) (st ++ [.lst (ofD (t.nums.map .int))]) := by
  obtain ⟨M, rfl, hM⟩ := suc (m := 79) hN
  rw [run_at h.nof rfl]
  have e1 := g_need (fuel := fuel) h.toHY ht (N := M) (by omega) st
  have e2 := g_numbers_in (fuel := fuel) h ht (N := M) (by have := ht.h; omega) st
  have i1 := inner_app (base := st.length) (st := st) (U.cell st.length) [.lst (ofD (t.nums.map .int))] (Nat.le_refl _)
  simp [F_numbers_of_v2, b_numbers_of_v2, e1, e2, i1]
  exact leave_cell0 rfl
theorem g_signs_in0 (h : HY T con) (h42 : T 42 = some F_signs_in) {B : Nat} : ∀ {t : Tr} {N : Nat}, Wy B t → t.h + 2 ≤ N → ∀ st, run T con fuel N 42 [.d t.d] st = .ok (.d (.str t.sgs)) st := by
  intro t
  induction t with
  | lf a =>
    intro N ht hN st
    obtain ⟨M, rfl, hM⟩ := suc (N := N) (m := 1) (by omega)
    rw [run_at h42 rfl]
    have e := g_whole (fuel := fuel) h.toHC hM (Tr.lf a).d st
    simp [F_signs_in, b_signs_in, e, Tr.sgs]
  | nd s l r ihl ihr =>
    intro N ht hN st
    have q1 := Tr.h_l s l r
    have q2 := Tr.h_r s l r
    obtain ⟨M, rfl, hM⟩ := suc (N := N) (m := (Tr.nd s l r).h + 1) (by omega)
    rw [run_at h42 rfl]
    have e := g_whole (fuel := fuel) h.toHC (N := M) (by omega) (Tr.nd s l r).d st
    have e1 := ihl ht.l (N := M) (by omega) st
    have e2 := ihr ht.r (N := M) (by omega) st
    have l1 := Tr.sgs_len l
    have l2 := Tr.sgs_len r
    have hn := ht.n
    simp only [Tr.n] at hn
    have l3 : s.s.length = 1 := rfl
    have l4 : (l.sgs ++ s.s).length = l.sgs.length + s.s.length := strLen_append _ _
    have b1 := bin_str (st := st) (x := l.sgs) (y := s.s) (by omega)
    have b2 := bin_str (st := st) (x := l.sgs ++ s.s) (y := r.sgs) (by omega)
    simp [F_signs_in, b_signs_in, e, item_s0, item_s1, item_s2, e1, e2, b1, b2, Tr.sgs]
theorem g_signs_in (h : HM T con) {B : Nat} {t : Tr} {N : Nat} (ht : Wy B t) (hN : t.h + 2 ≤ N) (st : Store) : run T con fuel N 42 [.d t.d] st = .ok (.d (.str t.sgs)) st := g_signs_in0 h.toHY h.sin ht hN st
theorem g_signs_of (h : HM T con) {B N : Nat} {t : Tr} (ht : Wy B t) (hN : 80 ≤ N) (st : Store) : run T con fuel N 43 [.d t.d] st = .ok (.d (.str t.sgs)) st := by
  obtain ⟨M, rfl, hM⟩ := suc (m := 79) hN
  rw [run_at h.sof rfl]
  have e1 := g_need (fuel := fuel) h.toHY ht (N := M) (by omega) st
  have e2 := g_signs_in (fuel := fuel) h ht (N := M) (by have := ht.h; omega) st
  simp [F_signs_of, b_signs_of, e1, e2]
theorem g_stretches_in0 (h : HY T con) (h44 : T 44 = some F_stretches_in) {B : Nat} : ∀ {t : Tr} {N b : Nat}, Wy B t → t.h + 30 ≤ N → ∀ st, run T con fuel N 44 [.d t.d, .d (.int b)] st = .ok (.d (.list ((t.pre b).map pr))) st := by
  intro t
  induction t with
  | lf a =>
    intro N b ht hN st
    obtain ⟨M, rfl, hM⟩ := suc (N := N) (m := 1) (by omega)
    rw [run_at h44 rfl]
    have e := g_whole (fuel := fuel) h.toHC hM (Tr.lf a).d st
    simp [F_stretches_in, b_stretches_in, e, Tr.pre]
  | nd s l r ihl ihr =>
    intro N b ht hN st
    have q1 := Tr.h_l s l r
    have q2 := Tr.h_r s l r
    obtain ⟨M, rfl, hM⟩ := suc (N := N) (m := (Tr.nd s l r).h + 29) (by omega)
    rw [run_at h44 rfl]
    have e := g_whole (fuel := fuel) h.toHC (N := M) (by omega) (Tr.nd s l r).d st
    have c1 := g_count (fuel := fuel) h.toHC ht.l (N := M) (by omega) st
    have c2 := g_count (fuel := fuel) h.toHC ht (N := M) (by omega) st
    have e1 := ihl ht.l (N := M) (b := b) (by omega) st
    have e2 := ihr ht.r (N := M) (b := b + l.n) (by omega) st
    have l1 := Tr.pre_len l b
    have l2 := Tr.pre_len r (b + l.n)
    have hn := ht.n
    simp only [Tr.n] at hn c2
    have np := l.n_pos
    have ec : ((b + l.n : Nat) : Int) = (b : Int) + (l.n : Int) := by omega
    have ec2 : ((b + (l.n + r.n) - 1 : Nat) : Int) = (b : Int) + ((l.n : Int) + (r.n : Int)) - 1 := by omega
    have ec3 : ((l.n + r.n : Nat) : Int) = (l.n : Int) + (r.n : Int) := by omega
    rw [ec] at e2
    rw [ec3] at c2
    have z1 : 1 + (l.pre b).length ≤ 16777216 := by omega
    have z2 : (l.pre b).length + 1 + (r.pre (b + l.n)).length ≤ 16777216 := by omega
    have z3 : (l.pre b).length + 1 ≤ 16777216 := by omega
    have z4 : (l.pre b).length + (r.pre (b + l.n)).length + 1 ≤ 16777216 := by omega
    have ex : exs ⟨con, run T con fuel M, fuel⟩ st.length b_stretches_in [some (.d (Tr.nd s l r).d), some (.d (.int b)), none, none] st = .rt (.d (.list (((Tr.nd s l r).pre b).map pr))) st := by
      have t1 : trees (ofD ((l.pre b).map pr)) = some ((l.pre b).map pr) := trees_ofD _
      have t2 : trees (ofD ((l.pre b).map pr) ++ ofD ((r.pre (b + l.n)).map pr)) = some ((l.pre b).map pr ++ (r.pre (b + l.n)).map pr) := by rw [ofD_app]; exact trees_ofD _
      have y1 : (ofD ((l.pre b).map pr)).length + 1 ≤ 16777216 := by simp only [ofD, List.length_map]; omega
      have y2 : (ofD ((l.pre b).map pr)).length + (ofD ((r.pre (b + l.n)).map pr)).length + 1 ≤ 16777216 := by simp only [ofD, List.length_map]; omega
      simp [b_stretches_in, e, item_s1, item_s2, c1, c2, tupOf_eq, e1, e2, z1, z2, z3, z4, t1, t2, y1, y2, Tr.pre, pr, ec2]
    exact (congrArg (leave st.length) ex).trans (leave_rt_d _ _)
theorem g_stretches_in (h : HM T con) {B : Nat} {t : Tr} {N b : Nat} (ht : Wy B t) (hN : t.h + 30 ≤ N) (st : Store) : run T con fuel N 44 [.d t.d, .d (.int b)] st = .ok (.d (.list ((t.pre b).map pr))) st := g_stretches_in0 h.toHY h.tin ht hN st
theorem pr_isP (ps : List (Nat × Nat)) : (ps.map pr).all isP = true := by
  rw [List.all_eq_true]
  intro x hx
  obtain ⟨p, _, rfl⟩ := List.mem_map.mp hx
  rfl
theorem g_stretches_of (h : HMc T con) {B N : Nat} {t : Tr} (ht : Wy B t) (hN : 80 ≤ N) (st : Store) : run T con fuel N 51 [.d t.d] st = .ok (.cell st.length) (st ++ [.lst (ofD (srtD ((t.pre 0).map pr)))]) := by
  obtain ⟨M, rfl, hM⟩ := suc (m := 79) hN
  rw [run_at h.tof rfl]
  have e1 := g_need (fuel := fuel) h.toHY ht (N := M) (by omega) st
  have e2 := g_stretches_in (fuel := fuel) h.toHM (b := 0) ht (N := M) (by have := ht.h; omega) st
  have e3 : prim .sorted st [.d (.list ((t.pre 0).map pr))] = some (.lst (ofD (srtD ((t.pre 0).map pr)))) := by
    simp only [prim, sortSrc, lstOf, Option.bind_some, trees_ofD, pr_isP, Bool.or_true, if_true]
  have hl : (ofD (srtD ((t.pre 0).map pr))).length ≤ 16777216 := by
    have sl : ∀ xs : List PyData, (srtD xs).length = xs.length := by
      have il : ∀ (x : PyData) (xs : List PyData), (insD x xs).length = xs.length + 1 := by
        intro x xs
        induction xs with
        | nil => rfl
        | cons y r ih => simp only [insD]; split <;> simp [ih]
      intro xs
      induction xs with
      | nil => rfl
      | cons x r ih => simp [srtD, il, ih]
    have := Tr.pre_len t 0
    have := ht.n
    simp only [ofD, List.length_map, sl]
    omega
  simp at e2
  simp [F_stretches_of_v2, b_stretches_of_v2, e1, e2, e3, hl]
  exact leave_cell0 rfl
end
end K
/-! LO: the tokens of a way; sorted stretches. -/
namespace K
open PySem Z
def Tr.toks : Tr → List PyData
  | .lf a => [.int a]
  | .nd s l r => [.str "("] ++ l.toks ++ [.str s.s] ++ r.toks ++ [.str ")"]
theorem Tr.toks_len : ∀ t : Tr, t.toks.length + 3 = 4 * t.n
  | .lf _ => rfl
  | .nd _ l r => by
    have := toks_len l; have := toks_len r
    simp only [toks, n, List.length_append, List.length_cons, List.length_nil]; omega
inductive It where
  | tr (t : Tr)
  | s (x : Str)
def It.d : It → PyData
  | .tr t => t.d
  | .s x => .str x
def It.toks : It → List PyData
  | .tr t => t.toks
  | .s x => [.str x]
def Tr.m : Tr → Nat
  | .lf _ => 1
  | .nd _ l r => l.m + r.m + 4
def It.m : It → Nat
  | .tr t => t.m
  | .s _ => 1
theorem Tr.m_le : ∀ t : Tr, t.m + 4 = 5 * t.n
  | .lf _ => rfl
  | .nd _ l r => by have := m_le l; have := m_le r; simp only [m, n]; omega
theorem It.m_pos (i : It) : 1 ≤ i.m := by
  cases i with
  | tr t => cases t with
    | lf a => exact Nat.le_refl _
    | nd s l r => simp only [It.m, Tr.m]; omega
  | s x => exact Nat.le_refl _
theorem isTup_nd' {s : Sn} {l r : Tr} : tyIs .tuple (Tr.nd s l r).d = true := rfl
def mAll (ws : List It) : Nat := (ws.map It.m).sum
theorem ws_len : ∀ ws : List It, ws.length ≤ mAll ws
  | [] => Nat.le_refl _
  | w :: r => by
    have := ws_len r; have := w.m_pos
    simp only [mAll, List.map_cons, List.sum_cons, List.length_cons] at *; omega
theorem set_app (st gs : Store) (k : Nat) (x : Cont) : (st ++ gs).set (st.length + k) x = st ++ gs.set k x := by
  rw [List.set_append_right _ _ (Nat.le_add_right _ _), Nat.add_sub_cancel_left]
@[simp] theorem viewAll_ofD (st : Store) : ∀ xs : List PyData, viewAll st (ofD xs) = some xs
  | [] => rfl
  | x :: r => by
    show ((some x).bind fun x => (viewAll st (ofD r)).map (x :: ·)) = _
    rw [viewAll_ofD st r]; rfl
theorem view2_at {st gs : Store} {k : Nat} {xs : List PyData} (h : gs[k]? = some (.lst (ofD xs))) : view2 (st ++ gs) (.cell (st.length + k)) = some (.list xs) := by
  simp [view2, get_app, h]
theorem not_empty {st gs : Store} {k : Nat} {xs : List PyData} (h : gs[k]? = some (.lst (ofD xs))) : cmpop .NotEq (st ++ gs) (.cell (st.length + k)) (.d (.list [])) = some (!xs.isEmpty) := by
  show ((view2 (st ++ gs) (.cell (st.length + k))).bind fun x => (some (PyData.list [])).bind fun y => (deq x y).map (!·)) = _
  rw [view2_at h]
  cases xs with
  | nil => rfl
  | cons x r => rfl
theorem lstAt_app {st gs : Store} {k : Nat} {us : List U} (h : gs[k]? = some (.lst us)) : lstAt (st ++ gs) (.cell (st.length + k)) = some (st.length + k, us) := by
  simp [lstAt, get_app, h]
theorem pop_app {st gs : Store} {k base : Nat} {xs : List PyData} {x : PyData} (h : gs[k]? = some (.lst (ofD (xs ++ [x])))) :
    meth base .popL (st ++ gs) (.cell (st.length + k)) [] = some (.u (.d x), st ++ gs.set k (.lst (ofD xs))) := by
  have e : meth base .popL (st ++ gs) (.cell (st.length + k)) [] = ((lstAt (st ++ gs) (.cell (st.length + k))).bind fun p => p.2[p.2.length - 1]?.map fun u => (.u u, (st ++ gs).set p.1 (.lst p.2.dropLast))) := rfl
  rw [e, lstAt_app h]
  simp [set_app, ofD]
theorem app_app {st gs : Store} {k base : Nat} {us : List U} {x : PyData} (h : gs[k]? = some (.lst us)) (hl : us.length < 10000) :
    meth base .append (st ++ gs) (.cell (st.length + k)) [.d x] = some (.u (.d .none), st ++ gs.set k (.lst (us ++ [.d x]))) := by
  have e : meth base .append (st ++ gs) (.cell (st.length + k)) [.d x] = ((lstAt (st ++ gs) (.cell (st.length + k))).bind fun p => chk (p.2.length < sizeLine ∧ okIn base p.1 (.d x)) (.u (.d .none), (st ++ gs).set p.1 (.lst (p.2 ++ [.d x])))) := rfl
  rw [e, lstAt_app h]
  have hz : us.length < sizeLine := by rw [show sizeLine = 16777216 from rfl]; omega
  have ho : okIn base (st.length + k) (.d x) := fun _ => rfl
  show chk (us.length < sizeLine ∧ okIn base (st.length + k) (.d x)) _ = _
  rw [chk_true _ ⟨hz, ho⟩, set_app]
theorem mty_app {m : Meth} {st gs : Store} {k : Nat} {us : List U} (h : gs[k]? = some (.lst us)) (hm : m = .append ∨ m = .popL) : mty m (st ++ gs) (.cell (st.length + k)) = some () := by
  have e := lst_at (st := st) h
  rcases hm with rfl | rfl <;> simp [mty, e]
section
variable {T : Nat → Option Fn} {con : Nat → Option PyData} {fuel : Nat}
theorem tok_loop {M : Mach} {t : Tr} (hn : t.n ≤ 9) {fu : Nat} (hf : 100 < fu) (st : Store) :
    ∃ (k : Nat) (o3 : Option U) (gs : Store), whileL (fun τ1 st1 => (mn M st.length b_l_tokens_t1).tst τ1 st1) (fun τ1 st1 => exs M st.length b_l_tokens_b1 τ1 st1) fu [some (.d t.d), some (.cell st.length), some (.cell (st.length + 1)), none] (st ++ [.lst [], .lst [.d t.d]]) =
      .nx [some (.d t.d), some (.cell st.length), some (.cell (st.length + k)), o3] (st ++ gs) ∧ gs[0]? = some (.lst (ofD t.toks)) := by
  have tl := t.toks_len
  have ml := t.m_le
  have key := whileL_run (test := fun τ1 st1 => (mn M st.length b_l_tokens_t1).tst τ1 st1) (step := fun τ1 st1 => exs M st.length b_l_tokens_b1 τ1 st1)
    (fun m τ st2 => ∃ (done : List PyData) (ws : List It) (k : Nat) (o3 : Option U) (gs : Store), τ = [some (.d t.d), some (.cell st.length), some (.cell (st.length + k)), o3] ∧ st2 = st ++ gs ∧ gs[0]? = some (.lst (ofD done)) ∧ gs[k]? = some (.lst (ofD (ws.map It.d))) ∧ k ≠ 0 ∧ done ++ ws.reverse.flatMap It.toks = t.toks ∧ m = mAll ws ∧ m ≤ 50)
    (fun τ st2 => ∃ (k : Nat) (o3 : Option U) (gs : Store), τ = [some (.d t.d), some (.cell st.length), some (.cell (st.length + k)), o3] ∧ st2 = st ++ gs ∧ gs[0]? = some (.lst (ofD t.toks)))
    (fun _ _ => False) (fun m τ st2 ⟨done, ws, k, o3, gs, hτ, hst, h0, hk, hk0, hd, hm, hm2⟩ => by
      subst hτ hst hm
      have ne := not_empty (st := st) hk
      have wl := ws_len ws
      rcases List.eq_nil_or_concat ws with rfl | ⟨ws', it, rfl⟩
      · refine .inl ⟨st ++ gs, ?_, k, o3, gs, rfl, rfl, ?_⟩
        · simp at ne
          simp [b_l_tokens_t1, ne]
        · simp at hd
          rw [← hd]; exact h0
      · rw [List.concat_eq_append] at hk hd wl hm2 ne ⊢
        have te : (mn M st.length b_l_tokens_t1).tst [some (.d t.d), some (.cell st.length), some (.cell (st.length + k)), o3] (st ++ gs) = .ok true (st ++ gs) := by
          simp at ne
          simp [b_l_tokens_t1, ne]
        refine .inr ⟨st ++ gs, te, .inl ?_⟩
        have hk2 : gs[k]? = some (.lst (ofD (ws'.map It.d ++ [it.d]))) := by rw [hk]; simp
        have pop := pop_app (st := st) (base := st.length) hk2
        have mt := mty_app (m := .popL) (st := st) hk (.inr rfl)
        obtain ⟨gs2, hgs2⟩ : ∃ gs2, gs2 = gs.set k (.lst (ofD (ws'.map It.d))) := ⟨_, rfl⟩
        have kl : k < gs.length := (List.getElem?_eq_some_iff.mp hk).1
        have g0 : gs2[0]? = some (.lst (ofD done)) := by rw [hgs2, List.getElem?_set_ne hk0]; exact h0
        have gk : gs2[k]? = some (.lst (ofD (ws'.map It.d))) := by rw [hgs2, List.getElem?_set_self kl]
        rw [← hgs2] at pop
        have fm : done ++ (it.toks ++ ws'.reverse.flatMap It.toks) = t.toks := by rw [← hd]; simp
        have ma : mAll (ws' ++ [it]) = mAll ws' + it.m := by simp [mAll]
        rw [ma] at hm2
        have small : ∀ (x : PyData), it.toks = [x] → it.d = x → tyIs .tuple x = false → it.m = 1 → ∃ τ' st', (exs M st.length b_l_tokens_b1 [some (.d t.d), some (.cell st.length), some (.cell (st.length + k)), o3] (st ++ gs) = .nx τ' st' ∨ exs M st.length b_l_tokens_b1 [some (.d t.d), some (.cell st.length), some (.cell (st.length + k)), o3] (st ++ gs) = .ct τ' st') ∧
            ∃ m', m' < mAll (ws' ++ [it]) ∧ ∃ (done : List PyData) (ws : List It) (k : Nat) (o3 : Option U) (gs : Store), τ' = [some (.d t.d), some (.cell st.length), some (.cell (st.length + k)), o3] ∧ st' = st ++ gs ∧ gs[0]? = some (.lst (ofD done)) ∧ gs[k]? = some (.lst (ofD (ws.map It.d))) ∧ k ≠ 0 ∧ done ++ ws.reverse.flatMap It.toks = t.toks ∧ m' = mAll ws ∧ m' ≤ 50 := by
          intro x hx hx2 hx3 hx4
          rw [hx] at fm
          have dl : done.length < 100 := by have := congrArg List.length fm; simp at this; omega
          have ap := app_app (st := st) (k := 0) (base := st.length) (x := x) g0 (by simp [ofD]; omega)
          have ma0 := mty_app (m := .append) (st := st) g0 (.inl rfl)
          have g0l : 0 < gs2.length := (List.getElem?_eq_some_iff.mp g0).1
          refine ⟨_, st ++ gs2.set 0 (.lst (ofD done ++ [.d x])), .inl ?_, mAll ws', by rw [ma]; omega, done ++ [x], ws', k, some (.d x), gs2.set 0 (.lst (ofD done ++ [.d x])), rfl, rfl, ?_, ?_, hk0, ?_, rfl, by omega⟩
          · rw [hx2] at pop
            simp only [Nat.add_zero] at ap ma0
            simp [b_l_tokens_b1, mt, pop, hx3, ma0, ap]
          · rw [List.getElem?_set_self g0l]; simp [ofD]
          · rw [List.getElem?_set_ne (Ne.symm hk0)]; exact gk
          · rw [← fm]; simp
        cases it with
        | s x => exact small (.str x) rfl rfl rfl rfl
        | tr t' =>
          cases t' with
          | lf a => exact small (.int a) rfl rfl rfl rfl
          | nd s l r =>
            have ls := lst_at (st := st) gk
            have ba := bin_add_cl (st := st ++ gs2) (c := st.length + k) ls [.str ")", r.d, .str s.s, l.d, .str "("]
            have wl2 := ws_len ws'
            have hl : (ofD (ws'.map It.d)).length ≤ 50 := by simp [ofD]; omega
            have hl2 : (ofD (ws'.map It.d)).length + 5 ≤ 16777216 := by omega
            rw [if_pos (by simp; omega)] at ba
            simp only [ofD_cons, ofD_nil] at ba
            have fn := fin_new (st ++ gs2) (ofD (ws'.map It.d) ++ [.d (.str ")"), .d r.d, .d (.str s.s), .d l.d, .d (.str "(")])
            rw [if_pos (by simp; omega)] at fn
            have hit : (It.tr (.nd s l r)).d = (Tr.nd s l r).d := rfl
            have mit : (It.tr (.nd s l r)).m = l.m + r.m + 4 := rfl
            rw [hit] at pop
            refine ⟨_, st ++ (gs2 ++ [.lst (ofD (ws'.map It.d) ++ [.d (.str ")"), .d r.d, .d (.str s.s), .d l.d, .d (.str "(")])]), .inl ?_, mAll (ws' ++ [.s ")", .tr r, .s s.s, .tr l, .s "("]), ?_, done, ws' ++ [.s ")", .tr r, .s s.s, .tr l, .s "("], gs2.length, some (.d (Tr.nd s l r).d), gs2 ++ [.lst (ofD (ws'.map It.d) ++ [.d (.str ")"), .d r.d, .d (.str s.s), .d l.d, .d (.str "(")])], rfl, rfl, ?_, ?_, ?_, ?_, rfl, ?_⟩
            · simp [-fin_new, b_l_tokens_b1, mt, pop, isTup_nd', item_s0, item_s1, item_s2, ba, fn, hl2]
            · rw [ma, mit]; simp only [mAll, List.map_append, List.sum_append, List.map_cons, List.map_nil, List.sum_cons, List.sum_nil, It.m]; omega
            · have : 0 < gs2.length := (List.getElem?_eq_some_iff.mp g0).1
              rw [List.getElem?_append_left this]; exact g0
            · simp [ofD, It.d]
            · have : 0 < gs2.length := (List.getElem?_eq_some_iff.mp g0).1
              omega
            · rw [← fm]; simp [It.toks, Tr.toks]
            · rw [mit] at hm2; simp only [mAll, List.map_append, List.sum_append, List.map_cons, List.map_nil, List.sum_cons, List.sum_nil, It.m] at hm2 ⊢; omega) fu (mAll [.tr t]) [some (.d t.d), some (.cell st.length), some (.cell (st.length + 1)), none] (st ++ [.lst [], .lst [.d t.d]]) (by simp [mAll, It.m]; omega)
    ⟨[], [.tr t], 1, none, [.lst [], .lst [.d t.d]], rfl, rfl, rfl, rfl, by decide, by simp [It.toks], rfl, by simp [mAll, It.m]; omega⟩
  rcases key with ⟨τ', st', e, k, o3, gs, rfl, rfl, h⟩ | ⟨_, _, _, h⟩
  · exact ⟨k, o3, gs, e, h⟩
  · exact h.elim
end
end K
/-! LP: sorted pairs; tokens told. -/
namespace K
open PySem Z
theorem insD_perm (x : PyData) : ∀ xs : List PyData, (insD x xs).Perm (x :: xs)
  | [] => .refl _
  | y :: r => by
    simp only [insD]
    split
    · exact .refl _
    · exact ((insD_perm x r).cons y).trans (.swap x y r)
theorem srtD_perm : ∀ xs : List PyData, (srtD xs).Perm xs
  | [] => .refl _
  | x :: r => (insD_perm x (srtD r)).trans ((srtD_perm r).cons x)
theorem leD_pr (p q : Nat × Nat) : leD (pr p) (pr q) = (decide (p.1 < q.1) || (decide (p.1 = q.1) && decide (p.2 ≤ q.2))) := by
  have e : decide ((p.1 : Int) = (q.1 : Int)) = decide (p.1 = q.1) := decide_eq_decide.mpr Int.ofNat_inj
  simp [pr, leD, e]
theorem leD_tot (p q : Nat × Nat) : leD (pr p) (pr q) = true ∨ leD (pr q) (pr p) = true := by
  rw [leD_pr, leD_pr]; simp; omega
theorem leD_trans (p q r : Nat × Nat) : leD (pr p) (pr q) = true → leD (pr q) (pr r) = true → leD (pr p) (pr r) = true := by
  rw [leD_pr, leD_pr, leD_pr]; simp; omega
theorem leD_anti (p q : Nat × Nat) : leD (pr p) (pr q) = true → leD (pr q) (pr p) = true → pr p = pr q := by
  rw [leD_pr, leD_pr]
  obtain ⟨a, b⟩ := p
  obtain ⟨c, d⟩ := q
  simp [pr]
  omega
def IsPr (x : PyData) : Prop := ∃ p, x = pr p
theorem insD_sorted {x : PyData} (hx : IsPr x) : ∀ {xs : List PyData}, (∀ y ∈ xs, IsPr y) → xs.Pairwise (fun a b => leD a b = true) → (insD x xs).Pairwise (fun a b => leD a b = true)
  | [], _, _ => by simp [insD]
  | y :: r, h, p => by
    obtain ⟨px, rfl⟩ := hx
    obtain ⟨py, rfl⟩ := h y (by simp)
    rw [List.pairwise_cons] at p
    simp only [insD]
    split
    · rename_i hle
      refine List.pairwise_cons.mpr ⟨fun z hz => ?_, List.pairwise_cons.mpr p⟩
      rcases List.mem_cons.mp hz with rfl | hz
      · exact hle
      · obtain ⟨pz, rfl⟩ := h z (by simp [hz])
        exact leD_trans _ _ _ hle (p.1 _ hz)
    · rename_i hle
      refine List.pairwise_cons.mpr ⟨fun z hz => ?_, insD_sorted ⟨px, rfl⟩ (fun z hz => h z (by simp [hz])) p.2⟩
      rcases List.mem_cons.mp ((insD_perm _ r).mem_iff.mp hz) with rfl | hz
      · rcases leD_tot px py with q | q
        · exact absurd q hle
        · exact q
      · exact p.1 _ hz
theorem srtD_sorted : ∀ {xs : List PyData}, (∀ y ∈ xs, IsPr y) → (srtD xs).Pairwise (fun a b => leD a b = true)
  | [], _ => by simp [srtD]
  | x :: r, h => insD_sorted (h x (by simp)) (fun y hy => h y (by simp [(srtD_perm r).mem_iff.mp hy])) (srtD_sorted fun y hy => h y (by simp [hy]))
theorem srtD_same {ps qs : List (Nat × Nat)} (h : ps.Perm qs) : srtD (ps.map pr) = srtD (qs.map pr) := by
  have ip : ∀ ps : List (Nat × Nat), ∀ y ∈ ps.map pr, IsPr y := fun ps y hy => by obtain ⟨p, _, rfl⟩ := List.mem_map.mp hy; exact ⟨p, rfl⟩
  refine List.Perm.eq_of_pairwise (le := fun a b => leD a b = true) (fun a b ha hb h1 h2 => ?_) (srtD_sorted (ip ps)) (srtD_sorted (ip qs)) ((srtD_perm _).trans ((h.map pr).trans (srtD_perm _).symm))
  obtain ⟨p, rfl⟩ := ip ps a ((srtD_perm _).mem_iff.mp ha)
  obtain ⟨q, rfl⟩ := ip qs b ((srtD_perm _).mem_iff.mp hb)
  exact leD_anti p q h1 h2
theorem srtD_prs (ps : List (Nat × Nat)) : ∃ qs : List (Nat × Nat), srtD (ps.map pr) = qs.map pr ∧ qs.length = ps.length := by
  have h : ∀ xs : List PyData, (∀ y ∈ xs, IsPr y) → ∃ qs : List (Nat × Nat), xs = qs.map pr := by
    intro xs
    induction xs with
    | nil => intro _; exact ⟨[], rfl⟩
    | cons x r ih =>
      intro h
      obtain ⟨p, rfl⟩ := h x (by simp)
      obtain ⟨qs, rfl⟩ := ih fun y hy => h y (by simp [hy])
      exact ⟨p :: qs, rfl⟩
  obtain ⟨qs, e⟩ := h (srtD (ps.map pr)) fun y hy => by
    obtain ⟨p, _, rfl⟩ := List.mem_map.mp ((srtD_perm _).mem_iff.mp hy)
    exact ⟨p, rfl⟩
  refine ⟨qs, e, ?_⟩
  have := (srtD_perm (ps.map pr)).length_eq
  rw [e] at this
  simpa using this
def Tr.post : Tr → Nat → List (Nat × Nat)
  | .lf _, _ => []
  | .nd _ l r, b => l.post b ++ r.post (b + l.n) ++ [(b, b + (l.n + r.n) - 1)]
theorem Tr.post_perm : ∀ (t : Tr) (b : Nat), (t.pre b).Perm (t.post b)
  | .lf _, _ => .refl _
  | .nd _ l r, b => by
    simp only [pre, post]
    rw [List.append_assoc]
    exact (List.perm_append_comm).trans (((post_perm l b).append (post_perm r (b + l.n))).append_right _)
theorem Tr.post_len (t : Tr) (b : Nat) : (t.post b).length + 1 = t.n := by rw [← (t.post_perm b).length_eq]; exact t.pre_len b
section
variable {T : Nat → Option Fn} {con : Nat → Option PyData} {fuel : Nat}
theorem g_tokens (h : T 20 = some F_l_tokens) {t : Tr} (hn : t.n ≤ 9) {N : Nat} (hN : 1 ≤ N) (hf : 100 < fuel) (st : Store) : run T con fuel N 20 [.d t.d] st = .ok (.cell st.length) (st ++ [.lst (ofD t.toks)]) := by
  obtain ⟨M0, rfl, hM0⟩ := suc hN
  obtain ⟨M, hM⟩ : ∃ M : Mach, M = ⟨con, run T con fuel M0, fuel⟩ := ⟨_, rfl⟩
  have hMf : M.fuel = fuel := by rw [hM]
  obtain ⟨k, o3, gs, e, g0⟩ := tok_loop (M := M) hn hf st
  rw [run_at h rfl, ← hM]
  have ex : exs M st.length b_l_tokens [some (.d t.d), none, none, none] st = .rt (.cell st.length) (st ++ gs) := by
    simp [-x_whil, b_l_tokens, x_whil M, hMf, e]
  show leave st.length (exs M st.length b_l_tokens [some (.d t.d), none, none, none] st) = _
  rw [ex]
  exact leave_cell0 g0
end
theorem str_assoc (x y z : Str) : x ++ y ++ z = x ++ (y ++ z) := by
  cases x; cases y; cases z
  show Str.mk _ = Str.mk _
  congr 1
  exact Array.append_assoc ..
end K
/-! LE: ways with one thing otherwise. -/
namespace K
open PySem Z
/- _law_odd, 11 -/
def b_l_odd : LSs :=
    (.cons (.set (.v 1) (.lst false (.cons (.lit .none) (.cons (.lit (.bool true)) (.cons (.lit (.bool false)) (.cons (.lit (.str "")) (.cons (.lit (.str "+")) (.cons (.lit (.str "3")) (.cons (.lst false .nil) (.cons (.lst false (.cons (.lit (.int 3)) .nil)) (.cons (.tup .nil) (.cons (.tup (.cons (.lit (.int 3)) .nil)) (.cons (.dct0 false false) (.cons (.tup (.cons (.lit (.str "+")) (.cons (.lit (.int 1)) .nil))) (.cons (.tup (.cons (.lit (.str "+")) (.cons (.lit (.int 1)) (.cons (.lit (.int 2)) (.cons (.lit (.int 3)) .nil))))) (.cons (.lst false (.cons (.lit (.str "+")) (.cons (.lit (.int 1)) (.cons (.lit (.int 2)) .nil)))) (.cons (.tup (.cons (.lit (.int 1)) (.cons (.lit (.str "+")) (.cons (.lit (.int 2)) .nil)))) .nil)))))))))))))))))
    (.cons (.ret (.idx (.var 1) (.call 6 (.cons (.var 0) (.cons (.lit (.int 15)) .nil)))))
    .nil))
def F_l_odd : Fn := ⟨1, 2, b_l_odd⟩
/- _law_bad_way, 12 -/
def b_l_bad_way : LSs :=
    (.cons (.ife (.bl .Or (.cons (.nt (.pr (.isT .tuple) false (.cons (.var 1) .nil))) (.cons (.cmp (.call 6 (.cons (.var 0) (.cons (.lit (.int 4)) .nil))) (.cons .Eq (.lit (.int 0)) .nil)) .nil))) (.cons (.ret (.call 11 (.cons (.var 0) .nil)))
    .nil) .nil)
    (.cons (.set (.t [(.v 5), (.v 6), (.v 7)]) (.var 1))
    (.cons (.set (.v 2) (.call 6 (.cons (.var 0) (.cons (.lit (.int 12)) .nil))))
    (.cons (.ife (.cmp (.var 2) (.cons .Lt (.lit (.int 4)) .nil)) (.cons (.ret (.tup (.cons (.var 5) (.cons (.call 12 (.cons (.var 0) (.cons (.var 6) .nil))) (.cons (.var 7) .nil)))))
    .nil) .nil)
    (.cons (.ife (.cmp (.var 2) (.cons .Lt (.lit (.int 8)) .nil)) (.cons (.ret (.tup (.cons (.var 5) (.cons (.var 6) (.cons (.call 12 (.cons (.var 0) (.cons (.var 7) .nil))) .nil)))))
    .nil) .nil)
    (.cons (.set (.v 3) (.idx (.lst false (.cons (.lit (.str "/")) (.cons (.lit (.str "++")) (.cons (.lit (.str "")) (.cons (.lit (.str "x")) (.cons (.lit (.str " +")) (.cons (.lit (.str "+-")) (.cons (.lit .none) (.cons (.lit (.int 1)) (.cons (.tup (.cons (.lit (.str "+")) .nil)) (.cons (.lst false (.cons (.lit (.str "+")) .nil)) .nil))))))))))) (.call 6 (.cons (.var 0) (.cons (.lit (.int 10)) .nil)))))
    (.cons (.set (.v 4) (.lst false (.cons (.tup (.cons (.var 3) (.cons (.var 6) (.cons (.var 7) .nil)))) (.cons (.lst false (.cons (.var 5) (.cons (.var 6) (.cons (.var 7) .nil)))) (.cons (.tup (.cons (.var 5) (.cons (.var 6) .nil))) (.cons (.tup (.cons (.var 5) (.cons (.var 6) (.cons (.var 7) (.cons (.lit (.int 0)) .nil))))) (.cons (.tup (.cons (.var 6) (.cons (.var 5) (.cons (.var 7) .nil)))) .nil)))))))
    (.cons (.ret (.idx (.var 4) (.idx (.lst false (.cons (.lit (.int 0)) (.cons (.lit (.int 0)) (.cons (.lit (.int 1)) (.cons (.lit (.int 2)) (.cons (.lit (.int 3)) (.cons (.lit (.int 4)) .nil))))))) (.call 6 (.cons (.var 0) (.cons (.lit (.int 6)) .nil))))))
    .nil))))))))
def F_l_bad_way : Fn := ⟨2, 8, b_l_bad_way⟩
section
variable {T : Nat → Option Fn} {con : Nat → Option PyData} {fuel : Nat}
theorem f_odd (hS : HS T) (h11 : T 11 = some F_l_odd) {w k n : Nat} {st : Store} (hw : Well st w k) (hk : k < 2 ^ 48) : ∃ (x : PyData) (st' : Store), run T con fuel (n + 3) 11 [.cell w] st = .ok (.d x) st' ∧ Fi 1 8000 x ∧ cnt x = 0 ∧ Z.Step w (k + 1) st st' := by
  obtain ⟨r1, s1, e1, a1, b1, g1⟩ := f_draw (con := con) (fuel := fuel) (n := n) hS.toHW (m := 15) hw (by omega) (by decide) (by decide)
  have q1 := fun (b : Nat) => g1.inner (base := b) (U.d (.int r1))
  obtain ⟨x, hx, ex⟩ := item_lst (st := s1) (xs := [.none, .bool true, .bool false, .str "", .str "+", .str "3", .list [], .list [.int 3], .tuple [], .tuple [.int 3], .dict [], .tuple [.str "+", .int 1], .tuple [.str "+", .int 1, .int 2, .int 3], .list [.str "+", .int 1, .int 2], .tuple [.int 1, .str "+", .int 2]]) (r := r1) a1 (by simpa using b1)
  have hf : Fi 1 8000 x ∧ cnt x = 0 := by
    have : ∀ y ∈ ([.none, .bool true, .bool false, .str "", .str "+", .str "3", .list [], .list [.int 3], .tuple [], .tuple [.int 3], .dict [], .tuple [.str "+", .int 1], .tuple [.str "+", .int 1, .int 2, .int 3], .list [.str "+", .int 1, .int 2], .tuple [.int 1, .str "+", .int 2]] : List PyData), nice y = true ∧ y.depth ≤ 1 ∧ wt y ≤ 8000 ∧ cnt y = 0 := by
      intro y hy
      simp only [List.mem_cons, List.not_mem_nil, or_false] at hy
      rcases hy with rfl | rfl | rfl | rfl | rfl | rfl | rfl | rfl | rfl | rfl | rfl | rfl | rfl | rfl | rfl <;> decide +kernel
    obtain ⟨c1, c2, c3, c4⟩ := this x hx
    exact ⟨⟨c1, c2, c3⟩, c4⟩
  refine ⟨x, s1, ?_, hf.1, hf.2, g1⟩
  rw [run_at h11 rfl]
  simp [F_l_odd, b_l_odd, e1, q1, ex, tupOf_eq]
  exact leave_rt g1.len
theorem f_bad (hS : HS T) (h11 : T 11 = some F_l_odd) (h12 : T 12 = some F_l_bad_way) {sg : Str} (hs : Sg sg) {xs : List Int} {x : PyData} (h : WayT sg xs x) : (∀ a ∈ xs, a.natAbs < 2 ^ 64) → ∀ {w k : Nat} (n : Nat) {st : Store}, Well st w k → k + 5 * xs.length < 2 ^ 48 →
    ∃ (y : PyData) (st' : Store), run T con fuel (n + xs.length + 3) 12 [.cell w, .d x] st = .ok (.d y) st' ∧ Fi (xs.length + 1) (2000 * xs.length + 10000) y ∧ cnt y = 0 ∧ Z.Step w (k + 5 * xs.length) st st' := by
  induction h with
  | one a =>
    intro ha w k n st hw hk
    obtain ⟨y, s1, e1, f1, z1, g1⟩ := f_odd (fuel := fuel) (con := con) hS h11 (n := n) hw (by simp at hk; omega)
    have q1 := fun (b : Nat) => g1.inner (base := b) (U.d y)
    refine ⟨y, s1, ?_, f1.mono (by simp) (by simp), z1, g1.mono (by simp)⟩

    rw [run_at h12 rfl]
    simp [F_l_bad_way, b_l_bad_way, tyIs, e1, q1]
    exact leave_rt g1.len
  | @two c xs ys l r hc h1 h2 ih1 ih2 =>
    intro ha w k n st hw hk
    simp only [List.length_append] at hk ⊢
    have ha1 : ∀ a ∈ xs, a.natAbs < 2 ^ 64 := fun a h => ha a (List.mem_append_left _ h)
    have ha2 : ∀ a ∈ ys, a.natAbs < 2 ^ 64 := fun a h => ha a (List.mem_append_right _ h)
    obtain ⟨l1, fl⟩ := h1.fi hs ha1
    obtain ⟨l2, fr⟩ := h2.fi hs ha2
    have c1 : c < 0x110000 := by rcases hs.2.2 c hc with e | e | e <;> omega
    have fc := Fi.chr c1
    obtain ⟨r1, s1, e1, a1, b1, g1⟩ := f_draw (con := con) (fuel := fuel) (n := n + (xs.length + ys.length)) hS.toHW (m := 4) hw (by omega) (by decide) (by decide)
    have q1 := fun (b : Nat) => g1.inner (base := b) (U.d (.int r1))
    have hn : n + (xs.length + ys.length) + 3 = n + (xs.length + ys.length) + 2 + 1 := rfl
    rw [run_at h12 rfl]
    by_cases h0 : r1 = 0
    · subst h0
      obtain ⟨y, s2, e2, f2, z2, g2⟩ := f_odd (fuel := fuel) (con := con) hS h11 (n := n + (xs.length + ys.length) - 1) g1.well (by omega)
      rw [show n + (xs.length + ys.length) - 1 + 3 = n + (xs.length + ys.length) + 2 by omega] at e2
      have q2 := fun (b : Nat) => g2.inner (base := b) (U.d y)
      refine ⟨y, s2, ?_, f2.mono (by omega) (by omega), z2, (g1.trans g2).mono (by omega)⟩

      simp [F_l_bad_way, b_l_bad_way, tyIs, e1, q1, e2, q2]
      exact leave_rt (g1.trans g2).len
    · have h0' : (r1 == 0) = false := by simpa using h0
      obtain ⟨r2, s2, e2, a2, b2, g2⟩ := f_draw (con := con) (fuel := fuel) (n := n + (xs.length + ys.length)) hS.toHW (m := 12) g1.well (by omega) (by decide) (by decide)
      have q2 := fun (b : Nat) => g2.inner (base := b) (U.d (.int r2))
      have sT : ∀ τ : Vars, setT (.t [.v 5, .v 6, .v 7]) (.d (.tuple [.str ⟨#[c]⟩, l, r])) τ = some (((τ.set 5 (some (.d (.str ⟨#[c]⟩)))).set 6 (some (.d l))).set 7 (some (.d r))) := fun τ => by simp [setT, setTs]
      by_cases k4 : r2 < 4
      · obtain ⟨y, s3, e3, f3, z3, g3⟩ := ih1 ha1 (w := w) (k := k + 2) (n + ys.length - 1) (g2.well.mono (by omega)) (by omega)
        rw [show n + ys.length - 1 + xs.length + 3 = n + (xs.length + ys.length) + 2 by omega] at e3
        have q3 := fun (b : Nat) => g3.inner (base := b) (U.d y)
        have gs := (g1.trans g2).trans g3
        refine ⟨.tuple [.str ⟨#[c]⟩, y, r], s3, ?_, ?_, by simp [cnt, z3], gs.mono (by omega)⟩
        · skip
          simp [F_l_bad_way, b_l_bad_way, tyIs, e1, q1, h0', sT, e2, q2, k4, e3, q3, tupOf_eq]
          exact leave_rt gs.len
        · exact (Fi.tup3 (d := xs.length + ys.length) (fc.mono (by omega) (Nat.le_refl _)) (f3.mono (by omega) (Nat.le_refl _)) (fr.mono (by omega) (Nat.le_refl _))).mono (by omega) (by omega)
      · by_cases k8 : r2 < 8
        · obtain ⟨y, s3, e3, f3, z3, g3⟩ := ih2 ha2 (w := w) (k := k + 2) (n + xs.length - 1) (g2.well.mono (by omega)) (by omega)
          rw [show n + xs.length - 1 + ys.length + 3 = n + (xs.length + ys.length) + 2 by omega] at e3
          have q3 := fun (b : Nat) => g3.inner (base := b) (U.d y)
          have gs := (g1.trans g2).trans g3
          refine ⟨.tuple [.str ⟨#[c]⟩, l, y], s3, ?_, ?_, by simp [cnt, z3], gs.mono (by omega)⟩
          · skip
            simp [F_l_bad_way, b_l_bad_way, tyIs, e1, q1, h0', sT, e2, q2, k4, k8, e3, q3, tupOf_eq]
            exact leave_rt gs.len
          · exact (Fi.tup3 (d := xs.length + ys.length) (fc.mono (by omega) (Nat.le_refl _)) (fl.mono (by omega) (Nat.le_refl _)) (f3.mono (by omega) (Nat.le_refl _))).mono (by omega) (by omega)
        · obtain ⟨r3, s3, e3, a3, b3, g3⟩ := f_draw (con := con) (fuel := fuel) (n := n + (xs.length + ys.length)) hS.toHW (m := 10) g2.well (by omega) (by decide) (by decide)
          obtain ⟨r4, s4, e4, a4, b4, g4⟩ := f_draw (con := con) (fuel := fuel) (n := n + (xs.length + ys.length)) hS.toHW (m := 6) g3.well (by omega) (by decide) (by decide)
          have q3 := fun (b : Nat) => g3.inner (base := b) (U.d (.int r3))
          have q4 := fun (b : Nat) => g4.inner (base := b) (U.d (.int r4))
          obtain ⟨bad, hb, eb⟩ := item_lst (st := s3) (xs := [.str "/", .str "++", .str "", .str "x", .str " +", .str "+-", .none, .int 1, .tuple [.str "+"], .list [.str "+"]]) (r := r3) a3 (by simpa using b3)
          have fb2 : Fi 1 3000 bad ∧ sgn bad = false := by
            have : ∀ y ∈ ([.str "/", .str "++", .str "", .str "x", .str " +", .str "+-", .none, .int 1, .tuple [.str "+"], .list [.str "+"]] : List PyData), nice y = true ∧ y.depth ≤ 1 ∧ wt y ≤ 3000 ∧ sgn y = false := by
              intro y hy
              simp only [List.mem_cons, List.not_mem_nil, or_false] at hy
              rcases hy with rfl | rfl | rfl | rfl | rfl | rfl | rfl | rfl | rfl | rfl <;> decide +kernel
            obtain ⟨d1, d2, d3, d4⟩ := this bad hb
            exact ⟨⟨d1, d2, d3⟩, d4⟩
          have fb := fb2.1
          obtain ⟨ix, hi, ei⟩ := item_lst (st := s4) (xs := [.int 0, .int 0, .int 1, .int 2, .int 3, .int 4]) (r := r4) a4 (by simpa using b4)
          obtain ⟨j, rfl, j0, j1⟩ : ∃ j, ix = .int j ∧ 0 ≤ j ∧ j < 5 := by
            simp only [List.mem_cons, List.not_mem_nil, or_false] at hi
            rcases hi with rfl | rfl | rfl | rfl | rfl | rfl <;> exact ⟨_, rfl, by decide, by decide⟩
          obtain ⟨y, hy, ey⟩ := item_lst (st := s4) (xs := [.tuple [bad, l, r], .list [.str ⟨#[c]⟩, l, r], .tuple [.str ⟨#[c]⟩, l], .tuple [.str ⟨#[c]⟩, l, r, .int 0], .tuple [l, .str ⟨#[c]⟩, r]]) (r := j) j0 (by simpa using j1)
          have fl' := fl.mono (d' := xs.length + ys.length) (by omega) (Nat.le_refl _)
          have fr' := fr.mono (d' := xs.length + ys.length) (by omega) (Nat.le_refl _)
          have fc' := fc.mono (d' := xs.length + ys.length) (by omega) (Nat.le_refl _)
          have fb' := fb.mono (d' := xs.length + ys.length) (by omega) (Nat.le_refl _)
          have f0 := (Fi.int (i := 0) (by decide)).mono (d' := xs.length + ys.length) (by omega) (Nat.le_refl _)
          have fy : Fi (xs.length + ys.length + 1) (2000 * (xs.length + ys.length) + 10000) y := by
            simp only [List.mem_cons, List.not_mem_nil, or_false] at hy
            rcases hy with rfl | rfl | rfl | rfl | rfl
            · exact (Fi.tup3 fb' fl' fr').mono (by omega) (by omega)
            · exact (Fi.lst3 fc' fl' fr').mono (by omega) (by omega)
            · exact (Fi.tup2 fc' fl').mono (by omega) (by omega)
            · exact (Fi.tup4 fc' fl' fr' f0).mono (by omega) (by omega)
            · exact (Fi.tup3 fl' fc' fr').mono (by omega) (by omega)
          have zl : sgn l = false := by cases h1 <;> rfl
          have zy : cnt y = 0 := by
            simp only [List.mem_cons, List.not_mem_nil, or_false] at hy
            rcases hy with rfl | rfl | rfl | rfl | rfl
            · simp [cnt, fb2.2]
            · simp [cnt]
            · exact cnt_len (by simp)
            · exact cnt_len (by simp)
            · simp [cnt, zl]
          have gs := ((g1.trans g2).trans g3).trans g4
          refine ⟨y, s4, ?_, fy, zy, gs.mono (by omega)⟩
          simp [F_l_bad_way, b_l_bad_way, tyIs, e1, q1, h0', sT, e2, q2, k4, k8, e3, q3, eb, e4, q4, ei, ey, tupOf_eq]
          exact leave_rt gs.len
theorem sgn_in {st : Store} {s : Str} (h : nice (.str s) = true) : cmpop .NotIn st (.d (.str s)) (.d (.list [.str "+", .str "-", .str "*"])) = some (!sgn (.str s)) := by
  have e : cmpop .NotIn st (.d (.str s)) (.d (.list [.str "+", .str "-", .str "*"])) = (chk (eqOk (.str s) (.list [.str "+", .str "-", .str "*"])) (([.str "+", .str "-", .str "*"] : List PyData).any fun y => y.eqv (.str s))).map (!·) := rfl
  have ok : eqOk (.str s) (.list [.str "+", .str "-", .str "*"]) := by
    simp only [nice, Bool.and_eq_true, decide_eq_true_eq] at h
    refine ⟨?_, by decide +kernel⟩
    show ((PyData.str s).canLay0 && decide ((PyData.str s).depth ≤ 64)) = true
    simp only [PyData.canLay0, PyData.depth, PyData.strOk]
    simp [h.2]
  rw [e, chk_true _ ok]
  have e1 : ∀ t : Str, (PyData.str t).eqv (.str s) = (t == s) := fun t => rfl
  have e2 : ∀ (t : Str) (l : List Nat), t.cps.toList = l → (t == s) = decide (s.cps.toList = l) := fun t l h => by
    subst h
    by_cases q : t = s
    · subst q; simp
    · have : ¬ s.cps.toList = t.cps.toList := fun e => q (by cases t; cases s; congr 1; exact (Array.toList_inj.mp e).symm)
      simp [q, this]
  simp only [List.any_cons, List.any_nil, e1, sgn]
  rw [e2 "+" [43] (by decide +kernel), e2 "-" [45] (by decide +kernel), e2 "*" [42] (by decide +kernel)]
  simp [Bool.or_assoc]
end
end K
/-! LG: worths of parts; what is refused. -/
namespace K
open PySem Z
/- put_worths, 66 -/
def b_put_worths : LSs :=
    (.cons (.sub (.var 2) (.tup (.cons (.var 1) (.cons (.bop .Sub false (.bop .Add false (.var 1) (.call 2 (.cons (.var 0) .nil))) (.lit (.int 1))) .nil))) (.call 28 (.cons (.var 0) .nil)))
    (.cons (.ife (.nt (.call 0 (.cons (.var 0) .nil))) (.cons (.expr (.call 66 (.cons (.idx (.var 0) (.lit (.int 1))) (.cons (.var 1) (.cons (.var 2) .nil)))))
    (.cons (.expr (.call 66 (.cons (.idx (.var 0) (.lit (.int 2))) (.cons (.bop .Add false (.var 1) (.call 2 (.cons (.idx (.var 0) (.lit (.int 1))) .nil))) (.cons (.var 2) .nil)))))
    .nil)) .nil)
    .nil))
def F_put_worths : Fn := ⟨3, 3, b_put_worths⟩
/- part_worths, 67 -/
def b_part_worths : LSs :=
    (.cons (.expr (.call 16 (.cons (.var 0) .nil)))
    (.cons (.set (.v 1) (.dct0 true true))
    (.cons (.expr (.call 66 (.cons (.var 0) (.cons (.lit (.int 0)) (.cons (.var 1) .nil)))))
    (.cons (.ret (.var 1))
    .nil))))
def F_part_worths : Fn := ⟨1, 2, b_part_worths⟩
def kT (i j : Int) : PyData := .tuple [.int i, .int j]
def ky (i j : Int) : List L2.Key := [.inl i, .inl j]
abbrev Kvs := List (PyData × U)
def put2 (i j w : Int) (kvs : Kvs) : Kvs := putD unT (kT i j) (ky i j) (.d (.int w)) kvs
/-- the worths of the parts, put in one by one -/
def Tr.pws : Tr → Nat → Kvs → Kvs
  | .lf a, b, kvs => put2 b b a kvs
  | .nd s l r, b, kvs => r.pws (b + l.n) (l.pws b (put2 b ((b : Int) + (Tr.nd s l r).n - 1) (Tr.nd s l r).worth kvs))
def allD (kvs : Kvs) : Prop := ∀ p ∈ kvs, ∃ x, p.2 = .d x
theorem allD_put {i j w : Int} {kvs : Kvs} (h : allD kvs) : allD (put2 i j w kvs) := by
  unfold put2 putD
  split
  · intro p hp
    obtain ⟨q, hq, rfl⟩ := List.mem_map.mp hp
    split
    · exact ⟨_, rfl⟩
    · exact h q hq
  · intro p hp
    rcases List.mem_append.mp hp with q | q
    · exact h p q
    · rw [List.mem_singleton.mp q]; exact ⟨_, rfl⟩
theorem len_put (i j w : Int) (kvs : Kvs) : (put2 i j w kvs).length ≤ kvs.length + 1 := by
  unfold put2 putD
  split
  · rw [List.length_map]; omega
  · simp
theorem allD_pws : ∀ (t : Tr) (b : Nat) (kvs : Kvs), allD kvs → allD (t.pws b kvs)
  | .lf a, b, kvs, h => allD_put h
  | .nd s l r, b, kvs, h => allD_pws r _ _ (allD_pws l _ _ (allD_put h))
theorem len_pws : ∀ (t : Tr) (b : Nat) (kvs : Kvs), (t.pws b kvs).length + 1 ≤ kvs.length + 2 * t.n
  | .lf a, b, kvs => by have := len_put b b a kvs; simp only [Tr.pws, Tr.n]; omega
  | .nd s l r, b, kvs => by
    have h1 := len_pws r (b + l.n) (l.pws b (put2 b ((b : Int) + (Tr.nd s l r).n - 1) (Tr.nd s l r).worth kvs))
    have h2 := len_pws l b (put2 b ((b : Int) + (Tr.nd s l r).n - 1) (Tr.nd s l r).worth kvs)
    have h3 := len_put b ((b : Int) + (Tr.nd s l r).n - 1) (Tr.nd s l r).worth kvs
    simp only [Tr.pws, Tr.n] at *
    omega
theorem closed_d {base : Nat} {kvs : Kvs} (h : allD kvs) (t : Bool) : (Cont.dct t kvs).closed base = true := by
  simp only [Cont.closed, List.all_eq_true]
  intro p hp
  obtain ⟨x, e⟩ := h p hp
  rw [e]; rfl
theorem inner_set {α : Type} {base c : Nat} {st : Store} {cc : Cont} (x : α) (hc : c < st.length) (h : cc.closed base = true) : (Res.ok x (st.set c cc)).inner base st = .ok x (st.set c cc) := by
  have : innerOk base st (st.set c cc) := fun n hn => by
    by_cases e : c = n
    · subst e; exact .inr ⟨cc, by rw [List.getElem?_set_self hc], h⟩
    · exact .inl (by rw [List.getElem?_set_ne e])
  simp only [Res.inner, if_pos this]
theorem set_k {base c : Nat} {st : Store} {kvs : Kvs} (hc : st[c]? = some (.dct true kvs)) (hl : kvs.length ≤ 1000) (i j w : Int) : setAt base st (.cell c) (.d (.tuple [.int i, .int j])) (.d (.int w)) = some (st.set c (.dct true (put2 i j w kvs))) := by
  have e : dctAt st (.cell c) = some (c, true, kvs) := by simp [dctAt, hc]
  have z : kvs.length < sizeLine := by rw [show sizeLine = 16777216 from rfl]; omega
  simp only [setAt, e, Option.isSome_some, if_true, Z.putAt, Option.bind_some, U.tree]
  show (chk (kvs.length < sizeLine ∧ okIn base c (.d (.int w))) (st.set c (.dct true (put2 i j w kvs)))) = _
  exact if_pos ⟨z, fun _ => rfl⟩
section
variable {T : Nat → Option Fn} {con : Nat → Option PyData} {fuel : Nat}
theorem g_put_worths (h : HWo T con) (h66 : T 66 = some F_put_worths) {B : Nat} : ∀ {t : Tr} {N b c : Nat} {kvs : Kvs} {st : Store}, Wy (B + 1) t → t.h + 30 ≤ N → st[c]? = some (.dct true kvs) → allD kvs → kvs.length + 2 * t.n ≤ 500 →
    run T con fuel N 66 [.d t.d, .d (.int b), .cell c] st = .ok (.d .none) (st.set c (.dct true (t.pws b kvs))) := by
  intro t
  induction t with
  | lf a =>
    intro N b c kvs st ht hN hc hd hl
    obtain ⟨M, rfl, hM⟩ := suc (N := N) (m := 29) (by omega)
    rw [run_at h66 rfl]
    have hcl := (List.getElem?_eq_some_iff.mp hc).1
    have e1 := g_count (fuel := fuel) h.toHC ht (N := M) (by omega) st
    have e2 := g_worth_in (fuel := fuel) h ht (N := M) (by simp [Tr.h]; omega) st
    have e3 := set_k (base := st.length) hc (by omega) (b : Int) ((b : Int) + (Tr.lf a).n - 1) (Tr.lf a).worth
    obtain ⟨s2, hs2⟩ : ∃ s2, s2 = st.set c (.dct true (put2 (b : Int) ((b : Int) + (Tr.lf a).n - 1) (Tr.lf a).worth kvs)) := ⟨_, rfl⟩
    rw [← hs2] at e3
    have e4 := g_whole (fuel := fuel) h.toHC (N := M) (by omega) (Tr.lf a).d s2
    have w : isWhole (Tr.lf a).d = true := rfl
    have key : exs ⟨con, run T con fuel M, fuel⟩ st.length b_put_worths [some (.d (Tr.lf a).d), some (.d (.int b)), some (.cell c)] st = .nx [some (.d (Tr.lf a).d), some (.d (.int b)), some (.cell c)] s2 := by
      simp [b_put_worths, e1, e2, e3, e4, w, tupOf_eq]
    show leave st.length (exs ⟨con, run T con fuel M, fuel⟩ st.length b_put_worths [some (.d (Tr.lf a).d), some (.d (.int b)), some (.cell c)] st) = _
    rw [key]
    have e5 : s2 = st.set c (.dct true ((Tr.lf a).pws b kvs)) := by
      rw [hs2]
      simp only [Tr.pws, Tr.n, Tr.worth]
      rw [show (b : Int) + ((1 : Nat) : Int) - 1 = b by omega]
    rw [e5]
    show Res.ok _ ((st.set c _).take st.length) = _
    rw [List.take_of_length_le (by simp)]
  | nd s l r ihl ihr =>
    intro N b c kvs st ht hN hc hd hl
    have q1 := Tr.h_l s l r
    have q2 := Tr.h_r s l r
    have hn : (Tr.nd s l r).n = l.n + r.n := rfl
    obtain ⟨M, rfl, hM⟩ := suc (N := N) (m := (Tr.nd s l r).h + 29) (by omega)
    rw [run_at h66 rfl]
    have hcl := (List.getElem?_eq_some_iff.mp hc).1
    have e1 := g_count (fuel := fuel) h.toHC ht (N := M) (by omega) st
    have e2 := g_worth_in (fuel := fuel) h ht (N := M) (by omega) st
    have e3 := set_k (base := st.length) hc (by omega) (b : Int) ((b : Int) + (Tr.nd s l r).n - 1) (Tr.nd s l r).worth
    have l3 := len_put (b : Int) ((b : Int) + (Tr.nd s l r).n - 1) (Tr.nd s l r).worth kvs
    have d3 := allD_put (i := (b : Int)) (j := (b : Int) + (Tr.nd s l r).n - 1) (w := (Tr.nd s l r).worth) hd
    obtain ⟨k2, hk2⟩ : ∃ k2, k2 = put2 (b : Int) ((b : Int) + (Tr.nd s l r).n - 1) (Tr.nd s l r).worth kvs := ⟨_, rfl⟩
    rw [← hk2] at e3 l3 d3
    obtain ⟨s2, hs2⟩ : ∃ s2, s2 = st.set c (.dct true k2) := ⟨_, rfl⟩
    rw [← hs2] at e3
    have c2 : s2[c]? = some (.dct true k2) := by rw [hs2, List.getElem?_set_self hcl]
    have l2 : s2.length = st.length := by rw [hs2]; simp
    have e4 := g_whole (fuel := fuel) h.toHC (N := M) (by omega) (Tr.nd s l r).d s2
    have w : isWhole (Tr.nd s l r).d = false := rfl
    have e5 := ihl (N := M) (b := b) ht.l (by omega) c2 d3 (by have := l.n_pos; have := r.n_pos; omega)
    have d4 := allD_pws l b k2 d3
    have l4 := len_pws l b k2
    have i5 := inner_set (base := st.length) (c := c) (st := s2) (U.d .none) (by omega) (closed_d d4 true)
    obtain ⟨k3, hk3⟩ : ∃ k3, k3 = l.pws b k2 := ⟨_, rfl⟩
    rw [← hk3] at e5 d4 l4 i5
    obtain ⟨s3, hs3⟩ : ∃ s3, s3 = s2.set c (.dct true k3) := ⟨_, rfl⟩
    rw [← hs3] at e5 i5
    have c3 : s3[c]? = some (.dct true k3) := by rw [hs3, List.getElem?_set_self (by omega)]
    have l5 : s3.length = st.length := by rw [hs3]; simp [l2]
    have e6 := g_count (fuel := fuel) h.toHC ht.l (N := M) (by omega) s3
    have e7 := ihr (N := M) (b := b + l.n) ht.r (by omega) c3 d4 (by have := l.n_pos; have := r.n_pos; omega)
    have d5 := allD_pws r (b + l.n) k3 d4
    have i7 := inner_set (base := st.length) (c := c) (st := s3) (U.d .none) (by omega) (closed_d d5 true)
    obtain ⟨k4, hk4⟩ : ∃ k4, k4 = r.pws (b + l.n) k3 := ⟨_, rfl⟩
    rw [← hk4] at e7 i7
    rw [show ((b + l.n : Nat) : Int) = (b : Int) + (l.n : Int) by omega] at e7
    obtain ⟨s4, hs4⟩ : ∃ s4, s4 = s3.set c (.dct true k4) := ⟨_, rfl⟩
    rw [← hs4] at e7 i7
    have key : exs ⟨con, run T con fuel M, fuel⟩ st.length b_put_worths [some (.d (Tr.nd s l r).d), some (.d (.int b)), some (.cell c)] st = .nx [some (.d (Tr.nd s l r).d), some (.d (.int b)), some (.cell c)] s4 := by
      simp [b_put_worths, e1, e2, e3, e4, w, tupOf_eq, item_s1, item_s2, e5, i5, e6, e7, i7]
    show leave st.length (exs ⟨con, run T con fuel M, fuel⟩ st.length b_put_worths [some (.d (Tr.nd s l r).d), some (.d (.int b)), some (.cell c)] st) = _
    rw [key]
    have e8 : s4 = st.set c (.dct true ((Tr.nd s l r).pws b kvs)) := by
      rw [hs4, hs3, hs2, List.set_set, List.set_set, hk4, hk3, hk2]
      rfl
    rw [e8]
    show Res.ok _ ((st.set c _).take st.length) = _
    rw [List.take_of_length_le (by simp)]
theorem g_part_worths (h : HWo T con) (h66 : T 66 = some F_put_worths) (h67 : T 67 = some F_part_worths) {B N : Nat} {t : Tr} (ht : Wy (B + 1) t) (hN : 80 ≤ N) (st : Store) :
    run T con fuel N 67 [.d t.d] st = .ok (.cell st.length) (st ++ [.dct true (t.pws 0 [])]) := by
  obtain ⟨M, rfl, hM⟩ := suc (N := N) (m := 79) hN
  rw [run_at h67 rfl]
  have hn := ht.n
  have hh := ht.h
  have e1 := g_need (fuel := fuel) h.toHY ht (N := M) (by omega) st
  have hc : (st ++ [Cont.dct true []])[st.length]? = some (.dct true []) := by simp
  have e2 := g_put_worths (fuel := fuel) h h66 (N := M) (b := 0) ht (by omega) hc (fun p hp => nomatch hp) (by simp; omega)
  have d2 := allD_pws t 0 [] (fun p hp => nomatch hp)
  have i2 := inner_set (base := st.length) (c := st.length) (st := st ++ [Cont.dct true []]) (U.d .none) (by simp) (closed_d d2 true)
  obtain ⟨s2, hs2⟩ : ∃ s2, s2 = (st ++ [Cont.dct true []]).set st.length (.dct true (t.pws 0 [])) := ⟨_, rfl⟩
  rw [← hs2] at e2 i2
  have es : s2 = st ++ [.dct true (t.pws 0 [])] := by rw [hs2]; simp
  have key : exs ⟨con, run T con fuel M, fuel⟩ st.length b_part_worths [some (.d t.d), none] st = .rt (.cell st.length) s2 := by
    simp at e2
    simp [b_part_worths, e1, fin, e2, i2]
  show leave st.length (exs ⟨con, run T con fuel M, fuel⟩ st.length b_part_worths [some (.d t.d), none] st) = _
  rw [key, es]
  simp [leave, leaveU, closed_d d2]
end
end K
/-! LY: plain forms. -/
namespace K
open PySem Z
/- terms_of, 57 -/
def b_terms_of_c1 : LE :=
    (.tup (.cons (.kget 2 (.var 2)) (.cons (.var 3) .nil)))
def b_terms_of : LSs :=
    (.cons (.ife (.bl .Or (.cons (.call 0 (.cons (.var 0) .nil)) (.cons (.cmp (.idx (.var 0) (.lit (.int 0))) (.cons .Eq (.lit (.str "*")) .nil)) .nil))) (.cons (.ret (.lst false (.cons (.tup (.cons (.lit (.str "+")) (.cons (.call 56 (.cons (.var 0) .nil)) .nil))) .nil)))
    .nil) .nil)
    (.cons (.set (.v 1) (.call 57 (.cons (.idx (.var 0) (.lit (.int 2))) .nil)))
    (.cons (.ife (.cmp (.idx (.var 0) (.lit (.int 0))) (.cons .Eq (.lit (.str "-")) .nil)) (.cons (.set (.v 1) (.cp false [2, 3] b_terms_of_c1 (.t [(.v 2), (.v 3)]) (.val (.var 1)) .nil))
    .nil) .nil)
    (.cons (.ret (.bop .Add false (.call 57 (.cons (.idx (.var 0) (.lit (.int 1))) .nil)) (.var 1)))
    .nil))))
def F_terms_of : Fn := ⟨1, 4, b_terms_of⟩
/- factors_of, 55 -/
def b_factors_of : LSs :=
    (.cons (.ife (.bl .Or (.cons (.call 0 (.cons (.var 0) .nil)) (.cons (.cmp (.idx (.var 0) (.lit (.int 0))) (.cons .NotEq (.lit (.str "*")) .nil)) .nil))) (.cons (.ret (.lst false (.cons (.call 56 (.cons (.var 0) .nil)) .nil)))
    .nil) .nil)
    (.cons (.ret (.bop .Add false (.call 55 (.cons (.idx (.var 0) (.lit (.int 1))) .nil)) (.call 55 (.cons (.idx (.var 0) (.lit (.int 2))) .nil))))
    .nil))
def F_factors_of : Fn := ⟨1, 1, b_factors_of⟩
/- plain, 56 -/
def b_plain : LSs :=
    (.cons (.ife (.call 0 (.cons (.var 0) .nil)) (.cons (.ret (.var 0))
    .nil) .nil)
    (.cons (.ife (.cmp (.idx (.var 0) (.lit (.int 0))) (.cons .Eq (.lit (.str "*")) .nil)) (.cons (.ret (.tup (.cons (.lit (.str "times")) (.cons (.pr .tuple false (.cons (.call 55 (.cons (.var 0) .nil)) .nil)) .nil))))
    .nil) .nil)
    (.cons (.ret (.tup (.cons (.lit (.str "sum")) (.cons (.pr .tuple false (.cons (.call 57 (.cons (.var 0) .nil)) .nil)) .nil))))
    .nil)))
def F_plain : Fn := ⟨1, 1, b_plain⟩
/- form_of, 58 -/
def b_form_of : LSs :=
    (.cons (.expr (.call 16 (.cons (.var 0) .nil)))
    (.cons (.ret (.call 56 (.cons (.var 0) .nil)))
    .nil))
def F_form_of : Fn := ⟨1, 1, b_form_of⟩
def sgS (b : Bool) : Str := if b then "+" else "-"
def sd (p : Bool × PyData) : PyData := .tuple [.str (sgS p.1), p.2]
def flp (p : Bool × PyData) : Bool × PyData := (!p.1, p.2)
/-- the plain form, its factors, its terms -/
def info : Tr → PyData × List PyData × List (Bool × PyData)
  | .lf a => (.int a, [.int a], [(true, .int a)])
  | .nd .t l r => (.tuple [.str "times", .tuple ((info l).2.1 ++ (info r).2.1)], (info l).2.1 ++ (info r).2.1, [(true, .tuple [.str "times", .tuple ((info l).2.1 ++ (info r).2.1)])])
  | .nd .p l r => (.tuple [.str "sum", .tuple (((info l).2.2 ++ (info r).2.2).map sd)], [.tuple [.str "sum", .tuple (((info l).2.2 ++ (info r).2.2).map sd)]], (info l).2.2 ++ (info r).2.2)
  | .nd .m l r => (.tuple [.str "sum", .tuple (((info l).2.2 ++ (info r).2.2.map flp).map sd)], [.tuple [.str "sum", .tuple (((info l).2.2 ++ (info r).2.2.map flp).map sd)]], (info l).2.2 ++ (info r).2.2.map flp)
def Tr.pl (t : Tr) : PyData := (info t).1
def Tr.fa (t : Tr) : List PyData := (info t).2.1
def Tr.te (t : Tr) : List (Bool × PyData) := (info t).2.2
theorem fa_len : ∀ t : Tr, t.fa.length ≤ t.n
  | .lf _ => Nat.le_refl _
  | .nd .t l r => by
    have := fa_len l; have := fa_len r
    show (l.fa ++ r.fa).length ≤ l.n + r.n
    rw [List.length_append]; omega
  | .nd .p l r => by have := l.n_pos; show 1 ≤ l.n + r.n; omega
  | .nd .m l r => by have := l.n_pos; show 1 ≤ l.n + r.n; omega
theorem te_len : ∀ t : Tr, t.te.length ≤ t.n
  | .lf _ => Nat.le_refl _
  | .nd .t l r => by have := l.n_pos; show 1 ≤ l.n + r.n; omega
  | .nd .p l r => by
    have := te_len l; have := te_len r
    show (l.te ++ r.te).length ≤ l.n + r.n
    rw [List.length_append]; omega
  | .nd .m l r => by
    have := te_len l; have := te_len r
    show (l.te ++ r.te.map flp).length ≤ l.n + r.n
    rw [List.length_append, List.length_map]; omega
theorem wtAll_app : ∀ xs ys : List PyData, wtAll (xs ++ ys) = wtAll xs + wtAll ys
  | [], ys => by simp [wtAll]
  | x :: r, ys => by simp only [List.cons_append, wtAll, wtAll_app r ys]; omega
theorem niceAll_app : ∀ xs ys : List PyData, niceAll (xs ++ ys) = (niceAll xs && niceAll ys)
  | [], ys => by simp [niceAll]
  | x :: r, ys => by simp only [List.cons_append, niceAll, niceAll_app r ys, Bool.and_assoc]
theorem depthAll_app : ∀ xs ys : List PyData, PyData.depthAll (xs ++ ys) = max (PyData.depthAll xs) (PyData.depthAll ys)
  | [], ys => by simp [PyData.depthAll]
  | x :: r, ys => by simp only [List.cons_append, PyData.depthAll, depthAll_app r ys]; omega
theorem nice_s (b : Bool) : nice (.str (sgS b)) = true := by cases b <;> decide +kernel
theorem len_s (b : Bool) : (sgS b).length = 1 := by cases b <;> rfl
theorem nice_sd (p : Bool × PyData) : nice (sd p) = nice p.2 := by
  have e : nice (sd p) = niceAll [.str (sgS p.1), p.2] := by simp only [sd, nice]
  rw [e]
  simp only [niceAll, nice_s, Bool.true_and, Bool.and_true]
theorem sd_flp (p : Bool × PyData) : wt (sd (flp p)) = wt (sd p) ∧ nice (sd (flp p)) = nice (sd p) ∧ (sd (flp p)).depth = (sd p).depth := by
  refine ⟨?_, by rw [nice_sd, nice_sd]; rfl, ?_⟩
  · simp only [sd, flp, wt, wtAll, len_s]
  · simp only [sd, flp, PyData.depth, PyData.depthAll]
theorem flp_all : ∀ ts : List (Bool × PyData), wtAll ((ts.map flp).map sd) = wtAll (ts.map sd) ∧ niceAll ((ts.map flp).map sd) = niceAll (ts.map sd) ∧ PyData.depthAll ((ts.map flp).map sd) = PyData.depthAll (ts.map sd)
  | [] => ⟨rfl, rfl, rfl⟩
  | p :: r => by
    obtain ⟨a, b, c⟩ := sd_flp p
    obtain ⟨d, e, f⟩ := flp_all r
    simp only [List.map_cons, wtAll, niceAll, PyData.depthAll, a, b, c, d, e, f, and_self]
/-- within bounds -/
structure Bo (h n : Nat) (t : Tr) : Prop where
  p1 : nice t.pl = true
  p2 : t.pl.depth ≤ 3 * h
  p3 : wt t.pl + 1000 ≤ 3000 * n
  f1 : niceAll t.fa = true
  f2 : PyData.depthAll t.fa ≤ 3 * h
  f3 : wtAll t.fa + 1000 ≤ 3000 * n
  t1 : niceAll (t.te.map sd) = true
  t2 : PyData.depthAll (t.te.map sd) ≤ 3 * h + 1
  t3 : wtAll (t.te.map sd) + 1000 ≤ 3000 * n
theorem bo {B : Nat} (hB : B ≤ 1900) : ∀ {t : Tr}, t.Ok B → Bo t.h t.n t
  | .lf a, h => by
    have hn : nice (.int a) = true := by simp only [nice, decide_eq_true_eq]; exact Tr.log_lt h hB
    have e1 : (Tr.lf a).pl = .int a := rfl
    have e2 : (Tr.lf a).fa = [.int a] := rfl
    have e3 : (Tr.lf a).te = [(true, .int a)] := rfl
    have n1 := nice_s true
    have n2 := len_s true
    constructor <;> simp [e1, e2, e3, Tr.h, Tr.n, sd, nice, niceAll, wt, wtAll, PyData.depth, PyData.depthAll, n2] <;> simp_all [nice]
  | .nd s l r, h => by
    have bl := bo hB h.1
    have br := bo hB h.2
    obtain ⟨m, hm, m1, m2⟩ : ∃ m, (Tr.nd s l r).h = m + 1 ∧ l.h ≤ m ∧ r.h ≤ m := ⟨_, rfl, Nat.le_max_left _ _, Nat.le_max_right _ _⟩
    have hn : (Tr.nd s l r).n = l.n + r.n := rfl
    obtain ⟨lp1, lp2, lp3, lf1, lf2, lf3, lt1, lt2, lt3⟩ := bl
    obtain ⟨rp1, rp2, rp3, rf1, rf2, rf3, rt1, rt2, rt3⟩ := br
    have n1 := nice_s true
    have n2 := len_s true
    have k1 : nice (.str "times") = true := by decide +kernel
    have k2 : nice (.str "sum") = true := by decide +kernel
    have k3 : ("times" : Str).length = 5 := rfl
    have k4 : ("sum" : Str).length = 3 := rfl
    rw [hm, hn]
    cases s with
    | t =>
      have e1 : (Tr.nd .t l r).pl = .tuple [.str "times", .tuple (l.fa ++ r.fa)] := rfl
      have e2 : (Tr.nd .t l r).fa = l.fa ++ r.fa := rfl
      have e3 : (Tr.nd .t l r).te = [(true, .tuple [.str "times", .tuple (l.fa ++ r.fa)])] := rfl
      have a1 : nice (Tr.nd .t l r).pl = true := by rw [e1]; simp only [nice, niceAll, niceAll_app, lf1, rf1, Bool.and_true]; simpa [nice] using k1
      have a2 : (Tr.nd .t l r).pl.depth ≤ 3 * m + 2 := by rw [e1]; simp only [PyData.depth, PyData.depthAll, depthAll_app]; omega
      have a3 : wt (Tr.nd .t l r).pl + 1936 ≤ 3000 * (l.n + r.n) := by rw [e1]; simp only [wt, wtAll, wtAll_app, k3]; omega
      refine ⟨a1, by omega, by omega, ?_, ?_, ?_, ?_, ?_, ?_⟩
      · rw [e2, niceAll_app, lf1, rf1]; rfl
      · rw [e2, depthAll_app]; omega
      · rw [e2, wtAll_app]; omega
      · rw [e3, ← e1]; simp only [List.map_cons, List.map_nil, sd, niceAll, nice, a1, Bool.and_true]; simpa [nice] using n1
      · rw [e3, ← e1]; simp only [List.map_cons, List.map_nil, sd, PyData.depth, PyData.depthAll]; omega
      · rw [e3, ← e1]; simp only [List.map_cons, List.map_nil, sd, wt, wtAll, n2]; omega
    | p =>
      have e1 : (Tr.nd .p l r).pl = .tuple [.str "sum", .tuple ((l.te ++ r.te).map sd)] := rfl
      have e2 : (Tr.nd .p l r).fa = [.tuple [.str "sum", .tuple ((l.te ++ r.te).map sd)]] := rfl
      have e3 : (Tr.nd .p l r).te = l.te ++ r.te := rfl
      have a1 : nice (Tr.nd .p l r).pl = true := by rw [e1]; simp only [nice, niceAll, List.map_append, niceAll_app, lt1, rt1, Bool.and_true]; simpa [nice] using k2
      have a2 : (Tr.nd .p l r).pl.depth ≤ 3 * m + 3 := by rw [e1]; simp only [PyData.depth, PyData.depthAll, List.map_append, depthAll_app]; omega
      have a3 : wt (Tr.nd .p l r).pl + 1936 ≤ 3000 * (l.n + r.n) := by rw [e1]; simp only [wt, wtAll, List.map_append, wtAll_app, k4]; omega
      refine ⟨a1, by omega, by omega, ?_, ?_, ?_, ?_, ?_, ?_⟩
      · rw [e2, ← e1]; simp only [niceAll, a1, Bool.and_true]
      · rw [e2, ← e1]; simp only [PyData.depthAll]; omega
      · rw [e2, ← e1]; simp only [wtAll]; omega
      · rw [e3, List.map_append, niceAll_app, lt1, rt1]; rfl
      · rw [e3, List.map_append, depthAll_app]; omega
      · rw [e3, List.map_append, wtAll_app]; omega
    | m =>
      obtain ⟨g1, g2, g3⟩ := flp_all r.te
      have e1 : (Tr.nd .m l r).pl = .tuple [.str "sum", .tuple ((l.te ++ r.te.map flp).map sd)] := rfl
      have e2 : (Tr.nd .m l r).fa = [.tuple [.str "sum", .tuple ((l.te ++ r.te.map flp).map sd)]] := rfl
      have e3 : (Tr.nd .m l r).te = l.te ++ r.te.map flp := rfl
      have a1 : nice (Tr.nd .m l r).pl = true := by rw [e1]; simp only [nice, niceAll, List.map_append, niceAll_app, g2, lt1, rt1, Bool.and_true]; simpa [nice] using k2
      have a2 : (Tr.nd .m l r).pl.depth ≤ 3 * m + 3 := by rw [e1]; simp only [PyData.depth, PyData.depthAll, List.map_append, depthAll_app, g3]; omega
      have a3 : wt (Tr.nd .m l r).pl + 1936 ≤ 3000 * (l.n + r.n) := by rw [e1]; simp only [wt, wtAll, List.map_append, wtAll_app, k4, g1]; omega
      refine ⟨a1, by omega, by omega, ?_, ?_, ?_, ?_, ?_, ?_⟩
      · rw [e2, ← e1]; simp only [niceAll, a1, Bool.and_true]
      · rw [e2, ← e1]; simp only [PyData.depthAll]; omega
      · rw [e2, ← e1]; simp only [wtAll]; omega
      · rw [e3, List.map_append, niceAll_app, g2, lt1, rt1]; rfl
      · rw [e3, List.map_append, depthAll_app, g3]; omega
      · rw [e3, List.map_append, wtAll_app, g1]; omega
theorem Wy.fineP {B : Nat} {t : Tr} (h : Wy B t) : Fine t.pl := by
  obtain ⟨a, b, c, _⟩ := bo (by have := h.b; omega) h.ok
  have := h.h
  have := h.n
  exact ⟨a, by omega, by omega⟩
end K
/-! LZ: plain forms told. -/
namespace K
open PySem Z
theorem fmN {α β : Type} (xs : List α) : ([] : List β) ++ xs.filterMap (fun _ => none) = [] := by
  induction xs with
  | nil => rfl
  | cons x r ih => simpa using ih
open Classical in
theorem compL_pu {src : Src} {step : U → Store → Res (Option U)} {st : Store} (o : PyData → Option PyData) (hk : src.Keep st) : ∀ (xs acc : List PyData), acc.length + xs.length < 10000 → (∀ x ∈ xs, step (.d x) st = .ok ((o x).map U.d) st) →
    compL src step (ofD xs) (ofD acc) st = .ok (ofD (acc ++ xs.filterMap o)) st
  | [], acc, hl, h => by
    have e : compL src step (ofD []) (ofD acc) st = if src.Keep st then .ok (ofD acc) st else .bad := by
      show compL src step [] (ofD acc) st = _
      unfold compL; rfl
    rw [e, if_pos hk]
    simp
  | x :: r, acc, hl, h => by
    have hz : (ofD acc).length < sizeLine := by
      have : (ofD acc).length = acc.length := by simp [ofD]
      rw [this, show sizeLine = 16777216 from rfl]; omega
    have e : compL src step (ofD (x :: r)) (ofD acc) st = if src.Keep st ∧ (ofD acc).length < sizeLine then (step (.d x) st).nox.bind fun o st1 => compL src step (ofD r) (ofD acc ++ o.toList) st1 else .bad := by
      show compL src step (.d x :: ofD r) (ofD acc) st = _
      conv => lhs; unfold compL
    rw [e, if_pos ⟨hk, hz⟩, h x (by simp)]
    have e2 : ofD acc ++ ((o x).map U.d).toList = ofD (acc ++ (o x).toList) := by cases o x <;> simp [ofD]
    have ol : (o x).toList.length ≤ 1 := by cases o x <;> simp
    have ih := compL_pu o hk r (acc ++ (o x).toList) (by simp only [List.length_append, List.length_cons] at hl ⊢; omega) fun y hy => h y (by simp [hy])
    simp only [Res.nox_ok, Res.bind_ok, e2, ih]
    cases hx : o x <;> simp [List.filterMap_cons, hx]
def otherD : PyData := .dict [(.str "+", .str "-"), (.str "-", .str "+")]
theorem kg (b : Bool) : kgetU (some otherD) (.d (.str (sgS b))) = some (.str (sgS !b)) := by
  have e0 : kgetU (some otherD) (.d (.str (sgS b))) = lookS [(.str "+", .str "-"), (.str "-", .str "+")] (sgS b) := rfl
  rw [e0]
  cases b
  · have e1 : (("+" : Str) == sgS false) = false := by decide +kernel
    have e2 : (("-" : Str) == sgS false) = true := by decide +kernel
    simp only [lookS, List.find?, e1, e2]
    rfl
  · have e1 : (("+" : Str) == sgS true) = true := by decide +kernel
    simp only [lookS, List.find?, e1]
    rfl
section
variable {T : Nat → Option Fn} {con : Nat → Option PyData} {fuel : Nat}
structure HF (T : Nat → Option Fn) (con : Nat → Option PyData) : Prop extends HY T con where
  ter : T 57 = some F_terms_of
  fac : T 55 = some F_factors_of
  pla : T 56 = some F_plain
  frm : T 58 = some F_form_of
  c2 : con 2 = some otherD
theorem flip_cp {M : Mach} (hc : M.con 2 = some otherD) {b0 : Nat} (ts : List (Bool × PyData)) (hl : ts.length ≤ 100) (t0 t2 t3 : Option U) (st : Store) :
    (mn M b0 (.cp false [2, 3] b_terms_of_c1 (.t [.v 2, .v 3]) (.val (.var 1)) .nil)).val [t0, some (.d (.list (ts.map sd))), t2, t3] st = .ok (.d (.list ((ts.map flp).map sd))) st := by
  rw [v_cp]
  have it : mi M b0 (.val (.var 1)) [t0, some (.d (.list (ts.map sd))), t2, t3] st = .ok ⟨[], ofD (ts.map sd)⟩ st := by simp [srcVal, srcLst]
  have c := compL_pu (src := ⟨[], ofD (ts.map sd)⟩) (st := st) (step := fun u st2 => Res.opt (setT (.t [.v 2, .v 3]) u (wipeV [t0, some (.d (.list (ts.map sd))), t2, t3] [2, 3])) fun τ1 => (evA (mns M b0 .nil) τ1 st2).bind fun b st3 =>
    if b then ((mn M b0 b_terms_of_c1).val τ1 st3).bind fun x st4 => .ok (some x) st4 else .ok none st3) (fun x => match x with
      | .tuple [.str s, f] => some (.tuple [.str (if s == "+" then "-" else "+"), f])
      | _ => none) keep_nil (ts.map sd) [] (by simp; omega) (fun x hx => by
      obtain ⟨⟨b, f⟩, _, rfl⟩ := List.mem_map.mp hx
      have k := kg b
      rw [← hc] at k
      have e : (if sgS b == "+" then ("-" : Str) else "+") = sgS !b := by cases b <;> decide +kernel
      simp only [sd, setT_pair, Res.opt_some, mns_nil, evA_nil, Res.bind_ok, if_true, e]
      simp [b_terms_of_c1, k, tupOf_eq])
  simp only [compU, it, Res.bind_ok]
  simp only [ofD_nil] at c
  rw [c]
  have fm : [] ++ (ts.map sd).filterMap (fun x => match x with
      | .tuple [.str s, f] => some (.tuple [.str (if s == "+" then "-" else "+"), f])
      | _ => none) = (ts.map flp).map sd := by
    clear c it hl
    induction ts with
    | nil => rfl
    | cons p r ih =>
      obtain ⟨b, f⟩ := p
      have e : (if sgS b == "+" then ("-" : Str) else "+") = sgS !b := by cases b <;> decide +kernel
      simp only [List.nil_append] at ih ⊢
      simp only [List.map_cons, sd, List.filterMap_cons, e]
      rw [show (r.map sd).filterMap _ = (r.map flp).map sd from ih]
      rfl
  rw [fm]
  exact fin_trees (by simp; omega)
theorem tup_list {st : Store} {xs : List PyData} (h : xs.length ≤ 1000) : prim .tuple st [.d (.list xs)] = some (.u (.d (.tuple xs))) := by
  have e : tupOf (ofD xs) = some (.d (.tuple xs)) := by
    rw [tupOf_eq, if_pos (by simp [ofD]; omega), trees_ofD]; rfl
  show tupleP st (.d (.list xs)) = _
  simp only [tupleP, lstOf, Option.bind_some, e]
  rfl
theorem g_forms (h : HF T con) {B : Nat} : ∀ {t : Tr}, Wy B t → ∀ (N : Nat) (st : Store), 4 * t.h + 5 ≤ N →
    run T con fuel N 57 [.d t.d] st = .ok (.d (.list (t.te.map sd))) st ∧ run T con fuel N 55 [.d t.d] st = .ok (.d (.list t.fa)) st ∧ run T con fuel N 56 [.d t.d] st = .ok (.d t.pl) st := by
  intro t
  induction t with
  | lf a =>
    intro ht N st hN
    have pl : ∀ N, 2 ≤ N → run T con fuel N 56 [.d (Tr.lf a).d] st = .ok (.d (Tr.lf a).pl) st := fun N hN => by
      obtain ⟨M, rfl, hM⟩ := suc (N := N) (m := 1) (by omega)
      rw [run_at h.pla rfl]
      have e := g_whole (fuel := fuel) h.toHC hM (Tr.lf a).d st
      simp [F_plain, b_plain, e]
      rfl
    obtain ⟨M, rfl, hM⟩ := suc (N := N) (m := 4) (by omega)
    have e := g_whole (fuel := fuel) h.toHC (N := M) (by omega) (Tr.lf a).d st
    have p := pl M (by omega)
    refine ⟨?_, ?_, pl _ (by omega)⟩
    · rw [run_at h.ter rfl]
      simp [F_terms_of, b_terms_of, e, p, tupOf_eq]
      rfl
    · rw [run_at h.fac rfl]
      simp [F_factors_of, b_factors_of, e, p]
      rfl
  | nd s l r ihl ihr =>
    intro ht N st hN
    have q1 := Tr.h_l s l r
    have q2 := Tr.h_r s l r
    have ll := fa_len l
    have lr := fa_len r
    have tl := te_len l
    have tr := te_len r
    have hn := ht.n
    simp only [Tr.n] at hn
    have whole := fun (M : Nat) (hM : 1 ≤ M) => g_whole (fuel := fuel) h.toHC hM (Tr.nd s l r).d st
    cases s with
    | t =>
      have fa : ∀ N, 4 * (Tr.nd .t l r).h + 3 ≤ N → run T con fuel N 55 [.d (Tr.nd .t l r).d] st = .ok (.d (.list (Tr.nd .t l r).fa)) st := fun N hN => by
        obtain ⟨M, rfl, hM⟩ := suc (N := N) (m := 4 * (Tr.nd .t l r).h + 2) (by omega)
        rw [run_at h.fac rfl]
        have e := whole M (by omega)
        have e1 := (ihl ht.l M st (by omega)).2.1
        have e2 := (ihr ht.r M st (by omega)).2.1
        have z : l.fa.length + r.fa.length ≤ 16777216 := by omega
        have f := fin_trees (st := st) (xs := l.fa ++ r.fa) (by simp; omega)
        rw [← ofD_app] at f
        simp [F_factors_of, b_factors_of, e, item_s0, item_s1, item_s2, e1, e2, z, f]
        rfl
      have pl : ∀ N, 4 * (Tr.nd .t l r).h + 4 ≤ N → run T con fuel N 56 [.d (Tr.nd .t l r).d] st = .ok (.d (Tr.nd .t l r).pl) st := fun N hN => by
        obtain ⟨M, rfl, hM⟩ := suc (N := N) (m := 4 * (Tr.nd .t l r).h + 3) (by omega)
        rw [run_at h.pla rfl]
        have e := whole M (by omega)
        have e1 := fa M (by omega)
        have tu := tup_list (st := st) (xs := (Tr.nd .t l r).fa) (by have := fa_len (.nd .t l r); simp only [Tr.n] at this; omega)
        simp [F_plain, b_plain, e, item_s0, e1, tu, tupOf_eq]
        rfl
      refine ⟨?_, fa N (by omega), pl N (by omega)⟩
      obtain ⟨M, rfl, hM⟩ := suc (N := N) (m := 4 * (Tr.nd .t l r).h + 4) (by omega)
      rw [run_at h.ter rfl]
      have e := whole M (by omega)
      have e1 := pl M (by omega)
      simp [F_terms_of, b_terms_of, e, item_s0, e1, tupOf_eq]
      rfl
    | p =>
      have te : ∀ N, 4 * (Tr.nd .p l r).h + 3 ≤ N → run T con fuel N 57 [.d (Tr.nd .p l r).d] st = .ok (.d (.list ((Tr.nd .p l r).te.map sd))) st := fun N hN => by
        obtain ⟨M, rfl, hM⟩ := suc (N := N) (m := 4 * (Tr.nd .p l r).h + 2) (by omega)
        rw [run_at h.ter rfl]
        have e := whole M (by omega)
        have e1 := (ihl ht.l M st (by omega)).1
        have e2 := (ihr ht.r M st (by omega)).1
        have z : l.te.length + r.te.length ≤ 16777216 := by omega
        have f := fin_trees (st := st) (xs := l.te.map sd ++ r.te.map sd) (by simp; omega)
        rw [← ofD_app] at f
        simp [F_terms_of, b_terms_of, e, item_s0, item_s1, item_s2, e1, e2, z, f]
        show l.te.map sd ++ r.te.map sd = (l.te ++ r.te).map sd
        rw [List.map_append]
      have pl : ∀ N, 4 * (Tr.nd .p l r).h + 4 ≤ N → run T con fuel N 56 [.d (Tr.nd .p l r).d] st = .ok (.d (Tr.nd .p l r).pl) st := fun N hN => by
        obtain ⟨M, rfl, hM⟩ := suc (N := N) (m := 4 * (Tr.nd .p l r).h + 3) (by omega)
        rw [run_at h.pla rfl]
        have e := whole M (by omega)
        have e1 := te M (by omega)
        have tu := tup_list (st := st) (xs := (Tr.nd .p l r).te.map sd) (by have := te_len (.nd .p l r); simp only [Tr.n] at this; rw [List.length_map]; omega)
        simp [F_plain, b_plain, e, item_s0, e1, tu, tupOf_eq]
        rfl
      refine ⟨te N (by omega), ?_, pl N (by omega)⟩
      obtain ⟨M, rfl, hM⟩ := suc (N := N) (m := 4 * (Tr.nd .p l r).h + 4) (by omega)
      rw [run_at h.fac rfl]
      have e := whole M (by omega)
      have e1 := pl M (by omega)
      simp [F_factors_of, b_factors_of, e, item_s0, e1, tupOf_eq]
      rfl
    | m =>
      have te : ∀ N, 4 * (Tr.nd .m l r).h + 3 ≤ N → run T con fuel N 57 [.d (Tr.nd .m l r).d] st = .ok (.d (.list ((Tr.nd .m l r).te.map sd))) st := fun N hN => by
        obtain ⟨M, rfl, hM⟩ := suc (N := N) (m := 4 * (Tr.nd .m l r).h + 2) (by omega)
        rw [run_at h.ter rfl]
        have e := whole M (by omega)
        have e1 := (ihl ht.l M st (by omega)).1
        have e2 := (ihr ht.r M st (by omega)).1
        have z : l.te.length + r.te.length ≤ 16777216 := by omega
        have f := fin_trees (st := st) (xs := l.te.map sd ++ (r.te.map flp).map sd) (by simp; omega)
        rw [← ofD_app] at f
        have fc := flip_cp (M := ⟨con, run T con fuel M, fuel⟩) h.c2 (b0 := st.length) r.te (by omega) (some (.d (Tr.nd .m l r).d)) none none st
        have bl := bin_add_ll st (l.te.map sd) ((r.te.map flp).map sd)
        rw [if_pos (by simp; omega)] at bl
        simp [-v_cp, -List.map_map, F_terms_of, b_terms_of, e, item_s0, item_s1, item_s2, e1, e2, fc, bl, f]
        show l.te.map sd ++ (r.te.map flp).map sd = (l.te ++ r.te.map flp).map sd
        rw [List.map_append]
      have pl : ∀ N, 4 * (Tr.nd .m l r).h + 4 ≤ N → run T con fuel N 56 [.d (Tr.nd .m l r).d] st = .ok (.d (Tr.nd .m l r).pl) st := fun N hN => by
        obtain ⟨M, rfl, hM⟩ := suc (N := N) (m := 4 * (Tr.nd .m l r).h + 3) (by omega)
        rw [run_at h.pla rfl]
        have e := whole M (by omega)
        have e1 := te M (by omega)
        have tu := tup_list (st := st) (xs := (Tr.nd .m l r).te.map sd) (by have := te_len (.nd .m l r); simp only [Tr.n] at this; rw [List.length_map]; omega)
        simp [F_plain, b_plain, e, item_s0, e1, tu, tupOf_eq]
        rfl
      refine ⟨te N (by omega), ?_, pl N (by omega)⟩
      obtain ⟨M, rfl, hM⟩ := suc (N := N) (m := 4 * (Tr.nd .m l r).h + 4) (by omega)
      rw [run_at h.fac rfl]
      have e := whole M (by omega)
      have e1 := pl M (by omega)
      simp [F_factors_of, b_factors_of, e, item_s0, e1, tupOf_eq]
      rfl
theorem g_form_of (h : HF T con) {B N : Nat} {t : Tr} (ht : Wy B t) (hN : 80 ≤ N) (st : Store) : run T con fuel N 58 [.d t.d] st = .ok (.d t.pl) st := by
  obtain ⟨M, rfl, hM⟩ := suc (m := 79) hN
  rw [run_at h.frm rfl]
  have e1 := g_need (fuel := fuel) h.toHY ht (N := M) (by omega) st
  have e2 := (g_forms (fuel := fuel) h ht M st (by have := ht.h; omega)).2.2
  simp [F_form_of, b_form_of, e1, e2]
end
end K
/-! LV: plain forms are alike where their texts are. -/
namespace K
open PySem Z
mutual
def isPl : PyData → Bool
  | .int _ => true
  | .str s => decide (s = "+" ∨ s = "-" ∨ s = "sum" ∨ s = "times")
  | .tuple xs => isPlAll xs
  | _ => false
def isPlAll : List PyData → Bool
  | [] => true
  | x :: r => isPl x && isPlAll r
end
def CH (x : PyData) : List Nat := x.shown.cps.toList
def GG : List PyData → List Nat
  | [] => [41]
  | x :: r => 44 :: 32 :: (CH x ++ GG r)
def TE : List PyData → List Nat
  | [] => [44, 41]
  | x :: r => GG (x :: r)
def TT : List PyData → List Nat
  | [] => [41]
  | x :: r => CH x ++ TE r
def stop : List Nat → Prop
  | [] => True
  | c :: _ => c = 44 ∨ c = 41
theorem cps_app (a b : Str) : (a ++ b).cps.toList = a.cps.toList ++ b.cps.toList := by
  show (a.cps ++ b.cps).toList = _
  simp
theorem join_gg : ∀ (r : List PyData) (x : PyData), ((", " : Str).join (PyData.shownAll (x :: r))).cps.toList ++ [41] = CH x ++ GG r
  | [], x => rfl
  | y :: r, x => by
    have ih := join_gg r y
    have e : (", " : Str).join (PyData.shownAll (x :: y :: r)) = x.shown ++ ", " ++ (", " : Str).join (PyData.shownAll (y :: r)) := by
      show (", " : Str).join (x.shown :: PyData.shownAll (y :: r)) = _
      rw [Str.join.eq_3]
      intro h; cases h
    have e2 : (", " : Str).cps.toList = [44, 32] := by decide +kernel
    rw [e, cps_app, cps_app, List.append_assoc, ih, e2]
    simp [CH, GG]
theorem ch_tup (xs : List PyData) : CH (.tuple xs) = 40 :: TT xs := by
  have e1 : ("(" : Str).cps.toList = [40] := by decide +kernel
  cases xs with
  | nil => decide +kernel
  | cons x r =>
    have e : CH (.tuple (x :: r)) = (("(" : Str) ++ (", " : Str).join (PyData.shownAll (x :: r)) ++ Str.ofString (if ((PyData.shownAll (x :: r)).length == 1) = true then ",)" else ")")).cps.toList := rfl
    rw [e, cps_app, cps_app, e1]
    cases r with
    | nil =>
      have e3 : (Str.ofString (if ((PyData.shownAll [x]).length == 1) = true then ",)" else ")")).cps.toList = [44, 41] := by
        show (Str.ofString ",)").cps.toList = _
        decide +kernel
      rw [e3]
      rfl
    | cons y r =>
      have e3 : (Str.ofString (if ((PyData.shownAll (x :: y :: r)).length == 1) = true then ",)" else ")")).cps.toList = [41] := by
        rw [if_neg (by simp [PyData.shownAll])]; decide +kernel
      rw [e3, List.append_assoc, join_gg]
      rfl
theorem free_pre {P : Nat → Prop} : ∀ (a b s s' : List Nat), (∀ c ∈ a, c ≠ 44 ∧ c ≠ 41) → (∀ c ∈ b, c ≠ 44 ∧ c ≠ 41) → stop s → stop s' → a ++ s = b ++ s' → a = b ∧ s = s'
  | [], [], s, s', _, _, _, _, h => ⟨rfl, h⟩
  | [], c :: b, s, s', _, hb, hs, _, h => by
    simp only [List.nil_append, List.cons_append] at h
    subst h
    have := hb c (by simp)
    rcases hs with q | q
    · exact absurd q this.1
    · exact absurd q this.2
  | c :: a, [], s, s', ha, _, _, hs, h => by
    simp only [List.nil_append, List.cons_append] at h
    subst h
    have := ha c (by simp)
    rcases hs with q | q
    · exact absurd q this.1
    · exact absurd q this.2
  | c :: a, d :: b, s, s', ha, hb, hs, hs', h => by
    simp only [List.cons_append, List.cons.injEq] at h
    obtain ⟨h1, h2⟩ := free_pre (P := P) a b s s' (fun x q => ha x (by simp [q])) (fun x q => hb x (by simp [q])) hs hs' h.2
    exact ⟨by rw [h.1, h1], h2⟩
theorem ch_int (i : Int) : CH (.int i) = (toString i).toList.map Char.toNat := PyProof.Rows.signs_ofString _
theorem int_free (i : Int) (k : Nat) (h : k ≠ 45 ∧ (k < 48 ∨ 57 < k)) : k ∉ CH (.int i) := PyProof.Rows.int_text_free' k h i
theorem int_in {i j : Int} (h : CH (.int i) = CH (.int j)) : i = j := by
  rw [ch_int, ch_int] at h
  have h2 := (List.map_inj_right (f := Char.toNat) (fun a b e => Char.toNat_inj.mp e)).mp h
  have h3 : toString i = toString j := String.toList_inj.mp h2
  exact Int.repr_inj.mp h3
theorem int_pre {i j : Int} {s s' : List Nat} (hs : stop s) (hs' : stop s') (h : CH (.int i) ++ s = CH (.int j) ++ s') : i = j ∧ s = s' := by
  have f : ∀ k : Int, ∀ c ∈ CH (.int k), c ≠ 44 ∧ c ≠ 41 := fun k c hc => ⟨fun e => int_free k 44 (by decide) (e ▸ hc), fun e => int_free k 41 (by decide) (e ▸ hc)⟩
  obtain ⟨h1, h2⟩ := free_pre (P := fun _ => True) _ _ s s' (f i) (f j) hs hs' h
  exact ⟨int_in h1, h2⟩
theorem int_not {i : Int} {s t : List Nat} (hs : stop s) {c : Nat} (hc : c ≠ 45 ∧ (c < 48 ∨ 57 < c)) (h4 : c ≠ 44 ∧ c ≠ 41) (h : CH (.int i) ++ s = c :: t) : False := by
  have f := int_free i c hc
  cases e : CH (.int i) with
  | nil =>
    rw [e] at h
    simp only [List.nil_append] at h
    subst h
    rcases hs with q | q
    · exact h4.1 q
    · exact h4.2 q
  | cons a r =>
    rw [e] at h f
    simp only [List.cons_append, List.cons.injEq] at h
    exact f (by rw [h.1]; simp)
theorem c1 : CH (.str "+") = [39, 43, 39] := by decide +kernel
theorem c2 : CH (.str "-") = [39, 45, 39] := by decide +kernel
theorem c3 : CH (.str "sum") = [39, 115, 117, 109, 39] := by decide +kernel
theorem c4 : CH (.str "times") = [39, 116, 105, 109, 101, 115, 39] := by decide +kernel
theorem str_head {z : Str} (h : isPl (.str z) = true) : ∃ r, CH (.str z) = 39 :: r := by
  simp only [isPl, decide_eq_true_eq] at h
  rcases h with rfl | rfl | rfl | rfl
  · exact ⟨_, c1⟩
  · exact ⟨_, c2⟩
  · exact ⟨_, c3⟩
  · exact ⟨_, c4⟩
theorem str_pre {z y : Str} (h : isPl (.str z) = true) (g : isPl (.str y) = true) {s s' : List Nat} (e : CH (.str z) ++ s = CH (.str y) ++ s') : z = y ∧ s = s' := by
  simp only [isPl, decide_eq_true_eq] at h g
  rcases h with rfl | rfl | rfl | rfl <;> rcases g with rfl | rfl | rfl | rfl <;> simp [c1, c2, c3, c4] at e <;> exact ⟨rfl, e⟩
theorem stop_gg (r : List PyData) (s : List Nat) : stop (GG r ++ s) := by
  cases r with
  | nil => exact .inr rfl
  | cons => exact .inl rfl
theorem stop_te (r : List PyData) (s : List Nat) : stop (TE r ++ s) := by
  cases r with
  | nil => exact .inl rfl
  | cons => exact .inl rfl
mutual
theorem ch_pre : ∀ (x y : PyData), isPl x = true → isPl y = true → ∀ (s s' : List Nat), stop s → stop s' → CH x ++ s = CH y ++ s' → x = y ∧ s = s'
  | .int i, .int j, _, _, s, s', hs, hs', h => by
    obtain ⟨rfl, e⟩ := int_pre hs hs' h
    exact ⟨rfl, e⟩
  | .int i, .str z, _, g, s, s', hs, hs', h => by
    obtain ⟨r, e⟩ := str_head g
    rw [e] at h
    exact (int_not hs (by decide) (by decide) h).elim
  | .int i, .tuple ys, _, g, s, s', hs, hs', h => by
    rw [ch_tup] at h
    exact (int_not hs (by decide) (by decide) h).elim
  | .str z, .int j, g, _, s, s', hs, hs', h => by
    obtain ⟨r, e⟩ := str_head g
    rw [e] at h
    exact (int_not hs' (by decide) (by decide) h.symm).elim
  | .str z, .str y, hz, hy, s, s', hs, hs', h => by
    obtain ⟨rfl, e⟩ := str_pre hz hy h
    exact ⟨rfl, e⟩
  | .str z, .tuple ys, g, _, s, s', hs, hs', h => by
    obtain ⟨r, e⟩ := str_head g
    rw [e, ch_tup] at h
    simp at h
  | .tuple xs, .int j, _, _, s, s', hs, hs', h => by
    rw [ch_tup] at h
    exact (int_not hs' (by decide) (by decide) h.symm).elim
  | .tuple xs, .str z, _, g, s, s', hs, hs', h => by
    obtain ⟨r, e⟩ := str_head g
    rw [e, ch_tup] at h
    simp at h
  | .tuple xs, .tuple ys, hx, hy, s, s', hs, hs', h => by
    rw [ch_tup, ch_tup] at h
    simp only [List.cons_append, List.cons.injEq, true_and] at h
    obtain ⟨rfl, e⟩ := tt_pre xs ys (by simpa [isPl] using hx) (by simpa [isPl] using hy) s s' hs hs' h
    exact ⟨rfl, e⟩
  | .none, _, h, _, _, _, _, _, _ => by simp [isPl] at h
  | .bool _, _, h, _, _, _, _, _, _ => by simp [isPl] at h
  | .list _, _, h, _, _, _, _, _, _ => by simp [isPl] at h
  | .dict _, _, h, _, _, _, _, _, _ => by simp [isPl] at h
  | .int _, .none, _, h, _, _, _, _, _ => by simp [isPl] at h
  | .int _, .bool _, _, h, _, _, _, _, _ => by simp [isPl] at h
  | .int _, .list _, _, h, _, _, _, _, _ => by simp [isPl] at h
  | .int _, .dict _, _, h, _, _, _, _, _ => by simp [isPl] at h
  | .str _, .none, _, h, _, _, _, _, _ => by simp [isPl] at h
  | .str _, .bool _, _, h, _, _, _, _, _ => by simp [isPl] at h
  | .str _, .list _, _, h, _, _, _, _, _ => by simp [isPl] at h
  | .str _, .dict _, _, h, _, _, _, _, _ => by simp [isPl] at h
  | .tuple _, .none, _, h, _, _, _, _, _ => by simp [isPl] at h
  | .tuple _, .bool _, _, h, _, _, _, _, _ => by simp [isPl] at h
  | .tuple _, .list _, _, h, _, _, _, _, _ => by simp [isPl] at h
  | .tuple _, .dict _, _, h, _, _, _, _, _ => by simp [isPl] at h
theorem tt_pre : ∀ (xs ys : List PyData), isPlAll xs = true → isPlAll ys = true → ∀ (s s' : List Nat), stop s → stop s' → TT xs ++ s = TT ys ++ s' → xs = ys ∧ s = s'
  | [], [], _, _, s, s', _, _, h => by simpa [TT] using h
  | [], y :: r, _, hy, s, s', _, _, h => by
    simp only [isPlAll, Bool.and_eq_true] at hy
    exfalso
    cases y with
    | int i => exact (by
        have h2 : CH (.int i) ++ (TE r ++ s') = 41 :: s := by simpa [TT] using h.symm
        have f := int_free i 41 (by decide)
        cases e : CH (.int i) with
        | nil =>
          rw [e] at h2
          cases r with
          | nil => simp [TE] at h2
          | cons => simp [TE, GG] at h2
        | cons a r2 =>
          rw [e] at h2 f
          simp only [List.cons_append, List.cons.injEq] at h2
          exact f (by rw [h2.1]; simp))
    | str z => obtain ⟨q, e⟩ := str_head hy.1; simp [TT, e] at h
    | tuple zs => simp [TT, ch_tup] at h
    | none => simp [isPl] at hy
    | bool => simp [isPl] at hy
    | list => simp [isPl] at hy
    | dict => simp [isPl] at hy
  | x :: r, [], hx, _, s, s', _, _, h => by
    simp only [isPlAll, Bool.and_eq_true] at hx
    exfalso
    cases x with
    | int i => exact (by
        have h2 : CH (.int i) ++ (TE r ++ s) = 41 :: s' := by simpa [TT] using h
        have f := int_free i 41 (by decide)
        cases e : CH (.int i) with
        | nil =>
          rw [e] at h2
          cases r with
          | nil => simp [TE] at h2
          | cons => simp [TE, GG] at h2
        | cons a r2 =>
          rw [e] at h2 f
          simp only [List.cons_append, List.cons.injEq] at h2
          exact f (by rw [h2.1]; simp))
    | str z => obtain ⟨q, e⟩ := str_head hx.1; simp [TT, e] at h
    | tuple zs => simp [TT, ch_tup] at h
    | none => simp [isPl] at hx
    | bool => simp [isPl] at hx
    | list => simp [isPl] at hx
    | dict => simp [isPl] at hx
  | x :: r, y :: q, hx, hy, s, s', hs, hs', h => by
    simp only [isPlAll, Bool.and_eq_true] at hx hy
    simp only [TT, List.append_assoc] at h
    obtain ⟨rfl, h2⟩ := ch_pre x y hx.1 hy.1 _ _ (stop_te r s) (stop_te q s') h
    cases r with
    | nil =>
      cases q with
      | nil => simp [TE] at h2; exact ⟨rfl, h2⟩
      | cons => simp [TE, GG] at h2
    | cons a r =>
      cases q with
      | nil => simp [TE, GG] at h2
      | cons b q =>
        obtain ⟨h3, h4⟩ := gg_pre (a :: r) (b :: q) hx.2 hy.2 s s' hs hs' h2
        exact ⟨by rw [h3], h4⟩
theorem gg_pre : ∀ (xs ys : List PyData), isPlAll xs = true → isPlAll ys = true → ∀ (s s' : List Nat), stop s → stop s' → GG xs ++ s = GG ys ++ s' → xs = ys ∧ s = s'
  | [], [], _, _, s, s', _, _, h => by simpa [GG] using h
  | [], y :: r, _, hy, s, s', _, _, h => by simp [GG] at h
  | x :: r, [], hx, _, s, s', _, _, h => by simp [GG] at h
  | x :: r, y :: q, hx, hy, s, s', hs, hs', h => by
    simp only [isPlAll, Bool.and_eq_true] at hx hy
    simp only [GG, List.append_assoc, List.cons_append, List.cons.injEq, true_and] at h
    obtain ⟨rfl, h2⟩ := ch_pre x y hx.1 hy.1 _ _ (stop_gg r s) (stop_gg q s') h
    obtain ⟨h3, h4⟩ := gg_pre r q hx.2 hy.2 s s' hs hs' h2
    exact ⟨by rw [h3], h4⟩
end
theorem shown_inj {x y : PyData} (hx : isPl x = true) (hy : isPl y = true) (h : x.shown = y.shown) : x = y :=
  (ch_pre x y hx hy [] [] trivial trivial (by rw [List.append_nil, List.append_nil]; show x.shown.cps.toList = _; rw [h]; rfl)).1
mutual
theorem pl_eqv : ∀ (x y : PyData), isPl x = true → isPl y = true → (PyData.eqv x y = true ↔ x = y)
  | .int i, .int j, _, _ => by simp [PyData.eqv]
  | .str i, .str j, _, _ => by simp [PyData.eqv]
  | .tuple xs, .tuple ys, hx, hy => by
    have h := pl_eqvAll xs ys (by simpa [isPl] using hx) (by simpa [isPl] using hy)
    simpa [PyData.eqv] using h
  | .int i, .str z, _, _ => by simp [PyData.eqv]
  | .int i, .tuple z, _, _ => by simp [PyData.eqv]
  | .str i, .int z, _, _ => by simp [PyData.eqv]
  | .str i, .tuple z, _, _ => by simp [PyData.eqv]
  | .tuple i, .int z, _, _ => by simp [PyData.eqv]
  | .tuple i, .str z, _, _ => by simp [PyData.eqv]
  | .none, _, h, _ => by simp [isPl] at h
  | .bool _, _, h, _ => by simp [isPl] at h
  | .list _, _, h, _ => by simp [isPl] at h
  | .dict _, _, h, _ => by simp [isPl] at h
  | .int _, .none, _, h => by simp [isPl] at h
  | .int _, .bool _, _, h => by simp [isPl] at h
  | .int _, .list _, _, h => by simp [isPl] at h
  | .int _, .dict _, _, h => by simp [isPl] at h
  | .str _, .none, _, h => by simp [isPl] at h
  | .str _, .bool _, _, h => by simp [isPl] at h
  | .str _, .list _, _, h => by simp [isPl] at h
  | .str _, .dict _, _, h => by simp [isPl] at h
  | .tuple _, .none, _, h => by simp [isPl] at h
  | .tuple _, .bool _, _, h => by simp [isPl] at h
  | .tuple _, .list _, _, h => by simp [isPl] at h
  | .tuple _, .dict _, _, h => by simp [isPl] at h
theorem pl_eqvAll : ∀ (xs ys : List PyData), isPlAll xs = true → isPlAll ys = true → (PyData.eqvAll xs ys = true ↔ xs = ys)
  | [], [], _, _ => by simp [PyData.eqvAll]
  | [], y :: r, _, _ => by simp [PyData.eqvAll]
  | x :: r, [], _, _ => by simp [PyData.eqvAll]
  | x :: r, y :: q, hx, hy => by
    simp only [isPlAll, Bool.and_eq_true] at hx hy
    have h1 := pl_eqv x y hx.1 hy.1
    have h2 := pl_eqvAll r q hx.2 hy.2
    simp [PyData.eqvAll, h1, h2]
end
theorem eqv_shown {x y : PyData} (hx : isPl x = true) (hy : isPl y = true) : PyData.eqv x y = (x.shown == y.shown) := by
  rw [Bool.eq_iff_iff, pl_eqv x y hx hy, beq_iff_eq]
  exact ⟨fun h => by rw [h], shown_inj hx hy⟩
mutual
theorem pl_lay : ∀ x : PyData, isPl x = true → x.canLay0 = true
  | .int _, _ => rfl
  | .str z, h => by
    simp only [isPl, decide_eq_true_eq] at h
    rcases h with rfl | rfl | rfl | rfl <;> decide +kernel
  | .tuple xs, h => by
    have := pl_layAll xs (by simpa [isPl] using h)
    simpa [PyData.canLay0] using this
  | .none, h => by simp [isPl] at h
  | .bool _, h => by simp [isPl] at h
  | .list _, h => by simp [isPl] at h
  | .dict _, h => by simp [isPl] at h
theorem pl_layAll : ∀ xs : List PyData, isPlAll xs = true → PyData.canLayAll0 xs = true
  | [], _ => rfl
  | x :: r, h => by
    simp only [isPlAll, Bool.and_eq_true] at h
    simp [PyData.canLayAll0, pl_lay x h.1, pl_layAll r h.2]
end
theorem isPlAll_app : ∀ xs ys : List PyData, isPlAll (xs ++ ys) = (isPlAll xs && isPlAll ys)
  | [], ys => by simp [isPlAll]
  | x :: r, ys => by simp only [List.cons_append, isPlAll, isPlAll_app r ys, Bool.and_assoc]
theorem isPl_sgS (b : Bool) : isPl (.str (sgS b)) = true := by cases b <;> decide +kernel
theorem isPl_sd (p : Bool × PyData) : isPl (sd p) = isPl p.2 := by
  have e : isPl (sd p) = isPlAll [.str (sgS p.1), p.2] := by simp only [sd, isPl]
  rw [e]
  simp only [isPlAll, isPl_sgS, Bool.true_and, Bool.and_true]
theorem isPl_flp : ∀ ts : List (Bool × PyData), isPlAll ((ts.map flp).map sd) = isPlAll (ts.map sd)
  | [] => rfl
  | p :: r => by
    have := isPl_flp r
    simp only [List.map_cons, isPlAll, this, isPl_sd, flp]
theorem pl_info : ∀ t : Tr, isPl t.pl = true ∧ isPlAll t.fa = true ∧ isPlAll (t.te.map sd) = true
  | .lf a => ⟨rfl, rfl, by
    show isPlAll [sd (true, .int a)] = true
    simp only [isPlAll, isPl_sd, Bool.and_true]; rfl⟩
  | .nd s l r => by
    obtain ⟨l1, l2, l3⟩ := pl_info l
    obtain ⟨r1, r2, r3⟩ := pl_info r
    have k1 : isPl (.str "times") = true := by decide +kernel
    have k2 : isPl (.str "sum") = true := by decide +kernel
    have tu : ∀ (z : Str) (xs : List PyData), isPl (.str z) = true → isPlAll xs = true → isPl (.tuple [.str z, .tuple xs]) = true := fun z xs h g => by
      have e : isPl (.tuple [.str z, .tuple xs]) = isPlAll [.str z, .tuple xs] := by simp only [isPl]
      have e2 : isPl (.tuple xs) = isPlAll xs := by simp only [isPl]
      rw [e]
      simp only [isPlAll, h, e2, g, Bool.and_self]
    cases s with
    | t =>
      have a : isPlAll (l.fa ++ r.fa) = true := by rw [isPlAll_app, l2, r2]; rfl
      have p : isPl (Tr.nd .t l r).pl = true := tu _ _ k1 a
      exact ⟨p, a, by
        show isPlAll [sd (true, (Tr.nd .t l r).pl)] = true
        simp only [isPlAll, isPl_sd, p, Bool.and_self]⟩
    | p =>
      have a : isPlAll ((l.te ++ r.te).map sd) = true := by rw [List.map_append, isPlAll_app, l3, r3]; rfl
      have p : isPl (Tr.nd .p l r).pl = true := tu _ _ k2 a
      exact ⟨p, by
        show isPlAll [(Tr.nd .p l r).pl] = true
        simp only [isPlAll, p, Bool.and_self], a⟩
    | m =>
      have a : isPlAll ((l.te ++ r.te.map flp).map sd) = true := by rw [List.map_append, isPlAll_app, l3, isPl_flp, r3]; rfl
      have p : isPl (Tr.nd .m l r).pl = true := tu _ _ k2 a
      exact ⟨p, by
        show isPlAll [(Tr.nd .m l r).pl] = true
        simp only [isPlAll, p, Bool.and_self], a⟩
theorem pl_shaped {B : Nat} {t : Tr} (h : Wy B t) : SeqAt.shaped t.pl = true := by
  have := h.fineP.depth
  show (t.pl.canLay0 && decide (t.pl.depth ≤ 64)) = true
  rw [pl_lay _ (pl_info t).1, decide_eq_true (by omega)]
  rfl
theorem pl_tup (t : Tr) : (∃ a, t.pl = .int a) ∨ ∃ xs, t.pl = .tuple xs := by
  cases t with
  | lf a => exact .inl ⟨a, rfl⟩
  | nd s l r => cases s <;> exact .inr ⟨_, rfl⟩
theorem deq_pl {B C : Nat} {t u : Tr} (h : Wy B t) (g : Wy C u) : deq t.pl u.pl = some (t.pl.shown == u.pl.shown) := by
  have d1 : diffLen t.pl u.pl = false := by rcases pl_tup t with ⟨a, e⟩ | ⟨xs, e⟩ <;> rw [e] <;> rfl
  have d2 : bothStr t.pl u.pl = false := by rcases pl_tup t with ⟨a, e⟩ | ⟨xs, e⟩ <;> rw [e] <;> rfl
  simp [deq, d1, d2, chk, eqOk, pl_shaped h, pl_shaped g, eqv_shown (pl_info t).1 (pl_info u).1]
end K
/-! LW: twins. -/
namespace K
open PySem Z
/- numbers_in, 40 -/
def b_numbers_in : LSs :=
    (.cons (.ife (.call 0 (.cons (.var 0) .nil)) (.cons (.ret (.lst false (.cons (.var 0) .nil)))
    .nil) .nil)
    (.cons (.ret (.bop .Add false (.call 40 (.cons (.idx (.var 0) (.lit (.int 1))) .nil)) (.call 40 (.cons (.idx (.var 0) (.lit (.int 2))) .nil))))
    .nil))
def F_numbers_in : Fn := ⟨1, 1, b_numbers_in⟩
/- numbers_of, 41 -/
def b_numbers_of : LSs :=
    (.cons (.expr (.call 16 (.cons (.var 0) .nil)))
    (.cons (.ret (.call 40 (.cons (.var 0) .nil)))
    .nil))
def F_numbers_of : Fn := ⟨1, 1, b_numbers_of⟩
/- are_twins, 61 -/
def b_are_twins : LSs :=
    (.cons (.expr (.call 16 (.cons (.var 0) .nil)))
    (.cons (.expr (.call 16 (.cons (.var 1) .nil)))
    (.cons (.ret (.cmp (.call 56 (.cons (.var 0) .nil)) (.cons .Eq (.call 56 (.cons (.var 1) .nil)) .nil)))
    .nil)))
def F_are_twins : Fn := ⟨2, 2, b_are_twins⟩
section
variable {T : Nat → Option Fn} {con : Nat → Option PyData} {fuel : Nat}
theorem g_numbersF (h : HY T con) (h40 : T 40 = some F_numbers_in) {B : Nat} : ∀ {t : Tr} {N : Nat}, Wy B t → t.h + 2 ≤ N → ∀ st, run T con fuel N 40 [.d t.d] st = .ok (.d (.list (t.nums.map .int))) st := by
  intro t
  induction t with
  | lf a =>
    intro N ht hN st
    obtain ⟨M, rfl, hM⟩ := suc (N := N) (m := 1) (by omega)
    rw [run_at h40 rfl]
    have e := g_whole (fuel := fuel) h.toHC (N := M) (by omega) (Tr.lf a).d st
    simp [F_numbers_in, b_numbers_in, e]
    rfl
  | nd s l r ihl ihr =>
    intro N ht hN st
    have q1 := Tr.h_l s l r
    have q2 := Tr.h_r s l r
    obtain ⟨M, rfl, hM⟩ := suc (N := N) (m := (Tr.nd s l r).h + 1) (by omega)
    rw [run_at h40 rfl]
    have e := g_whole (fuel := fuel) h.toHC (N := M) (by omega) (Tr.nd s l r).d st
    have e1 := ihl ht.l (N := M) (by omega) st
    have e2 := ihr ht.r (N := M) (by omega) st
    have hn := ht.n
    simp only [Tr.n] at hn
    have nl := l.nl
    have nr := r.nl
    have z : l.nums.length + r.nums.length ≤ 16777216 := by rw [Tr.nums_len, Tr.nums_len]; omega
    have f := fin_trees (st := st) (xs := l.nums.map PyData.int ++ r.nums.map PyData.int) (by rw [List.length_append, nl, nr]; omega)
    rw [← ofD_app] at f
    simp [F_numbers_in, b_numbers_in, e, item_s1, item_s2, e1, e2, z, f]
    show l.nums.map PyData.int ++ r.nums.map PyData.int = (l.nums ++ r.nums).map PyData.int
    rw [List.map_append]
theorem g_numbers_ofF (h : HY T con) (h40 : T 40 = some F_numbers_in) (h41 : T 41 = some F_numbers_of) {B N : Nat} {t : Tr} (ht : Wy B t) (hN : 80 ≤ N) (st : Store) : run T con fuel N 41 [.d t.d] st = .ok (.d (.list (t.nums.map .int))) st := by
  obtain ⟨M, rfl, hM⟩ := suc (N := N) (m := 79) hN
  rw [run_at h41 rfl]
  have e1 := g_need (fuel := fuel) h ht (N := M) (by omega) st
  have e2 := g_numbersF (fuel := fuel) h h40 ht (N := M) (by have := ht.h; omega) st
  simp [F_numbers_of, b_numbers_of, e1, e2]
theorem g_twins (h : HF T con) (h61 : T 61 = some F_are_twins) {B C N : Nat} {t u : Tr} (ht : Wy B t) (hu : Wy C u) (hN : 80 ≤ N) (st : Store) : run T con fuel N 61 [.d t.d, .d u.d] st = .ok (.d (.bool (t.pl.shown == u.pl.shown))) st := by
  obtain ⟨M, rfl, hM⟩ := suc (N := N) (m := 79) hN
  rw [run_at h61 rfl]
  have e1 := g_need (fuel := fuel) h.toHY ht (N := M) (by omega) st
  have e2 := g_need (fuel := fuel) h.toHY hu (N := M) (by omega) st
  have e3 := (g_forms (fuel := fuel) h ht M st (by have := ht.h; omega)).2.2
  have e4 := (g_forms (fuel := fuel) h hu M st (by have := hu.h; omega)).2.2
  have c : cmpop .Eq st (.d t.pl) (.d u.pl) = some (t.pl.shown == u.pl.shown) := deq_pl ht hu
  simp [F_are_twins, b_are_twins, e1, e2, e3, e4, c]
end
/-! the same in other brackets -/
structure Tw (t u : Tr) : Prop where
  info : info t = info u
  nums : t.nums = u.nums
  worth : t.worth = u.worth
  wth : ∀ (p : Nat) (a : Int), (t.wth p a).worth = (u.wth p a).worth
theorem Tw.refl (t : Tr) : Tw t t := ⟨rfl, rfl, rfl, fun _ _ => rfl⟩
theorem Tw.symm {t u : Tr} (h : Tw t u) : Tw u t := ⟨h.info.symm, h.nums.symm, h.worth.symm, fun p a => (h.wth p a).symm⟩
theorem Tw.trans {t u v : Tr} (h : Tw t u) (g : Tw u v) : Tw t v := ⟨h.info.trans g.info, h.nums.trans g.nums, h.worth.trans g.worth, fun p a => (h.wth p a).trans (g.wth p a)⟩
theorem Tw.n {t u : Tr} (h : Tw t u) : t.n = u.n := by rw [← Tr.nums_len, ← Tr.nums_len, h.nums]
theorem Tw.pl {t u : Tr} (h : Tw t u) : t.pl = u.pl := congrArg Prod.fst h.info
theorem Tr.ok_nums {B : Nat} : ∀ {t : Tr}, t.Ok B → ∀ a ∈ t.nums, a.natAbs < 2 ^ B
  | .lf a, h, b, hb => by
    simp only [Tr.nums, List.mem_singleton] at hb
    rw [hb]; exact h
  | .nd _ l r, h, b, hb => by
    rcases List.mem_append.mp hb with q | q
    · exact ok_nums h.1 b q
    · exact ok_nums h.2 b q
theorem Tw.wy {B : Nat} {t u : Tr} (h : Tw t u) (w : Wy B t) : Wy B u := ⟨Tr.of_nums (by rw [← h.nums]; exact Tr.ok_nums w.ok), by rw [← h.n]; exact w.n, w.b⟩
theorem Tw.l {t u : Tr} (h : Tw t u) (s : Sn) (r : Tr) : Tw (.nd s t r) (.nd s u r) := by
  refine ⟨?_, by simp only [Tr.nums, h.nums], by simp only [Tr.worth, h.worth], fun p a => ?_⟩
  · cases s <;> simp only [K.info, h.info]
  · simp only [Tr.wth, ← h.n]
    split
    · simp only [Tr.worth, h.wth]
    · simp only [Tr.worth, h.worth]
theorem Tw.r {t u : Tr} (h : Tw t u) (s : Sn) (l : Tr) : Tw (.nd s l t) (.nd s l u) := by
  refine ⟨?_, by simp only [Tr.nums, h.nums], by simp only [Tr.worth, h.worth], fun p a => ?_⟩
  · cases s <;> simp only [K.info, h.info]
  · simp only [Tr.wth]
    split
    · simp only [Tr.worth, h.worth]
    · simp only [Tr.worth, h.wth]
def Sn.fl : Sn → Sn
  | .p => .m
  | _ => .p
def inn (s s2 : Sn) : Sn := if s = .m then s2.fl else s2
theorem flflp (p : Bool × PyData) : flp (flp p) = p := by obtain ⟨b, f⟩ := p; cases b <;> rfl
theorem Tw.base (s s2 : Sn) (h : s = .t ↔ s2 = .t) (l a b : Tr) : Tw (.nd s l (.nd s2 a b)) (.nd (inn s s2) (.nd s l a) b) := by
  have ff : flp ∘ flp = id := funext flflp
  refine ⟨?_, by simp only [Tr.nums, List.append_assoc], ?_, fun p x => ?_⟩
  · cases s <;> cases s2 <;> first | (exfalso; revert h; decide) | simp [K.info, inn, Sn.fl, ff, List.append_assoc]
  · cases s <;> cases s2 <;> first | (exfalso; revert h; decide) | (simp [Tr.worth, inn, Sn.fl, Sn.op]; grind)
  · by_cases h1 : p < l.n
    · have h2 : p < l.n + a.n := by omega
      simp only [Tr.wth, Tr.n, h1, h2, if_true]
      cases s <;> cases s2 <;> first | (exfalso; revert h; decide) | (simp [Tr.worth, inn, Sn.fl, Sn.op]; grind)
    · by_cases h2 : p < l.n + a.n
      · have h3 : p - l.n < a.n := by omega
        simp only [Tr.wth, Tr.n, h1, h2, h3, if_true, if_false]
        cases s <;> cases s2 <;> first | (exfalso; revert h; decide) | (simp [Tr.worth, inn, Sn.fl, Sn.op]; grind)
      · have h3 : ¬ p - l.n < a.n := by omega
        simp only [Tr.wth, Tr.n, h1, h2, h3, if_false, Nat.sub_sub]
        cases s <;> cases s2 <;> first | (exfalso; revert h; decide) | (simp [Tr.worth, inn, Sn.fl, Sn.op]; grind)
def turnR (s : Sn) (l : Tr) : Tr → Option Tr
  | .nd s2 a b => if decide (s = .t) = decide (s2 = .t) then some (.nd (inn s s2) (.nd s l a) b) else none
  | .lf _ => none
def turnL (s : Sn) (r : Tr) : Tr → Option Tr
  | .nd s2 a b => if decide (s = .t) = decide (s2 = .t) then some (.nd s2 a (.nd (inn s2 s) b r)) else none
  | .lf _ => none
def turned : Tr → Option Tr
  | .lf _ => none
  | .nd s l r => match turnR s l r with
    | some u => some u
    | none => turnL s r l
theorem turnR_tw {s : Sn} {l r u : Tr} (h : turnR s l r = some u) : Tw (.nd s l r) u := by
  cases r with
  | lf a => cases h
  | nd s2 a b =>
    simp only [turnR] at h
    split at h
    · rename_i e
      cases h
      exact Tw.base s s2 (by simpa using e) l a b
    · cases h
theorem turnL_tw {s : Sn} {l r u : Tr} (h : turnL s r l = some u) : Tw (.nd s l r) u := by
  cases l with
  | lf a => cases h
  | nd s2 a b =>
    simp only [turnL] at h
    split at h
    · rename_i e
      cases h
      have i1 : (s2 = .t ↔ inn s2 s = .t) := by cases s <;> cases s2 <;> first | (exfalso; revert e; decide) | decide
      have i2 : inn s2 (inn s2 s) = s := by cases s <;> cases s2 <;> first | (exfalso; revert e; decide) | decide
      have := Tw.base s2 (inn s2 s) i1 a b r
      rw [i2] at this
      exact this.symm
    · cases h
theorem turned_tw {t u : Tr} (h : turned t = some u) : Tw t u := by
  cases t with
  | lf a => cases h
  | nd s l r =>
    simp only [turned] at h
    split at h
    · rename_i v e
      cases h
      exact turnR_tw e
    · exact turnL_tw h
end K
/-! OC: the parts of a way with their worths. -/
namespace K
open PySem Z
/-- stretches and worths of all parts -/
def Tr.wl : Tr → Nat → List ((Nat × Nat) × Int)
  | .lf a, b => [((b, b), a)]
  | .nd s l r, b => ((b, b + (l.n + r.n) - 1), (Tr.nd s l r).worth) :: (l.wl b ++ r.wl (b + l.n))
def entW (p : (Nat × Nat) × Int) : PyData × U := (.tuple [.int (p.1.1 : Int), .int (p.1.2 : Int)], .d (.int p.2))
theorem wl_rng : ∀ (t : Tr) (b : Nat), ∀ p ∈ t.wl b, b ≤ p.1.1 ∧ p.1.1 ≤ p.1.2 ∧ p.1.2 < b + t.n
  | .lf a, b, p, h => by
    simp only [Tr.wl, List.mem_singleton] at h
    subst h
    simp [Tr.n]
  | .nd s l r, b, p, h => by
    have h1 := l.n_pos; have h2 := r.n_pos
    simp only [Tr.wl, List.mem_cons, List.mem_append] at h
    simp only [Tr.n]
    rcases h with rfl | h | h
    · dsimp only; omega
    · have := wl_rng l b p h; omega
    · have := wl_rng r _ p h; omega
theorem wl_nd : ∀ (t : Tr) (b : Nat), ((t.wl b).map (·.1)).Nodup
  | .lf a, b => by simp [Tr.wl]
  | .nd s l r, b => by
    have h1 := l.n_pos; have h2 := r.n_pos
    simp only [Tr.wl, List.map_cons, List.map_append, List.nodup_cons, List.nodup_append]
    refine ⟨fun h => ?_, wl_nd l b, wl_nd r _, fun x hx y hy e => ?_⟩
    · rcases List.mem_append.mp h with h | h
      · obtain ⟨p, hp, e⟩ := List.mem_map.mp h
        have := wl_rng l b p hp
        rw [e] at this
        dsimp only at this; omega
      · obtain ⟨p, hp, e⟩ := List.mem_map.mp h
        have := wl_rng r _ p hp
        rw [e] at this
        dsimp only at this; omega
    · subst e
      obtain ⟨p, hp, e1⟩ := List.mem_map.mp hx
      obtain ⟨q, hq, e2⟩ := List.mem_map.mp hy
      have a1 := wl_rng l b p hp
      have a2 := wl_rng r _ q hq
      rw [e1] at a1
      rw [e2] at a2
      omega
theorem wl_perm : ∀ (t : Tr) (b : Nat), ((t.wl b).map (·.1)).Perm (t.pre b ++ (List.range t.n).map fun k => (b + k, b + k))
  | .lf a, b => by simp [Tr.wl, Tr.pre, Tr.n]
  | .nd s l r, b => by
    have hl := wl_perm l b
    have hr := wl_perm r (b + l.n)
    have e : (List.range (l.n + r.n)).map (fun k => (b + k, b + k)) = (List.range l.n).map (fun k => (b + k, b + k)) ++ (List.range r.n).map (fun k => (b + l.n + k, b + l.n + k)) := by
      rw [List.range_add, List.map_append, List.map_map]
      congr 1
      refine List.map_congr_left fun k _ => ?_
      simp [Nat.add_assoc]
    simp only [Tr.wl, Tr.pre, Tr.n, List.map_cons, List.map_append]
    rw [e]
    refine List.Perm.trans (List.Perm.cons _ (hl.append hr)) ?_
    simp only [List.append_assoc, List.cons_append, List.nil_append]
    refine List.Perm.cons _ ((List.Perm.refl _).append ?_)
    exact List.perm_append_comm_assoc _ _ _
theorem wl_len (t : Tr) (b : Nat) : (t.wl b).length + 1 = 2 * t.n := by
  have := (wl_perm t b).length_eq
  rw [List.length_map, List.length_append, List.length_map, List.length_range] at this
  have := t.pre_len b
  have := t.n_pos
  omega
theorem wl_top (t : Tr) (b : Nat) : ((b, b + t.n - 1), t.worth) ∈ t.wl b := by
  cases t with
  | lf a => simp [Tr.wl, Tr.n, Tr.worth]
  | nd s l r => simp [Tr.wl, Tr.n]
theorem unT_ent (p : (Nat × Nat) × Int) : unT (entW p).1 = some [.inl (p.1.1 : Int), .inl (p.1.2 : Int)] := rfl
theorem put_new {i j : Nat} {w : Int} {L : List ((Nat × Nat) × Int)} (h : ∀ p ∈ L, p.1 ≠ (i, j)) : put2 i j w (L.map entW) = (L ++ [((i, j), w)]).map entW := by
  unfold put2 putD
  rw [if_neg]
  · simp [entW, kT]
  · rw [List.any_map, List.any_eq_true]
    rintro ⟨p, hp, e⟩
    simp only [Function.comp, decide_eq_true_eq] at e
    rw [unT_ent] at e
    have e' : ([.inl (p.1.1 : Int), .inl (p.1.2 : Int)] : List L2.Key) = [.inl (i : Int), .inl (j : Int)] := Option.some.inj e
    injection e' with e1 e2
    injection e2 with e2 _
    injection e1 with e1
    injection e2 with e2
    exact h p hp (by ext <;> simp <;> omega)
theorem pws_wl : ∀ (t : Tr) (b : Nat) (L : List ((Nat × Nat) × Int)), (∀ p ∈ L, p.1.1 ≤ p.1.2 ∧ ¬ (b ≤ p.1.1 ∧ p.1.2 < b + t.n)) → t.pws b (L.map entW) = (L ++ t.wl b).map entW
  | .lf a, b, L, h => put_new fun p hp e => by
      have := h p hp
      rw [e] at this
      simp [Tr.n] at this
  | .nd s l r, b, L, h => by
    have h1 := l.n_pos; have h2 := r.n_pos
    have n0 : (Tr.nd s l r).n = l.n + r.n := rfl
    have e0 : ((b : Int) + ((Tr.nd s l r).n : Int) - 1) = ((b + (l.n + r.n) - 1 : Nat) : Int) := by rw [n0]; omega
    have p0 : put2 b ((b : Int) + ((Tr.nd s l r).n : Int) - 1) (Tr.nd s l r).worth (L.map entW) = (L ++ [((b, b + (l.n + r.n) - 1), (Tr.nd s l r).worth)]).map entW := by
      rw [e0]
      refine put_new fun p hp e => ?_
      have := h p hp
      rw [e, n0] at this
      dsimp only at this
      omega
    show r.pws (b + l.n) (l.pws b (put2 b ((b : Int) + ((Tr.nd s l r).n : Int) - 1) (Tr.nd s l r).worth (L.map entW))) = _
    rw [p0, pws_wl l b _ (fun p hp => by
      rcases List.mem_append.mp hp with q | q
      · have := h p q
        rw [n0] at this
        omega
      · rw [List.mem_singleton.mp q]
        dsimp only; omega), pws_wl r _ _ (fun p hp => by
      rcases List.mem_append.mp hp with q | q
      · rcases List.mem_append.mp q with q | q
        · have := h p q
          rw [n0] at this
          omega
        · rw [List.mem_singleton.mp q]
          dsimp only; omega
      · have := wl_rng l b p q
        omega)]
    congr 1
    simp [Tr.wl]
theorem pws_all (t : Tr) : t.pws 0 [] = (t.wl 0).map entW := by
  have := pws_wl t 0 [] (fun p hp => by cases hp)
  simpa using this
/-! what stands at a stretch -/
theorem get_pl {p : (Nat × Nat) × Int} : ∀ {L : List ((Nat × Nat) × Int)}, (L.map (·.1)).Nodup → p ∈ L → getG unT [.inl (p.1.1 : Int), .inl (p.1.2 : Int)] (L.map entW) = some (.d (.int p.2))
  | q :: L, nd, h => by
    rw [List.map_cons, List.nodup_cons] at nd
    unfold getG
    rw [List.map_cons, List.find?_cons]
    by_cases e : p = q
    · subst e
      have : decide (unT (entW p).1 = some [.inl (p.1.1 : Int), .inl (p.1.2 : Int)]) = true := by rw [unT_ent]; simp
      rw [this]; rfl
    · have hm : p ∈ L := by
        rcases List.mem_cons.mp h with h | h
        · exact absurd h e
        · exact h
      have : decide (unT (entW q).1 = some [.inl (p.1.1 : Int), .inl (p.1.2 : Int)]) = false := by
        rw [decide_eq_false_iff_not, unT_ent]
        intro z
        have z' : ([.inl (q.1.1 : Int), .inl (q.1.2 : Int)] : List L2.Key) = [.inl (p.1.1 : Int), .inl (p.1.2 : Int)] := Option.some.inj z
        injection z' with e1 e2
        injection e2 with e2 _
        injection e1 with e1
        injection e2 with e2
        refine nd.1 (List.mem_map.mpr ⟨p, hm, ?_⟩)
        ext <;> omega
      rw [this]
      have ih := get_pl nd.2 hm
      unfold getG at ih
      exact ih
theorem item_pl {st : Store} {c : Nat} {L : List ((Nat × Nat) × Int)} (h : st[c]? = some (.dct true (L.map entW)) ∨ st[c]? = some (.fdct true (L.map entW))) (nd : (L.map (·.1)).Nodup) {p : (Nat × Nat) × Int} (hp : p ∈ L) :
    itemOf st (.cell c) (.d (.tuple [.int (p.1.1 : Int), .int (p.1.2 : Int)])) = some (.d (.int p.2)) := by
  have g := get_pl nd hp
  show (dctGet st (.tuple [.int (p.1.1 : Int), .int (p.1.2 : Int)]) (.cell c)).bind id = _
  rcases h with h | h
  · show ((match st[c]? with | some (.dct t kvs) => getB t _ kvs | some (.fdct t kvs) => getB t _ kvs | _ => none) : Option (Option U)).bind id = _
    rw [h]
    show (some (getG unT [.inl (p.1.1 : Int), .inl (p.1.2 : Int)] (L.map entW))).bind id = _
    rw [g]; rfl
  · show ((match st[c]? with | some (.dct t kvs) => getB t _ kvs | some (.fdct t kvs) => getB t _ kvs | _ => none) : Option (Option U)).bind id = _
    rw [h]
    show (some (getG unT [.inl (p.1.1 : Int), .inl (p.1.2 : Int)] (L.map entW))).bind id = _
    rw [g]; rfl
theorem get1_pl {b0 : Nat} {st : Store} {c : Nat} {L : List ((Nat × Nat) × Int)} (h : st[c]? = some (.dct true (L.map entW))) (nd : (L.map (·.1)).Nodup) {p : (Nat × Nat) × Int} (hp : p ∈ L) :
    meth b0 .get st (.cell c) [.d (.tuple [.int (p.1.1 : Int), .int (p.1.2 : Int)])] = some (.u (.d (.int p.2)), st) := by
  have g := get_pl nd hp
  show (getU st (.cell c) (.d (.tuple [.int (p.1.1 : Int), .int (p.1.2 : Int)])) (.d .none)).map (fun x => (Mk.u x, st)) = _
  have : getU st (.cell c) (.d (.tuple [.int (p.1.1 : Int), .int (p.1.2 : Int)])) (.d .none) = some (.d (.int p.2)) := by
    show (dctGet st (.tuple [.int (p.1.1 : Int), .int (p.1.2 : Int)]) (.cell c)).map (fun r => r.getD (.d .none)) = _
    show ((match st[c]? with | some (.dct t kvs) => getB t _ kvs | some (.fdct t kvs) => getB t _ kvs | _ => none) : Option (Option U)).map _ = _
    rw [h]
    show (some (getG unT [.inl (p.1.1 : Int), .inl (p.1.2 : Int)] (L.map entW))).map _ = _
    rw [g]; rfl
  rw [this]; rfl
/-! sorted -/
theorem srt_permP {X Y : List PyData} (h : X.Perm Y) (hp : ∀ x ∈ X, isP x = true) : srtD X = srtD Y := by
  have hq : ∀ y ∈ Y, isP y = true := fun y hy => hp y (h.mem_iff.mpr hy)
  exact sorted_eq leP (fun y hy => hp y ((Z.srtD_perm _).mem_iff.mp hy)) ((Z.srtD_perm X).trans (h.trans (Z.srtD_perm Y).symm)) (Z.srtD_sorted leP hp) (Z.srtD_sorted leP hq)
theorem sort_pl {st : Store} {c : Nat} {L : List ((Nat × Nat) × Int)} (h : st[c]? = some (.dct true (L.map entW))) (hl : L ≠ []) : prim .sorted st [.cell c] = some (.lst (ofD (srtD ((L.map (·.1)).map pr)))) := by
  have d : dctOf st (.cell c) = some (L.map entW) := by simp [dctOf, h]
  have l : lstOf st (.cell c) = none := by simp [lstOf, h]
  have aP : (L.map entW).all (fun kv => isP kv.1) = true := by
    rw [List.all_map, List.all_eq_true]; intro p _; rfl
  have ne : (L.map entW).isEmpty = false := by
    cases L with
    | nil => exact absurd rfl hl
    | cons a b => rfl
  have s : sortSrc st (.cell c) = some (ofD ((L.map (·.1)).map pr)) := by
    unfold sortSrc
    rw [l]
    dsimp only
    rw [d, Option.bind_some, if_pos (by rw [ne, aP]; simp)]
    congr 1
    unfold ofD
    rw [List.map_map, List.map_map, List.map_map]
    rfl
  show ((sortSrc st (.cell c)).bind fun us => (trees us).bind fun xs => if xs.all isI || xs.all isP then some (Mk.lst (ofD (srtD xs))) else none) = _
  rw [s, Option.bind_some, trees_ofD, Option.bind_some, if_pos (by rw [pr_isP]; simp)]
theorem sort_ll {st : Store} {xs : List PyData} (h : xs.all isP = true) : prim .sorted st [.d (.list xs)] = some (.lst (ofD (srtD xs))) := by
  show ((lstOf st (.d (.list xs))).bind fun us => (trees us).bind fun xs => if xs.all isI || xs.all isP then some (Mk.lst (ofD (srtD xs))) else none) = _
  simp only [lstOf, Option.bind_some, trees_ofD]
  rw [if_pos (by rw [h]; simp)]
/-! another number -/
theorem wth_nums (a : Int) : ∀ (t : Tr) (p : Nat), p < t.n → (t.wth p a).nums = t.nums.take p ++ [a] ++ t.nums.drop (p + 1)
  | .lf b, p, h => by
    simp only [Tr.n] at h
    have : p = 0 := by omega
    subst this
    simp [Tr.wth, Tr.nums]
  | .nd s l r, p, h => by
    have nl := l.nums_len
    simp only [Tr.n] at h
    by_cases hp : p < l.n
    · simp only [Tr.wth, hp, if_true, Tr.nums, wth_nums a l p hp]
      rw [List.take_append_of_le_length (by omega), List.drop_append_of_le_length (by omega)]
      simp
    · simp only [Tr.wth, hp, if_false, Tr.nums, wth_nums a r (p - l.n) (by omega)]
      rw [List.take_append, List.drop_append, List.take_of_length_le (by omega : l.nums.length ≤ p), List.drop_of_length_le (by omega : l.nums.length ≤ p + 1), nl, show p + 1 - l.n = p - l.n + 1 by omega]
      simp
theorem wth_self : ∀ (t : Tr) (p : Nat) (a : Int), t.nums[p]? = some a → t.wth p a = t
  | .lf b, p, a, h => by
    match p, h with
    | 0, h => simp [Tr.nums] at h; subst h; rfl
    | p + 1, h => simp [Tr.nums] at h
  | .nd s l r, p, a, h => by
    have nl := l.nums_len
    by_cases hp : p < l.n
    · simp only [Tr.nums] at h
      rw [List.getElem?_append_left (by omega)] at h
      simp only [Tr.wth, hp, if_true, wth_self l p a h]
    · simp only [Tr.nums] at h
      rw [List.getElem?_append_right (by omega), nl] at h
      simp only [Tr.wth, hp, if_false, wth_self r _ a h]
theorem wth_wl (a : Int) : ∀ (t : Tr) (p b : Nat), p < t.n → ∀ q ∈ t.wl b, ¬ (q.1.1 ≤ b + p ∧ b + p ≤ q.1.2) → q ∈ (t.wth p a).wl b
  | .lf x, p, b, hp, q, hq, hn => by
    simp only [Tr.wl, List.mem_singleton] at hq
    subst hq
    simp only [Tr.n] at hp
    dsimp only at hn
    omega
  | .nd s l r, p, b, hp, q, hq, hn => by
    simp only [Tr.n] at hp
    simp only [Tr.wl, List.mem_cons, List.mem_append] at hq
    rcases hq with rfl | hq
    · dsimp only at hn; omega
    · by_cases h : p < l.n
      · simp only [Tr.wth, h, if_true, Tr.wl, List.mem_cons, List.mem_append, wth_n]
        rcases hq with hq | hq
        · exact .inr (.inl (wth_wl a l p b h q hq hn))
        · exact .inr (.inr hq)
      · simp only [Tr.wth, h, if_false, Tr.wl, List.mem_cons, List.mem_append]
        rcases hq with hq | hq
        · exact .inr (.inl hq)
        · exact .inr (.inr (wth_wl a r (p - l.n) (b + l.n) (by omega) q hq (by rw [show b + l.n + (p - l.n) = b + p by omega]; exact hn)))
/-! the same with other numbers -/
def Tr.z : Tr → Tr
  | .lf _ => .lf 0
  | .nd s l r => .nd s l.z r.z
theorem wth_z (a : Int) : ∀ (t : Tr) (p : Nat), (t.wth p a).z = t.z
  | .lf _, _ => rfl
  | .nd s l r, p => by
    by_cases h : p < l.n
    · simp only [Tr.wth, h, if_true, Tr.z, wth_z a l]
    · simp only [Tr.wth, h, if_false, Tr.z, wth_z a r]
theorem z_n : ∀ t : Tr, t.z.n = t.n
  | .lf _ => rfl
  | .nd s l r => by simp only [Tr.z, Tr.n, z_n l, z_n r]
theorem z_eq : ∀ (t u : Tr), t.z = u.z → t.nums = u.nums → t = u
  | .lf a, .lf b, _, h => by simp [Tr.nums] at h; rw [h]
  | .lf a, .nd s l r, h, _ => by simp [Tr.z] at h
  | .nd s l r, .lf a, h, _ => by simp [Tr.z] at h
  | .nd s l r, .nd s' l' r', h, h2 => by
    simp only [Tr.z, Tr.nd.injEq] at h
    obtain ⟨rfl, h3, h4⟩ := h
    have : l.nums.length = l'.nums.length := by rw [l.nums_len, l'.nums_len, ← z_n l, ← z_n l', h3]
    have e := List.append_inj (show l.nums ++ r.nums = l'.nums ++ r'.nums from h2) this
    rw [z_eq l l' h3 e.1, z_eq r r' h4 e.2]
/-- sums and differences alone -/
def Tr.pm : Tr → Prop
  | .lf _ => True
  | .nd s l r => s ≠ .t ∧ l.pm ∧ r.pm
theorem z_neg : ∀ (t u : Tr), t.pm → u.z = t.z → u.nums = t.nums.map (fun x => 0 - x) → u.worth = 0 - t.worth
  | .lf a, .lf b, _, _, h => by simp [Tr.nums] at h; simp [Tr.worth, h]
  | .lf a, .nd s l r, _, h, _ => by simp [Tr.z] at h
  | .nd s l r, .lf a, _, h, _ => by simp [Tr.z] at h
  | .nd s l r, .nd s' l' r', hp, h, h2 => by
    simp only [Tr.z, Tr.nd.injEq] at h
    obtain ⟨rfl, h3, h4⟩ := h
    have hl : l'.nums.length = (l.nums.map (fun x => 0 - x)).length := by rw [List.length_map, l.nums_len, l'.nums_len, ← z_n l, ← z_n l', h3]
    have e := List.append_inj (show l'.nums ++ r'.nums = l.nums.map (fun x => 0 - x) ++ r.nums.map (fun x => 0 - x) by rw [← List.map_append]; exact h2) hl
    have w1 := z_neg l l' hp.2.1 h3 e.1
    have w2 := z_neg r r' hp.2.2 h4 e.2
    have h0 := hp.1
    simp only [Tr.worth, w1, w2]
    cases s' with
    | p => simp only [Sn.op]; omega
    | m => simp only [Sn.op]; omega
    | t => exact absurd rfl h0
def prodI : List Int → Int
  | [] => 1
  | x :: r => x * prodI r
theorem prodI_app : ∀ a b : List Int, prodI (a ++ b) = prodI a * prodI b
  | [], b => by simp [prodI]
  | x :: a, b => by simp only [List.cons_append, prodI, prodI_app a b]; rw [Int.mul_assoc]
/-- products alone -/
def Tr.at_ : Tr → Prop
  | .lf _ => True
  | .nd s l r => s = .t ∧ l.at_ ∧ r.at_
theorem prod_w : ∀ t : Tr, t.at_ → t.worth = prodI t.nums
  | .lf a, _ => by simp [Tr.worth, Tr.nums, prodI]
  | .nd s l r, h => by
    obtain ⟨rfl, h1, h2⟩ := h
    simp only [Tr.worth, Tr.nums, prodI_app, prod_w l h1, prod_w r h2, Sn.op]
theorem sgs_pm : ∀ {t : Tr}, t.Sgs "+-" → t.pm
  | .lf _, _ => trivial
  | .nd s l r, h => by
    refine ⟨?_, sgs_pm h.2.1, sgs_pm h.2.2⟩
    rintro rfl
    have := h.1
    revert this
    decide +kernel
theorem sgs_at : ∀ {t : Tr}, t.Sgs "*" → t.at_
  | .lf _, _ => trivial
  | .nd s l r, h => by
    refine ⟨?_, sgs_at h.2.1, sgs_at h.2.2⟩
    have := h.1
    cases s with
    | t => rfl
    | p => revert this; decide +kernel
    | m => revert this; decide +kernel
end K
/-! OH: the law's own worths of the parts, by a stack (k08). -/
namespace K
open PySem Z
/- _law_due, 221 -/
def b_l_due_v4_b1 : LSs :=
    (.cons (.ife (.pr (.isT .int) false (.cons (.var 6) .nil)) (.cons (.sub (.var 1) (.tup (.cons (.var 5) (.cons (.var 5) .nil))) (.var 6))
    (.cons (.expr (.me .append false (.var 2) (.cons (.var 6) .nil)))
    (.cons (.set (.v 5) (.bop .Add false (.var 5) (.lit (.int 1))))
    .nil))) (.cons (.ife (.cmp (.var 6) (.cons .Eq (.lit (.str "(")) .nil)) (.cons (.expr (.me .append false (.var 4) (.cons (.var 5) .nil)))
    .nil) (.cons (.ife (.cmp (.var 6) (.cons .Eq (.lit (.str ")")) .nil)) (.cons (.set (.v 7) (.me .popL false (.var 2) .nil))
    (.cons (.set (.v 8) (.me .popL false (.var 2) .nil))
    (.cons (.set (.v 9) (.me .popL false (.var 3) .nil))
    (.cons (.expr (.me .append false (.var 2) (.cons (.idx (.lst false (.cons (.bop .Add false (.var 8) (.var 7)) (.cons (.bop .Sub false (.var 8) (.var 7)) (.cons (.bop .Mult false (.var 8) (.var 7)) .nil)))) (.me .sindex false (.lit (.str "+-*")) (.cons (.var 9) .nil))) .nil)))
    (.cons (.sub (.var 1) (.tup (.cons (.me .popL false (.var 4) .nil) (.cons (.bop .Sub false (.var 5) (.lit (.int 1))) .nil))) (.idx (.var 2) (.neg (.lit (.int 1)))))
    .nil))))) (.cons (.expr (.me .append false (.var 3) (.cons (.var 6) .nil)))
    .nil))
    .nil))
    .nil))
    .nil)
def b_l_due_v4 : LSs :=
    (.cons (.set (.v 1) (.dct0 true true))
    (.cons (.set (.v 2) (.lst true .nil))
    (.cons (.set (.v 3) (.lst true .nil))
    (.cons (.set (.v 4) (.lst true .nil))
    (.cons (.set (.v 5) (.lit (.int 0)))
    (.cons (.forr (.v 6) (.val (.call 20 (.cons (.var 0) .nil))) b_l_due_v4_b1)
    (.cons (.ret (.lst false (.cons (.frz (.var 1)) (.cons (.idx (.var 2) (.lit (.int 0))) .nil))))
    .nil)))))))
def F_l_due_v4 : Fn := ⟨1, 10, b_l_due_v4⟩
/-- the parts with their worths, from below -/
def Tr.wp : Tr → Nat → List ((Nat × Nat) × Int)
  | .lf a, b => [((b, b), a)]
  | .nd s l r, b => l.wp b ++ r.wp (b + l.n) ++ [((b, b + (l.n + r.n) - 1), (Tr.nd s l r).worth)]
theorem wp_wl : ∀ (t : Tr) (b : Nat), (t.wp b).Perm (t.wl b)
  | .lf a, b => .refl _
  | .nd s l r, b => by
    simp only [Tr.wp, Tr.wl]
    refine (List.perm_append_comm).trans ?_
    exact List.Perm.cons _ ((wp_wl l b).append (wp_wl r _))
theorem wp_len (t : Tr) (b : Nat) : (t.wp b).length + 1 = 2 * t.n := by rw [(wp_wl t b).length_eq]; exact wl_len t b
theorem wp_nd (t : Tr) (b : Nat) : ((t.wp b).map (·.1)).Nodup := ((wp_wl t b).map _).nodup_iff.mpr (wl_nd t b)
def Sn.ix : Sn → Int
  | .p => 0 | .m => 1 | .t => 2
def Sn.nx : Sn → Nat
  | .p => 0 | .m => 1 | .t => 2
theorem occ_ix (g : Sn) : Builtin.Str.occurrences "+-*" g.s 0 ("+-*" : Str).length 1 = [g.nx] := by cases g <;> decide +kernel
theorem ix_of (g : Sn) : sindexU (.d (.str "+-*")) (.d (.str g.s)) = some (.d (.int g.ix)) := by
  show (match Builtin.Str.occurrences "+-*" g.s 0 ("+-*" : Str).length 1 with
    | i :: _ => some (U.d (.int (i : Int)))
    | [] => none) = _
  rw [occ_ix]
  cases g <;> rfl
theorem pick_ix (st : Store) (g : Sn) (x y : Int) : itemOf st (.d (.list [.int (x + y), .int (x - y), .int (x * y)])) (.d (.int g.ix)) = some (.d (.int (g.op x y))) := by cases g <;> rfl
theorem not_open (st : Store) (g : Sn) : cmpop .Eq st (.d (.str g.s)) (.d (.str "(")) = some false := by cases g <;> rfl
theorem not_close (st : Store) (g : Sn) : cmpop .Eq st (.d (.str g.s)) (.d (.str ")")) = some false := by cases g <;> rfl
theorem set_pl {S : Store} {c bs i j : Nat} {w : Int} {L : List ((Nat × Nat) × Int)} (h : S[c]? = some (.dct true (L.map entW))) (hn : ∀ p ∈ L, p.1 ≠ (i, j)) (hl : L.length < 1000) :
    setAt bs S (.cell c) (.d (.tuple [.int (i : Int), .int (j : Int)])) (.d (.int w)) = some (S.set c (.dct true ((L ++ [((i, j), w)]).map entW))) := by
  have hd : dctAt S (.cell c) = some (c, true, L.map entW) := by simp [dctAt, h]
  unfold setAt
  rw [hd]
  refine (if_pos rfl).trans ?_
  unfold Z.putAt
  rw [hd]
  show chk ((L.map entW).length < sizeLine ∧ okIn bs c (.d (.int w))) (S.set c (.dct true (put2 (i : Int) (j : Int) w (L.map entW)))) = _
  rw [chk_true _ ⟨by rw [show sizeLine = 16777216 from rfl, List.length_map]; omega, fun _ => rfl⟩, put_new hn]
theorem last_it {st gs : Store} {k : Nat} {xs : List PyData} {x : PyData} (h : gs[k]? = some (.lst (ofD (xs ++ [x])))) : itemOf (st ++ gs) (.cell (st.length + k)) (.d (.int (-1))) = some (.d x) := by
  show (match lstOf (st ++ gs) (.cell (st.length + k)) with
    | some us => L2.atI us (-1)
    | none => _) = _
  rw [lst_at h]
  dsimp only
  unfold L2.atI L2.ixN
  rw [if_neg (by decide), if_pos (by simp [ofD]; omega)]
  simp [ofD]
  rw [show (-1 + ((xs.length : Int) + 1)).toNat = xs.length by omega]
  simp
def gsD (L : List ((Nat × Nat) × Int)) (ws : List Int) (ss : List Sn) (os : List Nat) (T : List PyData) : Store :=
  [.dct true (L.map entW), .lst (ofD (ws.map .int)), .lst (ofD (ss.map fun g => .str g.s)), .lst (ofD (os.map fun (o : Nat) => .int (o : Int))), .lst (ofD T)]
section
variable {T : Nat → Option Fn} {con : Nat → Option PyData} {fuel : Nat}
noncomputable abbrev stepD (M0 : Mach) (b : Nat) : U → Vars → Store → FRes := fun u τ1 st2 => FRes.opt (setT (.v 6) u τ1) fun τ2 => exs M0 b b_l_due_v4_b1 τ2 st2
abbrev vsD (x : PyData) (b m : Nat) (o6 o7 o8 o9 : Option U) : Vars := [some (.d x), some (.cell b), some (.cell (b + 1)), some (.cell (b + 2)), some (.cell (b + 3)), some (.d (.int (m : Int))), o6, o7, o8, o9]
theorem forL_nxt {src : Src} {step : U → Vars → Store → FRes} {u : U} {r : List U} {τ τ1 : Vars} {st st1 : Store} (hk : src.Keep st) (h : step u τ st = .nx τ1 st1) : forL src step (u :: r) τ st = forL src step r τ1 st1 := by
  rw [forL, if_pos hk, h]
theorem walk (M0 : Mach) (x : PyData) (st : Store) (T : List PyData) : ∀ (t : Tr) (m : Nat) (L : List ((Nat × Nat) × Int)) (ws : List Int) (ss : List Sn) (os : List Nat) (r : List U) (o6 o7 o8 o9 : Option U) {B : Nat}, Wy (B + 1) t →
    ((L ++ t.wp m).map (·.1)).Nodup → L.length + 2 * t.n ≤ 100 → ws.length + t.n ≤ 100 → ss.length + t.n ≤ 100 → os.length + t.n ≤ 100 →
    ∃ p6 p7 p8 p9 : Option U, forL ⟨[(st.length + 4, ofD T)], ofD T⟩ (stepD M0 st.length) (ofD t.toks ++ r) (vsD x st.length m o6 o7 o8 o9) (st ++ gsD L ws ss os T) =
      forL ⟨[(st.length + 4, ofD T)], ofD T⟩ (stepD M0 st.length) r (vsD x st.length (m + t.n) p6 p7 p8 p9) (st ++ gsD (L ++ t.wp m) (ws ++ [t.worth]) ss os T)
  | .lf a, m, L, ws, ss, os, r, o6, o7, o8, o9, B, wy, nd, l1, l2, l3, l4 => by
    have keep : ∀ L ws ss os, Src.Keep ⟨[(st.length + 4, ofD T)], ofD T⟩ (st ++ gsD L ws ss os T) := fun L ws ss os p hp => by
      rw [List.mem_singleton.mp hp]
      exact (get_app st _ 4).trans rfl
    have hn : ∀ p ∈ L, p.1 ≠ (m, m) := fun p hp e => by
      simp only [Tr.wp, List.map_append, List.map_cons, List.map_nil] at nd
      exact (List.nodup_append.mp nd).2.2 p.1 (List.mem_map.mpr ⟨p, hp, rfl⟩) (m, m) (by simp) e
    have g0 : (st ++ gsD L ws ss os T)[st.length]? = some (.dct true (L.map entW)) := (get_app st _ 0).trans rfl
    have s1 := set_pl (bs := st.length) (w := a) g0 hn (by simp only [Tr.n] at l1; omega)
    have s2 : (st ++ gsD L ws ss os T).set st.length (.dct true ((L ++ [((m, m), a)]).map entW)) = st ++ gsD (L ++ [((m, m), a)]) ws ss os T := (set_app st _ 0 _).trans rfl
    rw [s2] at s1
    have a1 := app_app (st := st) (gs := gsD (L ++ [((m, m), a)]) ws ss os T) (k := 1) (base := st.length) (us := ofD (ws.map .int)) (x := .int a) rfl (by simp [ofD]; omega)
    have a2 : (gsD (L ++ [((m, m), a)]) ws ss os T).set 1 (.lst (ofD (ws.map .int) ++ [.d (.int a)])) = gsD (L ++ [((m, m), a)]) (ws ++ [a]) ss os T := by
      show [_, _, _, _, _] = _
      simp [gsD, ofD]
    rw [a2] at a1
    have mt := mty_app (m := .append) (st := st) (gs := gsD (L ++ [((m, m), a)]) ws ss os T) (k := 1) (us := ofD (ws.map .int)) rfl (.inl rfl)
    have ad : ∀ S : Store, binop .Add S (.d (.int (m : Int))) (.d (.int 1)) = some (.u (.d (.int ((m + 1 : Nat) : Int)))) := fun _ => rfl
    have tr : ∀ (S : Store) (b : Bool), truth S (.d (.bool b)) = some b := fun _ _ => rfl
    have body : exs M0 st.length b_l_due_v4_b1 (vsD x st.length m (some (.d (.int a))) o7 o8 o9) (st ++ gsD L ws ss os T) = .nx (vsD x st.length (m + 1) (some (.d (.int a))) o7 o8 o9) (st ++ gsD (L ++ [((m, m), a)]) (ws ++ [a]) ss os T) := by
      unfold b_l_due_v4_b1
      refine seq_step ?_ rfl
      rw [x_ife]
      simp only [t_pr, v_pr, mns_cons, mns_nil, evs_cons, evs_nil, v_var, varU_s, varU_0, Res.bind_ok, q_isT, isTy_d, tyIs, Option.map_some, Res.opt_some, fin_u, tr, of_ok, if_true]
      refine seq_step (τ1 := vsD x st.length m (some (.d (.int a))) o7 o8 o9) (st1 := st ++ gsD (L ++ [((m, m), a)]) ws ss os T) (by
        simp only [x_sub, v_tup, mns_cons, mns_nil, evs_cons, evs_nil, v_var, varU_s, varU_0, Res.bind_ok, tupOf_eq, Res.opt_some, of_ok, optF_some]
        first | (simp [s1]; done) | skip) ?_
      refine seq_step (τ1 := vsD x st.length m (some (.d (.int a))) o7 o8 o9) (st1 := st ++ gsD (L ++ [((m, m), a)]) (ws ++ [a]) ss os T) (by
        simp only [x_expr, v_me, mns_cons, mns_nil, evs_cons, evs_nil, v_var, varU_s, varU_0, Res.bind_ok, mt, a1, Res.opt_some, fin_u, of_ok]) ?_
      refine seq_step ?_ rfl
      simp only [x_set, v_bop, v_var, v_lit, varU_s, varU_0, Res.bind_ok, ad, Res.opt_some, fin_u, of_ok, setT_v, optF_some]
      rfl
    refine ⟨some (.d (.int a)), o7, o8, o9, ?_⟩
    show forL _ _ (U.d (.int a) :: r) _ _ = _
    exact forL_nxt (keep _ _ _ _) body
  | .nd g l q, m, L, ws, ss, os, r, o6, o7, o8, o9, B, wy, nd, l1, l2, l3, l4 => by
    have keep : ∀ L ws ss os, Src.Keep ⟨[(st.length + 4, ofD T)], ofD T⟩ (st ++ gsD L ws ss os T) := fun L ws ss os p hp => by
      rw [List.mem_singleton.mp hp]
      exact (get_app st _ 4).trans rfl
    have tr : ∀ (S : Store) (b : Bool), truth S (.d (.bool b)) = some b := fun _ _ => rfl
    have nl := l.n_pos
    have nq := q.n_pos
    simp only [Tr.n] at l1 l2 l3 l4
    have wl1 := wp_len l m
    have wl2 := wp_len q (m + l.n)
    simp only [Tr.wp, ← List.append_assoc] at nd
    have nd1 : ((L ++ l.wp m ++ q.wp (m + l.n)).map (·.1)).Nodup := by
      rw [List.map_append] at nd
      exact (List.nodup_append.mp nd).1
    have nd0 : ((L ++ l.wp m).map (·.1)).Nodup := by
      rw [List.map_append] at nd1
      exact (List.nodup_append.mp nd1).1
    have e0 : ∀ rr, ofD (Tr.nd g l q).toks ++ rr = U.d (.str "(") :: (ofD l.toks ++ (U.d (.str g.s) :: (ofD q.toks ++ (U.d (.str ")") :: rr)))) := fun rr => by simp [Tr.toks, ofD]
    rw [e0]
    -- (
    have b1 : ∀ o7 o8 o9 : Option U, exs M0 st.length b_l_due_v4_b1 (vsD x st.length m (some (.d (.str "("))) o7 o8 o9) (st ++ gsD L ws ss os T) = .nx (vsD x st.length m (some (.d (.str "("))) o7 o8 o9) (st ++ gsD L ws ss (os ++ [m]) T) := fun o7 o8 o9 => by
      have a1 := app_app (st := st) (gs := gsD L ws ss os T) (k := 3) (base := st.length) (us := ofD (os.map fun (o : Nat) => .int (o : Int))) (x := .int (m : Int)) rfl (by simp [ofD]; omega)
      have a2 : (gsD L ws ss os T).set 3 (.lst (ofD (os.map fun (o : Nat) => PyData.int (o : Int)) ++ [.d (.int (m : Int))])) = gsD L ws ss (os ++ [m]) T := by
        show [_, _, _, _, _] = _
        simp [gsD, ofD]
      rw [a2] at a1
      have mt := mty_app (m := .append) (st := st) (gs := gsD L ws ss os T) (k := 3) (us := ofD (os.map fun (o : Nat) => .int (o : Int))) rfl (.inl rfl)
      have c1 : ∀ S : Store, cmpop .Eq S (.d (.str "(")) (.d (.str "(")) = some true := fun _ => rfl
      unfold b_l_due_v4_b1
      refine seq_step ?_ rfl
      rw [x_ife]
      simp only [t_pr, v_pr, mns_cons, mns_nil, evs_cons, evs_nil, v_var, varU_s, varU_0, Res.bind_ok, q_isT, isTy_d, tyIs, Option.map_some, Res.opt_some, fin_u, tr, of_ok, Bool.false_eq_true, if_false]
      refine seq_step ?_ rfl
      rw [x_ife]
      simp only [t_cmp, mcs_cons, mcs_nil, evC_one, v_lit, v_var, varU_s, varU_0, Res.bind_ok, c1, Res.opt_some, of_ok, if_true]
      refine seq_step ?_ rfl
      simp only [x_expr, v_me, mns_cons, mns_nil, evs_cons, evs_nil, v_var, varU_s, varU_0, Res.bind_ok, mt, a1, Res.opt_some, fin_u, of_ok]
    rw [forL_nxt (keep _ _ _ _) (b1 o7 o8 o9)]
    obtain ⟨p6, p7, p8, p9, h1⟩ := walk M0 x st T l m L ws ss (os ++ [m]) (U.d (.str g.s) :: (ofD q.toks ++ (U.d (.str ")") :: r))) (some (.d (.str "("))) o7 o8 o9 wy.l nd0 (by omega) (by omega) (by omega) (by simp; omega)
    rw [h1]
    -- the sign
    have b2 : exs M0 st.length b_l_due_v4_b1 (vsD x st.length (m + l.n) (some (.d (.str g.s))) p7 p8 p9) (st ++ gsD (L ++ l.wp m) (ws ++ [l.worth]) ss (os ++ [m]) T) = .nx (vsD x st.length (m + l.n) (some (.d (.str g.s))) p7 p8 p9) (st ++ gsD (L ++ l.wp m) (ws ++ [l.worth]) (ss ++ [g]) (os ++ [m]) T) := by
      have a1 := app_app (st := st) (gs := gsD (L ++ l.wp m) (ws ++ [l.worth]) ss (os ++ [m]) T) (k := 2) (base := st.length) (us := ofD (ss.map fun g => .str g.s)) (x := .str g.s) rfl (by simp [ofD]; omega)
      have a2 : (gsD (L ++ l.wp m) (ws ++ [l.worth]) ss (os ++ [m]) T).set 2 (.lst (ofD (ss.map fun g => PyData.str g.s) ++ [.d (.str g.s)])) = gsD (L ++ l.wp m) (ws ++ [l.worth]) (ss ++ [g]) (os ++ [m]) T := by
        show [_, _, _, _, _] = _
        simp [gsD, ofD]
      rw [a2] at a1
      have mt := mty_app (m := .append) (st := st) (gs := gsD (L ++ l.wp m) (ws ++ [l.worth]) ss (os ++ [m]) T) (k := 2) (us := ofD (ss.map fun g => .str g.s)) rfl (.inl rfl)
      unfold b_l_due_v4_b1
      refine seq_step ?_ rfl
      rw [x_ife]
      simp only [t_pr, v_pr, mns_cons, mns_nil, evs_cons, evs_nil, v_var, varU_s, varU_0, Res.bind_ok, q_isT, isTy_d, tyIs, Option.map_some, Res.opt_some, fin_u, tr, of_ok, Bool.false_eq_true, if_false]
      refine seq_step ?_ rfl
      rw [x_ife]
      simp only [t_cmp, mcs_cons, mcs_nil, evC_one, v_lit, v_var, varU_s, varU_0, Res.bind_ok, not_open, Res.opt_some, of_ok, Bool.false_eq_true, if_false]
      refine seq_step ?_ rfl
      rw [x_ife]
      simp only [t_cmp, mcs_cons, mcs_nil, evC_one, v_lit, v_var, varU_s, varU_0, Res.bind_ok, not_close, Res.opt_some, of_ok, Bool.false_eq_true, if_false]
      refine seq_step ?_ rfl
      simp only [x_expr, v_me, mns_cons, mns_nil, evs_cons, evs_nil, v_var, varU_s, varU_0, Res.bind_ok, mt, a1, Res.opt_some, fin_u, of_ok]
    rw [forL_nxt (keep _ _ _ _) b2]
    obtain ⟨q6, q7, q8, q9, h2⟩ := walk M0 x st T q (m + l.n) (L ++ l.wp m) (ws ++ [l.worth]) (ss ++ [g]) (os ++ [m]) (U.d (.str ")") :: r) (some (.d (.str g.s))) p7 p8 p9 wy.r nd1 (by simp; omega) (by simp; omega) (by simp; omega) (by simp; omega)
    rw [h2]
    -- )
    obtain ⟨L2, hL2⟩ : ∃ L2, L2 = L ++ l.wp m ++ q.wp (m + l.n) := ⟨_, rfl⟩
    rw [← hL2]
    have L2l : L2.length < 1000 := by rw [hL2]; simp; omega
    have hn : ∀ p ∈ L2, p.1 ≠ (m, m + (l.n + q.n) - 1) := fun p hp e => by
      rw [List.map_append] at nd
      exact (List.nodup_append.mp nd).2.2 p.1 (List.mem_map.mpr ⟨p, hL2 ▸ hp, rfl⟩) (m, m + (l.n + q.n) - 1) (by simp) e
    have mu := mul_b wy.l.sm wy.r.sm
    have wo : g.op l.worth q.worth = (Tr.nd g l q).worth := rfl
    have b3 : exs M0 st.length b_l_due_v4_b1 (vsD x st.length (m + l.n + q.n) (some (.d (.str ")"))) q7 q8 q9) (st ++ gsD L2 (ws ++ [l.worth] ++ [q.worth]) (ss ++ [g]) (os ++ [m]) T) =
        .nx (vsD x st.length (m + l.n + q.n) (some (.d (.str ")"))) (some (.d (.int q.worth))) (some (.d (.int l.worth))) (some (.d (.str g.s)))) (st ++ gsD (L2 ++ [((m, m + (l.n + q.n) - 1), (Tr.nd g l q).worth)]) (ws ++ [(Tr.nd g l q).worth]) ss os T) := by
      have c1 : ∀ S : Store, cmpop .Eq S (.d (.str ")")) (.d (.str "(")) = some false := fun _ => rfl
      have c2 : ∀ S : Store, cmpop .Eq S (.d (.str ")")) (.d (.str ")")) = some true := fun _ => rfl
      have mp : ∀ (L : List ((Nat × Nat) × Int)) ws ss os, mty .popL (st ++ gsD L ws ss os T) (.cell (st.length + 1)) = some () := fun L ws ss os => mty_app (m := .popL) (st := st) (k := 1) (us := ofD (ws.map .int)) rfl (.inr rfl)
      have mp2 : ∀ (L : List ((Nat × Nat) × Int)) ws ss os, mty .popL (st ++ gsD L ws ss os T) (.cell (st.length + 2)) = some () := fun L ws ss os => mty_app (m := .popL) (st := st) (k := 2) (us := ofD (ss.map fun g => .str g.s)) rfl (.inr rfl)
      have mp3 : ∀ (L : List ((Nat × Nat) × Int)) ws ss os, mty .popL (st ++ gsD L ws ss os T) (.cell (st.length + 3)) = some () := fun L ws ss os => mty_app (m := .popL) (st := st) (k := 3) (us := ofD (os.map fun (o : Nat) => .int (o : Int))) rfl (.inr rfl)
      have w1 : meth st.length .popL (st ++ gsD L2 (ws ++ [l.worth] ++ [q.worth]) (ss ++ [g]) (os ++ [m]) T) (.cell (st.length + 1)) [] = some (.u (.d (.int q.worth)), st ++ gsD L2 (ws ++ [l.worth]) (ss ++ [g]) (os ++ [m]) T) := by
        rw [pop_app (xs := (ws ++ [l.worth]).map .int) (x := .int q.worth) (by show some (Cont.lst (ofD ((ws ++ [l.worth] ++ [q.worth]).map .int))) = _; rw [List.map_append]; rfl)]
        rfl
      have w2 : meth st.length .popL (st ++ gsD L2 (ws ++ [l.worth]) (ss ++ [g]) (os ++ [m]) T) (.cell (st.length + 1)) [] = some (.u (.d (.int l.worth)), st ++ gsD L2 ws (ss ++ [g]) (os ++ [m]) T) := by
        rw [pop_app (xs := ws.map .int) (x := .int l.worth) (by show some (Cont.lst (ofD ((ws ++ [l.worth]).map .int))) = _; rw [List.map_append]; rfl)]
        rfl
      have w3 : meth st.length .popL (st ++ gsD L2 ws (ss ++ [g]) (os ++ [m]) T) (.cell (st.length + 2)) [] = some (.u (.d (.str g.s)), st ++ gsD L2 ws ss (os ++ [m]) T) := by
        rw [pop_app (xs := ss.map fun g => .str g.s) (x := .str g.s) (by show some (Cont.lst (ofD ((ss ++ [g]).map fun g => PyData.str g.s))) = _; rw [List.map_append]; rfl)]
        rfl
      have w4 := app_app (st := st) (gs := gsD L2 ws ss (os ++ [m]) T) (k := 1) (base := st.length) (us := ofD (ws.map .int)) (x := .int (g.op l.worth q.worth)) rfl (by simp [ofD]; omega)
      have w5 : (gsD L2 ws ss (os ++ [m]) T).set 1 (.lst (ofD (ws.map .int) ++ [.d (.int (g.op l.worth q.worth))])) = gsD L2 (ws ++ [(Tr.nd g l q).worth]) ss (os ++ [m]) T := by
        show [_, _, _, _, _] = _
        simp [gsD, ofD, wo]
      rw [w5] at w4
      have ma := mty_app (m := .append) (st := st) (gs := gsD L2 ws ss (os ++ [m]) T) (k := 1) (us := ofD (ws.map .int)) rfl (.inl rfl)
      have w6 : meth st.length .popL (st ++ gsD L2 (ws ++ [(Tr.nd g l q).worth]) ss (os ++ [m]) T) (.cell (st.length + 3)) [] = some (.u (.d (.int (m : Int))), st ++ gsD L2 (ws ++ [(Tr.nd g l q).worth]) ss os T) := by
        rw [pop_app (xs := os.map fun (o : Nat) => .int (o : Int)) (x := .int (m : Int)) (by show some (Cont.lst (ofD ((os ++ [m]).map fun (o : Nat) => PyData.int (o : Int)))) = _; rw [List.map_append]; rfl)]
        rfl
      have it := last_it (st := st) (gs := gsD L2 (ws ++ [(Tr.nd g l q).worth]) ss (os ++ [m]) T) (k := 1) (xs := ws.map .int) (x := .int (Tr.nd g l q).worth) (by show some (Cont.lst (ofD ((ws ++ [(Tr.nd g l q).worth]).map .int))) = _; rw [List.map_append]; rfl)
      have g0 : (st ++ gsD L2 (ws ++ [(Tr.nd g l q).worth]) ss os T)[st.length]? = some (.dct true (L2.map entW)) := (get_app st _ 0).trans rfl
      have s1 := set_pl (bs := st.length) (w := (Tr.nd g l q).worth) g0 hn L2l
      have s2 : (st ++ gsD L2 (ws ++ [(Tr.nd g l q).worth]) ss os T).set st.length (.dct true ((L2 ++ [((m, m + (l.n + q.n) - 1), (Tr.nd g l q).worth)]).map entW)) = st ++ gsD (L2 ++ [((m, m + (l.n + q.n) - 1), (Tr.nd g l q).worth)]) (ws ++ [(Tr.nd g l q).worth]) ss os T := (set_app st _ 0 _).trans rfl
      rw [s2] at s1
      have ad : ∀ S : Store, binop .Add S (.d (.int l.worth)) (.d (.int q.worth)) = some (.u (.d (.int (l.worth + q.worth)))) := fun _ => rfl
      have sb : ∀ S : Store, binop .Sub S (.d (.int l.worth)) (.d (.int q.worth)) = some (.u (.d (.int (l.worth - q.worth)))) := fun _ => rfl
      have ml : ∀ S : Store, binop .Mult S (.d (.int l.worth)) (.d (.int q.worth)) = some (.u (.d (.int (l.worth * q.worth)))) := fun S => by
        show (intOp .Mult l.worth q.worth).map _ = _
        rw [mu]; rfl
      have s3 : ∀ S : Store, binop .Sub S (.d (.int ((m + l.n + q.n : Nat) : Int))) (.d (.int 1)) = some (.u (.d (.int ((m + (l.n + q.n) - 1 : Nat) : Int)))) := fun S => by
        show some (Mk.u (.d (.int (((m + l.n + q.n : Nat) : Int) - 1)))) = _
        rw [show (((m + l.n + q.n : Nat) : Int) - 1) = ((m + (l.n + q.n) - 1 : Nat) : Int) by omega]
      have f3 : ∀ S : Store, fin false S (.lst [.d (.int (l.worth + q.worth)), .d (.int (l.worth - q.worth)), .d (.int (l.worth * q.worth))]) = .ok (.d (.list [.int (l.worth + q.worth), .int (l.worth - q.worth), .int (l.worth * q.worth)])) S := fun _ => rfl
      have sx : ∀ S : Store, meth st.length .sindex S (.d (.str "+-*")) [.d (.str g.s)] = some (.u (.d (.int g.ix)), S) := fun S => by
        show (sindexU (.d (.str "+-*")) (.d (.str g.s))).map (fun x => (Mk.u x, S)) = _
        rw [ix_of]; rfl
      have my : ∀ S : Store, mty .sindex S (.d (.str "+-*")) = some () := fun _ => rfl
      have ng : ∀ S : Store, negU (.d (.int 1)) S = .ok (.d (.int (-1))) S := fun _ => rfl
      unfold b_l_due_v4_b1
      refine seq_step ?_ rfl
      rw [x_ife]
      simp only [t_pr, v_pr, mns_cons, mns_nil, evs_cons, evs_nil, v_var, varU_s, varU_0, Res.bind_ok, q_isT, isTy_d, tyIs, Option.map_some, Res.opt_some, fin_u, tr, of_ok, Bool.false_eq_true, if_false]
      refine seq_step ?_ rfl
      rw [x_ife]
      simp only [t_cmp, mcs_cons, mcs_nil, evC_one, v_lit, v_var, varU_s, varU_0, Res.bind_ok, c1, Res.opt_some, of_ok, Bool.false_eq_true, if_false]
      refine seq_step ?_ rfl
      rw [x_ife]
      simp only [t_cmp, mcs_cons, mcs_nil, evC_one, v_lit, v_var, varU_s, varU_0, Res.bind_ok, c2, Res.opt_some, of_ok, if_true]
      refine seq_step (τ1 := vsD x st.length (m + l.n + q.n) (some (.d (.str ")"))) (some (.d (.int q.worth))) q8 q9) (st1 := st ++ gsD L2 (ws ++ [l.worth]) (ss ++ [g]) (os ++ [m]) T) (by
        simp only [x_set, v_me, mns_nil, evs_nil, v_var, varU_s, varU_0, Res.bind_ok, mp, w1, Res.opt_some, fin_u, of_ok, setT_v, optF_some]
        rfl) ?_
      refine seq_step (τ1 := vsD x st.length (m + l.n + q.n) (some (.d (.str ")"))) (some (.d (.int q.worth))) (some (.d (.int l.worth))) q9) (st1 := st ++ gsD L2 ws (ss ++ [g]) (os ++ [m]) T) (by
        simp only [x_set, v_me, mns_nil, evs_nil, v_var, varU_s, varU_0, Res.bind_ok, mp, w2, Res.opt_some, fin_u, of_ok, setT_v, optF_some]
        rfl) ?_
      refine seq_step (τ1 := vsD x st.length (m + l.n + q.n) (some (.d (.str ")"))) (some (.d (.int q.worth))) (some (.d (.int l.worth))) (some (.d (.str g.s)))) (st1 := st ++ gsD L2 ws ss (os ++ [m]) T) (by
        simp only [x_set, v_me, mns_nil, evs_nil, v_var, varU_s, varU_0, Res.bind_ok, mp2, w3, Res.opt_some, fin_u, of_ok, setT_v, optF_some]
        rfl) ?_
      refine seq_step (τ1 := vsD x st.length (m + l.n + q.n) (some (.d (.str ")"))) (some (.d (.int q.worth))) (some (.d (.int l.worth))) (some (.d (.str g.s)))) (st1 := st ++ gsD L2 (ws ++ [(Tr.nd g l q).worth]) ss (os ++ [m]) T) (by
        simp only [x_expr, v_me, v_idx, v_lst, v_bop, v_lit, mns_cons, mns_nil, evs_cons, evs_nil, v_var, varU_s, varU_0, Res.bind_ok, ma, ad, sb, ml, f3, my, sx, pick_ix, w4, Res.opt_some, fin_u, of_ok]) ?_
      refine seq_step ?_ rfl
      simp only [x_sub, v_tup, v_me, v_idx, v_bop, v_neg, v_lit, mns_cons, mns_nil, evs_cons, evs_nil, v_var, varU_s, varU_0, Res.bind_ok, ng, it, mp3, w6, s3, tupOf_eq, Res.opt_some, fin_u, of_ok, optF_some]
      first | (simp [s1]; done) | skip
    rw [forL_nxt (keep _ _ _ _) b3]
    refine ⟨some (.d (.str ")")), some (.d (.int q.worth)), some (.d (.int l.worth)), some (.d (.str g.s)), ?_⟩
    rw [show m + (Tr.nd g l q).n = m + l.n + q.n by simp only [Tr.n]; omega, show L ++ (Tr.nd g l q).wp m = L2 ++ [((m, m + (l.n + q.n) - 1), (Tr.nd g l q).worth)] by rw [hL2]; simp only [Tr.wp, List.append_assoc]]
theorem forL_end {src : Src} {step : U → Vars → Store → FRes} {τ : Vars} {st : Store} (hk : src.Keep st) : forL src step [] τ st = .nx τ st := by
  rw [forL, if_pos hk]
def kvT (L : List ((Nat × Nat) × Int)) : List (PyData × PyData) := L.map fun p => (.tuple [.int (p.1.1 : Int), .int (p.1.2 : Int)], .int p.2)
theorem tr_ent : ∀ L : List ((Nat × Nat) × Int), treesKv (L.map entW) = some (kvT L)
  | [] => rfl
  | p :: r => by
    show (treesKv (r.map entW)).map _ = _
    rw [tr_ent r]; rfl
theorem g_wdue (h20 : T 20 = some F_l_tokens) (h : T 221 = some F_l_due_v4) {B : Nat} {t : Tr} (wy : Wy (B + 1) t) {N : Nat} (hN : 2 ≤ N) (hf : 100 < fuel) (st : Store) :
    run T con fuel N 221 [.d t.d] st = .ok (.d (.list [.dict (kvT (t.wp 0)), .int t.worth])) st := by
  obtain ⟨M, rfl, hM⟩ := suc (N := N) (m := 1) (by omega)
  rw [run_at h rfl]
  obtain ⟨M0, hM0⟩ : ∃ M0 : Mach, M0 = ⟨con, run T con fuel M, fuel⟩ := ⟨_, rfl⟩
  have hcall : ∀ f us st, M0.call f us st = run T con fuel M f us st := by rw [hM0]; intros; rfl
  rw [← hM0]
  have tn := wy.n
  have tl := t.toks_len
  obtain ⟨S4, hS4⟩ : ∃ S4 : Store, S4 = st ++ [.dct true [], .lst [], .lst [], .lst []] := ⟨_, rfl⟩
  have l4 : S4.length = st.length + 4 := by rw [hS4]; simp
  have et := g_tokens (con := con) (fuel := fuel) h20 (t := t) tn (N := M) (by omega) hf S4
  rw [← hcall, l4] at et
  have s5 : S4 ++ [.lst (ofD t.toks)] = st ++ gsD [] [] [] [] t.toks := by rw [hS4]; simp [gsD]
  rw [s5] at et
  have ia : (Res.ok (U.cell (st.length + 4)) (st ++ gsD [] [] [] [] t.toks)).inner st.length S4 = .ok (U.cell (st.length + 4)) (st ++ gsD [] [] [] [] t.toks) := by
    rw [← s5]
    exact inner_app _ _ (by omega)
  obtain ⟨p6, p7, p8, p9, wk⟩ := walk M0 t.d st t.toks t 0 [] [] [] [] [] none none none none wy (by simpa using wp_nd t 0) (by simp; omega) (by simp; omega) (by simp; omega) (by simp; omega)
  rw [List.append_nil, List.nil_append, List.nil_append] at wk
  have keep : Src.Keep ⟨[(st.length + 4, ofD t.toks)], ofD t.toks⟩ (st ++ gsD (t.wp 0) [t.worth] [] [] t.toks) := fun p hp => by
    rw [List.mem_singleton.mp hp]
    exact (get_app st _ 4).trans rfl
  rw [forL_end keep] at wk
  obtain ⟨S6, hS6⟩ : ∃ S6 : Store, S6 = st ++ gsD (t.wp 0) [t.worth] [] [] t.toks := ⟨_, rfl⟩
  have sv : srcVal (st ++ gsD [] [] [] [] t.toks) (.cell (st.length + 4)) = some ⟨[(st.length + 4, ofD t.toks)], ofD t.toks⟩ := by
    have : (st ++ gsD [] [] [] [] t.toks)[st.length + 4]? = some (.lst (ofD t.toks)) := (get_app st _ 4).trans rfl
    simp [srcVal, srcLst, this]
  have fz : frzU (.cell st.length) S6 = .ok (.d (.dict (kvT (t.wp 0)))) (st ++ [.dead, .lst (ofD [.int t.worth]), .lst [], .lst [], .lst (ofD t.toks)]) := by
    have g0 : S6[st.length]? = some (.dct true ((t.wp 0).map entW)) := by rw [hS6]; exact (get_app st _ 0).trans rfl
    have s0 : S6.set st.length .dead = st ++ [.dead, .lst (ofD [.int t.worth]), .lst [], .lst [], .lst (ofD t.toks)] := by rw [hS6]; exact (set_app st _ 0 _).trans rfl
    simp only [frzU, g0, tr_ent, Res.opt_some, s0]
  obtain ⟨S7, hS7⟩ : ∃ S7 : Store, S7 = st ++ [.dead, .lst (ofD [.int t.worth]), .lst [], .lst [], .lst (ofD t.toks)] := ⟨_, rfl⟩
  rw [← hS7] at fz
  have it : itemOf S7 (.cell (st.length + 1)) (.d (.int 0)) = some (.d (.int t.worth)) := by
    have : S7[st.length + 1]? = some (.lst (ofD [.int t.worth])) := by rw [hS7]; exact (get_app st _ 1).trans rfl
    simp [itemOf, lstOf, this, L2.atI, L2.ixN, ofD]
  have ff : fin false S7 (.lst [.d (.dict (kvT (t.wp 0))), .d (.int t.worth)]) = .ok (.d (.list [.dict (kvT (t.wp 0)), .int t.worth])) S7 := rfl
  have body : exs M0 st.length b_l_due_v4 [some (.d t.d), none, none, none, none, none, none, none, none, none] st = .rt (.d (.list [.dict (kvT (t.wp 0)), .int t.worth])) S7 := by
    unfold b_l_due_v4
    refine seq_step (τ1 := [some (.d t.d), some (.cell st.length), none, none, none, none, none, none, none, none]) (st1 := st ++ [.dct true []]) (by
      simp only [x_set, v_dct0, show fin true st (.dct true []) = .ok (.cell st.length) (st ++ [.dct true []]) from rfl, of_ok, setT_v, optF_some]
      rfl) ?_
    refine seq_step (τ1 := [some (.d t.d), some (.cell st.length), some (.cell (st.length + 1)), none, none, none, none, none, none, none]) (st1 := st ++ [.dct true [], .lst []]) (by
      simp only [x_set, v_lst, mns_nil, evs_nil, Res.bind_ok, fin_new, of_ok, setT_v, optF_some]
      simp) ?_
    refine seq_step (τ1 := [some (.d t.d), some (.cell st.length), some (.cell (st.length + 1)), some (.cell (st.length + 2)), none, none, none, none, none, none]) (st1 := st ++ [.dct true [], .lst [], .lst []]) (by
      simp only [x_set, v_lst, mns_nil, evs_nil, Res.bind_ok, fin_new, of_ok, setT_v, optF_some]
      simp) ?_
    refine seq_step (τ1 := [some (.d t.d), some (.cell st.length), some (.cell (st.length + 1)), some (.cell (st.length + 2)), some (.cell (st.length + 3)), none, none, none, none, none]) (st1 := S4) (by
      rw [hS4]
      simp only [x_set, v_lst, mns_nil, evs_nil, Res.bind_ok, fin_new, of_ok, setT_v, optF_some]
      simp) ?_
    refine seq_step (τ1 := vsD t.d st.length 0 none none none none) (st1 := S4) (by
      simp only [x_set, v_lit, of_ok, setT_v, optF_some]
      rfl) ?_
    refine seq_step (τ1 := vsD t.d st.length (0 + t.n) p6 p7 p8 p9) (st1 := S6) (by
      rw [x_for]
      simp only [i_val, v_call, mns_cons, mns_nil, evs_cons, evs_nil, v_var, varU_s, varU_0, Res.bind_ok, et, ia, sv, Res.opt_some, of_ok]
      rw [hS6]
      exact wk) ?_
    refine seq_ret ?_
    simp only [x_ret, v_lst, v_frz, v_idx, v_lit, mns_cons, mns_nil, evs_cons, evs_nil, v_var, varU_s, varU_0, Res.bind_ok, fz, it, Res.opt_some, ff, of_ok]
  show leave st.length (exs M0 st.length b_l_due_v4 [some (.d t.d), none, none, none, none, none, none, none, none, none] st) = _
  rw [body, hS7]
  exact leave_d _
end
end K
namespace K
open PySem Z
/- _law_right, 222 -/
def b_l_right_v14_c1 : LE :=
    (.var 7)
def b_l_right_v14_i1 : LEs :=
    (.cons (.pr (.isT .bool) false (.cons (.var 7) .nil)) .nil)
def b_l_right_v14_c2 : LE :=
    (.var 8)
def b_l_right_v14_c3 : LE :=
    (.var 9)
def b_l_right_v14_b1 : LSs :=
    (.cons (.set (.v 4) (.call 29 (.cons (.var 0) .nil)))
    (.cons (.set (.v 5) (.call 67 (.cons (.var 0) .nil)))
    (.cons (.ife (.bl .Or (.cons (.nt (.pr (.isT .int) false (.cons (.var 4) .nil))) (.cons (.pr (.isT .bool) false (.cons (.var 4) .nil)) (.cons (.cmp (.var 4) (.cons .NotEq (.var 3) .nil)) .nil)))) (.cons (.ret (.lit (.bool false)))
    .nil) .nil)
    (.cons (.ife (.bl .Or (.cons (.nt (.pr (.isT .dict) false (.cons (.var 5) .nil))) (.cons (.deq true (.var 5) (.var 2)) .nil))) (.cons (.ret (.lit (.bool false)))
    .nil) .nil)
    (.cons (.set (.v 6) (.lku 5 (.bop .Add false (.bop .Add false (.cp false [8, 9] b_l_right_v14_c2 (.t [(.v 8), (.v 9)]) (.val (.var 5)) .nil) (.cp false [8, 9] b_l_right_v14_c3 (.t [(.v 8), (.v 9)]) (.val (.var 5)) .nil)) (.lval false (.var 5)))))
    (.cons (.ife (.cmp (.cp false [7] b_l_right_v14_c1 (.v 7) (.val (.var 6)) b_l_right_v14_i1) (.cons .NotEq (.lst false .nil) .nil)) (.cons (.ret (.lit (.bool false)))
    .nil) .nil)
    (.cons (.expr (.me .clear false (.var 5) .nil))
    .nil)))))))
def b_l_right_v14 : LSs :=
    (.cons (.setl [(.v 2), (.v 3)] (.call 221 (.cons (.var 0) .nil)))
    (.cons (.forr (.v 1) (.rng (.cons (.lit (.int 2)) .nil)) b_l_right_v14_b1)
    (.cons (.ret (.lit (.bool true)))
    .nil)))
def F_l_right_v14 : Fn := ⟨1, 10, b_l_right_v14⟩
/- law, 223 -/
def b_law_v28_b2 : LSs :=
    (.cons (.ife (.nt (.call 222 (.cons (.call 10 (.cons (.var 2) (.cons (.call 8 (.cons (.var 2) (.cons (.bop .Add false (.lit (.int 1)) (.call 6 (.cons (.var 2) (.cons (.lit (.int 9)) .nil)))) .nil))) (.cons (.call 9 (.cons (.var 2) .nil)) .nil)))) .nil))) (.cons (.ret (.lit (.bool false)))
    .nil) .nil)
    .nil)
def b_law_v28_b1 : LSs :=
    (.cons (.set (.v 2) (.call 5 (.cons (.var 1) .nil)))
    (.cons (.forr (.v 3) (.rng (.cons (.lit (.int 3)) .nil)) b_law_v28_b2)
    .nil))
def b_law_v28 : LSs :=
    (.cons (.forr (.v 1) (.val (.bop .Add false (.lst false (.cons (.lit (.int 0)) .nil)) (.slc false (.var 0) .abs (.lit (.int 20))))) b_law_v28_b1)
    (.cons (.ret (.bl .And (.cons (.cmp (.call 29 (.cons (.tup (.cons (.lit (.str "-")) (.cons (.lit (.int 2)) (.cons (.tup (.cons (.lit (.str "*")) (.cons (.lit (.int 3)) (.cons (.tup (.cons (.lit (.str "+")) (.cons (.lit (.int 4)) (.cons (.neg (.lit (.int 5))) .nil)))) .nil)))) .nil)))) .nil)) (.cons .Eq (.lit (.int 5)) .nil)) (.cons (.deq false (.call 67 (.cons (.lit (.int 7)) .nil)) (.dispT false (.cons (.tup (.cons (.lit (.int 0)) (.cons (.lit (.int 0)) .nil))) (.cons (.lit (.int 7)) .nil)))) .nil))))
    .nil))
def F_law_v28 : Fn := ⟨1, 4, b_law_v28⟩
end K
namespace K
open PySem PySem.Spec PyProof.Rows L2 Z
def topS (i : Nat) : Stmt := PySem.Challenge.pw_putsigns_k08_worths_of_ways.main.body.getD i (.Pass ⟨0, 0, 0, 0⟩)
def d_is_whole : Def := ⟨0, "is_whole", "is_whole", false, topS 6, F_is_whole, ["thing"]⟩
def d_is_sign : Def := ⟨1, "is_sign", "is_sign", false, topS 7, F_is_sign, ["thing"]⟩
def d_count_in : Def := ⟨2, "count_in", "count_in", false, topS 8, F_count_in, ["thing", "left", "right"]⟩
def d_is_way : Def := ⟨3, "is_way", "is_way", false, topS 9, F_is_way, ["thing"]⟩
def d_need_way : Def := ⟨16, "need_way", "need_way", false, topS 10, F_need_way, ["thing"]⟩
def d_put : Def := ⟨27, "put", "put", false, topS 12, F_put, ["sign", "one", "other"]⟩
def d_worth_in : Def := ⟨28, "worth_in", "worth_in", false, topS 13, F_worth_in, ["way"]⟩
def d_worth_of : Def := ⟨29, "worth_of", "worth_of", false, topS 14, F_worth_of, ["way"]⟩
def d_put_worths : Def := ⟨66, "put_worths", "put_worths", false, topS 15, F_put_worths, ["way", "begin", "found"]⟩
def d_part_worths : Def := ⟨67, "part_worths", "part_worths", false, topS 16, F_part_worths, ["way", "found"]⟩
def d_l_mixed : Def := ⟨4, "_law_mixed", "_law_mixed", false, topS 18, F_l_mixed, ["cell", "k", "number"]⟩
def d_l_well : Def := ⟨5, "_law_well", "_law_well", false, topS 19, F_l_well, ["cell"]⟩
def d_l_draw : Def := ⟨6, "_law_draw", "_law_draw", false, topS 20, F_l_draw, ["well", "many", "got"]⟩
def d_l_number : Def := ⟨7, "_law_number", "_law_number", false, topS 21, F_l_number, ["well", "some"]⟩
def d_l_row : Def := ⟨8, "_law_row", "_law_row", false, topS 22, F_l_row, ["well", "many", "k"]⟩
def d_l_signs : Def := ⟨9, "_law_signs", "_law_signs", false, topS 23, F_l_signs, ["well"]⟩
def d_l_way : Def := ⟨10, "_law_way", "_law_way", false, topS 24, F_l_way, ["well", "row", "signs", "cut", "sign"]⟩
def d_l_tokens : Def := ⟨20, "_law_tokens", "_law_tokens", false, topS 25, F_l_tokens, ["way", "found", "waiting", "one"]⟩
def d_l_due_v4 : Def := ⟨221, "_law_due", "_law_due", false, topS 26, F_l_due_v4, ["way", "found", "worths", "signs", "opened", "many", "one", "other", "first", "sign"]⟩
def d_l_right_v14 : Def := ⟨222, "_law_right", "_law_right", false, topS 27, F_l_right_v14, ["way", "turn", "due", "worth", "found", "parts", "keys", "one", "i", "j"]⟩
def d_law_v28 : Def := ⟨223, "law", "law", false, topS 28, F_law_v28, ["script", "cell", "well", "turn"]⟩
def tab : List Def := d_is_whole :: d_is_sign :: d_count_in :: d_is_way :: d_need_way :: d_put :: d_worth_in :: d_worth_of :: d_put_worths :: d_part_worths :: d_l_mixed :: d_l_well :: d_l_draw :: d_l_number :: d_l_row :: d_l_signs :: d_l_way :: d_l_tokens :: d_l_due_v4 :: d_l_right_v14 :: d_law_v28 :: []
def lamd : List Def := []
theorem lamd_of {d : Def} (h : d ∈ tab) (hl : d.lam = true) : d ∈ lamd := by
  have q : d ∈ tab.filter (·.lam) := List.mem_filter.mpr ⟨h, hl⟩
  exact (show tab.filter (·.lam) = lamd from rfl) ▸ q
def names : List (Str × Nat) := ("is_whole", 0) :: ("is_sign", 1) :: ("count_in", 2) :: ("is_way", 3) :: ("need_way", 16) :: ("put", 27) :: ("worth_in", 28) :: ("worth_of", 29) :: ("put_worths", 66) :: ("part_worths", 67) :: ("_law_mixed", 4) :: ("_law_well", 5) :: ("_law_draw", 6) :: ("_law_number", 7) :: ("_law_row", 8) :: ("_law_signs", 9) :: ("_law_way", 10) :: ("_law_tokens", 20) :: ("_law_due", 221) :: ("_law_right", 222) :: ("law", 223) :: []
def consts : List (Str × Nat) := [("SIGNS", 0), ("MOST_NUMBERS", 1)]
def dicts : List (Str × Nat) := []
def frees : List Str := ["bool", "dict", "int", "isinstance", "len", "list", "range", "str", "tuple"]
def classes : List (Str × Nat) := [("NoWay", 3)]
def raised : List Nat := [3]
def className : Nat → Option Str
  | 3 => some "NoWay"
  | _ => none
def glob : Glob := ⟨fun x => names.lookup x, fun x => consts.lookup x, fun x => frees.contains x, fun x => dicts.lookup x, fun x => classes.lookup x, className, fun c => raised.contains c, false⟩
def con : Nat → Option PyData
  | 0 => some (.str "+-*")
  | 1 => some (.int 9)
  | _ => none
theorem chk_all : ∀ d ∈ tab, chkD glob d = true := by decide +kernel
theorem mdl {K : PySem.W.Frag} {w : World} {h : Heap} {mg : Str → Option Value} (X : K.In h) (G : h.Ns mainGlobals mg)
    {od0 an0 : Option Addr} {sl0 : Array (Option Value)} {oc0 kV0 dc0 pm0 cd0 ct0 : Value} {f0 : Addr}
    (a0 : PySem.W.nsIn K mainGlobals "is_whole" = some (some (.ref f0))) (l0 : K.lookup f0 = some ⟨oc0, od0, .func (PySem.W.fnOf "is_whole" "is_whole" (defArgs (topS 6)) (defBody (topS 6)) (defScope (topS 6)) .none kV0 dc0 pm0 an0 cd0 ct0), sl0⟩) (c0 : PySem.W.codeIn K cd0 "is_whole" = true) (k0 : PySem.W.keepIn K (.ref f0) = true)
    {od1 an1 : Option Addr} {sl1 : Array (Option Value)} {oc1 kV1 dc1 pm1 cd1 ct1 : Value} {f1 : Addr}
    (a1 : PySem.W.nsIn K mainGlobals "is_sign" = some (some (.ref f1))) (l1 : K.lookup f1 = some ⟨oc1, od1, .func (PySem.W.fnOf "is_sign" "is_sign" (defArgs (topS 7)) (defBody (topS 7)) (defScope (topS 7)) .none kV1 dc1 pm1 an1 cd1 ct1), sl1⟩) (c1 : PySem.W.codeIn K cd1 "is_sign" = true) (k1 : PySem.W.keepIn K (.ref f1) = true)
    {od2 an2 : Option Addr} {sl2 : Array (Option Value)} {oc2 kV2 dc2 pm2 cd2 ct2 : Value} {f2 : Addr}
    (a2 : PySem.W.nsIn K mainGlobals "count_in" = some (some (.ref f2))) (l2 : K.lookup f2 = some ⟨oc2, od2, .func (PySem.W.fnOf "count_in" "count_in" (defArgs (topS 8)) (defBody (topS 8)) (defScope (topS 8)) .none kV2 dc2 pm2 an2 cd2 ct2), sl2⟩) (c2 : PySem.W.codeIn K cd2 "count_in" = true) (k2 : PySem.W.keepIn K (.ref f2) = true)
    {od3 an3 : Option Addr} {sl3 : Array (Option Value)} {oc3 kV3 dc3 pm3 cd3 ct3 : Value} {f3 : Addr}
    (a3 : PySem.W.nsIn K mainGlobals "is_way" = some (some (.ref f3))) (l3 : K.lookup f3 = some ⟨oc3, od3, .func (PySem.W.fnOf "is_way" "is_way" (defArgs (topS 9)) (defBody (topS 9)) (defScope (topS 9)) .none kV3 dc3 pm3 an3 cd3 ct3), sl3⟩) (c3 : PySem.W.codeIn K cd3 "is_way" = true) (k3 : PySem.W.keepIn K (.ref f3) = true)
    {od4 an4 : Option Addr} {sl4 : Array (Option Value)} {oc4 kV4 dc4 pm4 cd4 ct4 : Value} {f4 : Addr}
    (a4 : PySem.W.nsIn K mainGlobals "need_way" = some (some (.ref f4))) (l4 : K.lookup f4 = some ⟨oc4, od4, .func (PySem.W.fnOf "need_way" "need_way" (defArgs (topS 10)) (defBody (topS 10)) (defScope (topS 10)) .none kV4 dc4 pm4 an4 cd4 ct4), sl4⟩) (c4 : PySem.W.codeIn K cd4 "need_way" = true) (k4 : PySem.W.keepIn K (.ref f4) = true)
    {od5 an5 : Option Addr} {sl5 : Array (Option Value)} {oc5 kV5 dc5 pm5 cd5 ct5 : Value} {f5 : Addr}
    (a5 : PySem.W.nsIn K mainGlobals "put" = some (some (.ref f5))) (l5 : K.lookup f5 = some ⟨oc5, od5, .func (PySem.W.fnOf "put" "put" (defArgs (topS 12)) (defBody (topS 12)) (defScope (topS 12)) .none kV5 dc5 pm5 an5 cd5 ct5), sl5⟩) (c5 : PySem.W.codeIn K cd5 "put" = true) (k5 : PySem.W.keepIn K (.ref f5) = true)
    {od6 an6 : Option Addr} {sl6 : Array (Option Value)} {oc6 kV6 dc6 pm6 cd6 ct6 : Value} {f6 : Addr}
    (a6 : PySem.W.nsIn K mainGlobals "worth_in" = some (some (.ref f6))) (l6 : K.lookup f6 = some ⟨oc6, od6, .func (PySem.W.fnOf "worth_in" "worth_in" (defArgs (topS 13)) (defBody (topS 13)) (defScope (topS 13)) .none kV6 dc6 pm6 an6 cd6 ct6), sl6⟩) (c6 : PySem.W.codeIn K cd6 "worth_in" = true) (k6 : PySem.W.keepIn K (.ref f6) = true)
    {od7 an7 : Option Addr} {sl7 : Array (Option Value)} {oc7 kV7 dc7 pm7 cd7 ct7 : Value} {f7 : Addr}
    (a7 : PySem.W.nsIn K mainGlobals "worth_of" = some (some (.ref f7))) (l7 : K.lookup f7 = some ⟨oc7, od7, .func (PySem.W.fnOf "worth_of" "worth_of" (defArgs (topS 14)) (defBody (topS 14)) (defScope (topS 14)) .none kV7 dc7 pm7 an7 cd7 ct7), sl7⟩) (c7 : PySem.W.codeIn K cd7 "worth_of" = true) (k7 : PySem.W.keepIn K (.ref f7) = true)
    {od8 an8 : Option Addr} {sl8 : Array (Option Value)} {oc8 kV8 dc8 pm8 cd8 ct8 : Value} {f8 : Addr}
    (a8 : PySem.W.nsIn K mainGlobals "put_worths" = some (some (.ref f8))) (l8 : K.lookup f8 = some ⟨oc8, od8, .func (PySem.W.fnOf "put_worths" "put_worths" (defArgs (topS 15)) (defBody (topS 15)) (defScope (topS 15)) .none kV8 dc8 pm8 an8 cd8 ct8), sl8⟩) (c8 : PySem.W.codeIn K cd8 "put_worths" = true) (k8 : PySem.W.keepIn K (.ref f8) = true)
    {od9 an9 : Option Addr} {sl9 : Array (Option Value)} {oc9 kV9 dc9 pm9 cd9 ct9 : Value} {f9 : Addr}
    (a9 : PySem.W.nsIn K mainGlobals "part_worths" = some (some (.ref f9))) (l9 : K.lookup f9 = some ⟨oc9, od9, .func (PySem.W.fnOf "part_worths" "part_worths" (defArgs (topS 16)) (defBody (topS 16)) (defScope (topS 16)) .none kV9 dc9 pm9 an9 cd9 ct9), sl9⟩) (c9 : PySem.W.codeIn K cd9 "part_worths" = true) (k9 : PySem.W.keepIn K (.ref f9) = true)
    {od10 an10 : Option Addr} {sl10 : Array (Option Value)} {oc10 kV10 dc10 pm10 cd10 ct10 : Value} {f10 : Addr}
    (a10 : PySem.W.nsIn K mainGlobals "_law_mixed" = some (some (.ref f10))) (l10 : K.lookup f10 = some ⟨oc10, od10, .func (PySem.W.fnOf "_law_mixed" "_law_mixed" (defArgs (topS 18)) (defBody (topS 18)) (defScope (topS 18)) .none kV10 dc10 pm10 an10 cd10 ct10), sl10⟩) (c10 : PySem.W.codeIn K cd10 "_law_mixed" = true) (k10 : PySem.W.keepIn K (.ref f10) = true)
    {od11 an11 : Option Addr} {sl11 : Array (Option Value)} {oc11 kV11 dc11 pm11 cd11 ct11 : Value} {f11 : Addr}
    (a11 : PySem.W.nsIn K mainGlobals "_law_well" = some (some (.ref f11))) (l11 : K.lookup f11 = some ⟨oc11, od11, .func (PySem.W.fnOf "_law_well" "_law_well" (defArgs (topS 19)) (defBody (topS 19)) (defScope (topS 19)) .none kV11 dc11 pm11 an11 cd11 ct11), sl11⟩) (c11 : PySem.W.codeIn K cd11 "_law_well" = true) (k11 : PySem.W.keepIn K (.ref f11) = true)
    {od12 an12 : Option Addr} {sl12 : Array (Option Value)} {oc12 kV12 dc12 pm12 cd12 ct12 : Value} {f12 : Addr}
    (a12 : PySem.W.nsIn K mainGlobals "_law_draw" = some (some (.ref f12))) (l12 : K.lookup f12 = some ⟨oc12, od12, .func (PySem.W.fnOf "_law_draw" "_law_draw" (defArgs (topS 20)) (defBody (topS 20)) (defScope (topS 20)) .none kV12 dc12 pm12 an12 cd12 ct12), sl12⟩) (c12 : PySem.W.codeIn K cd12 "_law_draw" = true) (k12 : PySem.W.keepIn K (.ref f12) = true)
    {od13 an13 : Option Addr} {sl13 : Array (Option Value)} {oc13 kV13 dc13 pm13 cd13 ct13 : Value} {f13 : Addr}
    (a13 : PySem.W.nsIn K mainGlobals "_law_number" = some (some (.ref f13))) (l13 : K.lookup f13 = some ⟨oc13, od13, .func (PySem.W.fnOf "_law_number" "_law_number" (defArgs (topS 21)) (defBody (topS 21)) (defScope (topS 21)) .none kV13 dc13 pm13 an13 cd13 ct13), sl13⟩) (c13 : PySem.W.codeIn K cd13 "_law_number" = true) (k13 : PySem.W.keepIn K (.ref f13) = true)
    {od14 an14 : Option Addr} {sl14 : Array (Option Value)} {oc14 kV14 dc14 pm14 cd14 ct14 : Value} {f14 : Addr}
    (a14 : PySem.W.nsIn K mainGlobals "_law_row" = some (some (.ref f14))) (l14 : K.lookup f14 = some ⟨oc14, od14, .func (PySem.W.fnOf "_law_row" "_law_row" (defArgs (topS 22)) (defBody (topS 22)) (defScope (topS 22)) .none kV14 dc14 pm14 an14 cd14 ct14), sl14⟩) (c14 : PySem.W.codeIn K cd14 "_law_row" = true) (k14 : PySem.W.keepIn K (.ref f14) = true)
    {od15 an15 : Option Addr} {sl15 : Array (Option Value)} {oc15 kV15 dc15 pm15 cd15 ct15 : Value} {f15 : Addr}
    (a15 : PySem.W.nsIn K mainGlobals "_law_signs" = some (some (.ref f15))) (l15 : K.lookup f15 = some ⟨oc15, od15, .func (PySem.W.fnOf "_law_signs" "_law_signs" (defArgs (topS 23)) (defBody (topS 23)) (defScope (topS 23)) .none kV15 dc15 pm15 an15 cd15 ct15), sl15⟩) (c15 : PySem.W.codeIn K cd15 "_law_signs" = true) (k15 : PySem.W.keepIn K (.ref f15) = true)
    {od16 an16 : Option Addr} {sl16 : Array (Option Value)} {oc16 kV16 dc16 pm16 cd16 ct16 : Value} {f16 : Addr}
    (a16 : PySem.W.nsIn K mainGlobals "_law_way" = some (some (.ref f16))) (l16 : K.lookup f16 = some ⟨oc16, od16, .func (PySem.W.fnOf "_law_way" "_law_way" (defArgs (topS 24)) (defBody (topS 24)) (defScope (topS 24)) .none kV16 dc16 pm16 an16 cd16 ct16), sl16⟩) (c16 : PySem.W.codeIn K cd16 "_law_way" = true) (k16 : PySem.W.keepIn K (.ref f16) = true)
    {od17 an17 : Option Addr} {sl17 : Array (Option Value)} {oc17 kV17 dc17 pm17 cd17 ct17 : Value} {f17 : Addr}
    (a17 : PySem.W.nsIn K mainGlobals "_law_tokens" = some (some (.ref f17))) (l17 : K.lookup f17 = some ⟨oc17, od17, .func (PySem.W.fnOf "_law_tokens" "_law_tokens" (defArgs (topS 25)) (defBody (topS 25)) (defScope (topS 25)) .none kV17 dc17 pm17 an17 cd17 ct17), sl17⟩) (c17 : PySem.W.codeIn K cd17 "_law_tokens" = true) (k17 : PySem.W.keepIn K (.ref f17) = true)
    {od18 an18 : Option Addr} {sl18 : Array (Option Value)} {oc18 kV18 dc18 pm18 cd18 ct18 : Value} {f18 : Addr}
    (a18 : PySem.W.nsIn K mainGlobals "_law_due" = some (some (.ref f18))) (l18 : K.lookup f18 = some ⟨oc18, od18, .func (PySem.W.fnOf "_law_due" "_law_due" (defArgs (topS 26)) (defBody (topS 26)) (defScope (topS 26)) .none kV18 dc18 pm18 an18 cd18 ct18), sl18⟩) (c18 : PySem.W.codeIn K cd18 "_law_due" = true) (k18 : PySem.W.keepIn K (.ref f18) = true)
    {od19 an19 : Option Addr} {sl19 : Array (Option Value)} {oc19 kV19 dc19 pm19 cd19 ct19 : Value} {f19 : Addr}
    (a19 : PySem.W.nsIn K mainGlobals "_law_right" = some (some (.ref f19))) (l19 : K.lookup f19 = some ⟨oc19, od19, .func (PySem.W.fnOf "_law_right" "_law_right" (defArgs (topS 27)) (defBody (topS 27)) (defScope (topS 27)) .none kV19 dc19 pm19 an19 cd19 ct19), sl19⟩) (c19 : PySem.W.codeIn K cd19 "_law_right" = true) (k19 : PySem.W.keepIn K (.ref f19) = true)
    {od20 an20 : Option Addr} {sl20 : Array (Option Value)} {oc20 kV20 dc20 pm20 cd20 ct20 : Value} {f20 : Addr}
    (a20 : PySem.W.nsIn K mainGlobals "law" = some (some (.ref f20))) (l20 : K.lookup f20 = some ⟨oc20, od20, .func (PySem.W.fnOf "law" "law" (defArgs (topS 28)) (defBody (topS 28)) (defScope (topS 28)) .none kV20 dc20 pm20 an20 cd20 ct20), sl20⟩) (c20 : PySem.W.codeIn K cd20 "law" = true) (k20 : PySem.W.keepIn K (.ref f20) = true)
    (z0 : PySem.W.nsIn K mainGlobals "bool" = some none)
    (z1 : PySem.W.nsIn K mainGlobals "dict" = some none)
    (z2 : PySem.W.nsIn K mainGlobals "int" = some none)
    (z3 : PySem.W.nsIn K mainGlobals "isinstance" = some none)
    (z4 : PySem.W.nsIn K mainGlobals "len" = some none)
    (z5 : PySem.W.nsIn K mainGlobals "list" = some none)
    (z6 : PySem.W.nsIn K mainGlobals "range" = some none)
    (z7 : PySem.W.nsIn K mainGlobals "str" = some none)
    (z8 : PySem.W.nsIn K mainGlobals "tuple" = some none)
    {t0 : Tok} (g0 : PySem.W.nsIn K mainGlobals "SIGNS" = some (some (.str "+-*" t0)))
    {t1 : Tok} (g1 : PySem.W.nsIn K mainGlobals "MOST_NUMBERS" = some (some (.int 9 t1)))
    {ca3 : Addr} (cg3 : PySem.W.nsIn K mainGlobals "NoWay" = some (some (.ref ca3))) (xt3 : PySem.W.typeIn K (.ref ca3) = some (.type "type")) (ed3 : PySem.W.hasDictIn K ca3 = true)
    (xq3 : PySem.W.excIn K ca3 [.type "ValueError", .type "Exception", .type "BaseException", .type "object"] "ValueError.__new__" = true) (xk3 : PySem.W.keepIn K (.ref ca3) = true) (xb3 : PySem.W.subIn K (.ref ca3) (.type "BaseException") = some true) (xv3 : PySem.W.subIn K (.ref ca3) (.type "ValueError") = some true)
    (ea3 : PySem.W.findIn K (.ref ca3) "__getattribute__" = some (some (.builtin "BaseException.__getattribute__"))) (eb3 : PySem.W.findIn K (.ref ca3) "__getattr__" = some none) (ee3 : PySem.W.findIn K (.ref ca3) "__class__" = some (some (.builtin "object.__class__"))) (ef3 : PySem.W.specialIn K (.builtin "object.__class__") "__get__" = some (some (.builtin "getset_descriptor.__get__"))) (eg3 : PySem.W.takesIn K (.builtin "object.__class__") = some true) (eh3 : PySem.W.mroIn K ca3 (.type "object") = some true)
    (kp3_3 : PySem.W.subIn K (.ref ca3) (.ref ca3) = some true) :
    Mdl glob tab con K w mg ∧ TbOk K tab := by
  have ad3 : ∀ x a, className 3 = some x → mg x = some (.ref a) → a = ca3 := fun x a hx hy => by
    cases (show some ("NoWay" : Str) = some x from hx)
    have z := PySem.W.mg_of X G cg3
    rw [hy] at z
    cases z; rfl
  refine ⟨?_, ?_⟩
  rotate_left
  · refine ⟨fun d hd hl => ?_, fun d hd d2 hd2 hl hl2 he => ?_⟩
    · have hd : d ∈ lamd := lamd_of hd hl
      simp only [lamd, List.mem_cons, List.not_mem_nil, or_false] at hd
    · have hd : d ∈ lamd := lamd_of hd hl
      have hd2 : d2 ∈ lamd := lamd_of hd2 hl2
      simp only [lamd, List.mem_cons, List.not_mem_nil, or_false] at hd hd2
  refine ⟨fun x n e => ?_, fun y d e => ?_, fun k a e => ?_, fun y b0 e hb k a e2 => ?_, fun x n e => ?_, fun x e => ?_, fun x f e => ?_, fun f d e => ?_, chk_all⟩
  · have q := lookup_mem (show dicts.lookup x = some n from e)
    cases q
  · have q := lookup_mem (show classes.lookup y = some d from e)
    simp only [classes, List.mem_cons, Prod.mk.injEq, List.not_mem_nil, or_false] at q
    rcases q with ⟨rfl, rfl⟩
    · refine ⟨rfl, ca3, PySem.W.mg_of X G cg3, fun k a e3 => ?_⟩
      obtain ⟨x, hr, hx, hy⟩ := caOf_inv e3
      have hk : k ∈ raised := by simpa using (show raised.contains k = true from hr)
      simp only [raised, List.mem_cons, List.not_mem_nil, or_false] at hk
      rcases hk with rfl
      · cases ad3 x a hx hy; exact kit_ref ed3 xt3 kp3_3 kp3_3
  · obtain ⟨x, hr, hx, hy⟩ := caOf_inv e
    have hk : k ∈ raised := by simpa using (show raised.contains k = true from hr)
    simp only [raised, List.mem_cons, List.not_mem_nil, or_false] at hk
    rcases hk with rfl
    · cases ad3 x a hx hy; exact ⟨xq3, xk3, xb3, xt3, ⟨ea3, eb3, xb3, ed3, ee3, ef3, eg3, eh3⟩, kit_val xv3⟩
  · have q := lookup_mem (show classes.lookup y = some 0 from e)
    simp only [classes, List.mem_cons, Prod.mk.injEq, List.not_mem_nil, or_false] at q
    rcases q with ⟨h, z⟩
    · cases z
  · have q := lookup_mem (show consts.lookup x = some n from e)
    simp only [consts, List.mem_cons, Prod.mk.injEq, List.not_mem_nil, or_false] at q
    rcases q with ⟨rfl, rfl⟩ | ⟨rfl, rfl⟩
    · exact ⟨_, PySem.W.mg_of X G g0, fun y e => by cases e; exact ⟨.str _, ⟨t0, rfl⟩, fun H => .str _⟩⟩
    · exact ⟨_, PySem.W.mg_of X G g1, fun y e => by cases e; exact ⟨.int _, ⟨t1, rfl⟩, fun H => .int _⟩⟩
  · have q : x ∈ frees := by simpa using (show frees.contains x = true from e)
    simp only [frees, List.mem_cons, List.not_mem_nil, or_false] at q
    rcases q with rfl | rfl | rfl | rfl | rfl | rfl | rfl | rfl | rfl
    · exact PySem.W.mg_none_of X G z0
    · exact PySem.W.mg_none_of X G z1
    · exact PySem.W.mg_none_of X G z2
    · exact PySem.W.mg_none_of X G z3
    · exact PySem.W.mg_none_of X G z4
    · exact PySem.W.mg_none_of X G z5
    · exact PySem.W.mg_none_of X G z6
    · exact PySem.W.mg_none_of X G z7
    · exact PySem.W.mg_none_of X G z8
  · have q := lookup_mem (show names.lookup x = some f from e)
    simp only [names, List.mem_cons, Prod.mk.injEq, List.not_mem_nil, or_false] at q
    rcases q with ⟨rfl, rfl⟩ | ⟨rfl, rfl⟩ | ⟨rfl, rfl⟩ | ⟨rfl, rfl⟩ | ⟨rfl, rfl⟩ | ⟨rfl, rfl⟩ | ⟨rfl, rfl⟩ | ⟨rfl, rfl⟩ | ⟨rfl, rfl⟩ | ⟨rfl, rfl⟩ | ⟨rfl, rfl⟩ | ⟨rfl, rfl⟩ | ⟨rfl, rfl⟩ | ⟨rfl, rfl⟩ | ⟨rfl, rfl⟩ | ⟨rfl, rfl⟩ | ⟨rfl, rfl⟩ | ⟨rfl, rfl⟩ | ⟨rfl, rfl⟩ | ⟨rfl, rfl⟩ | ⟨rfl, rfl⟩
    · exact ⟨d_is_whole, rfl, rfl⟩
    · exact ⟨d_is_sign, rfl, rfl⟩
    · exact ⟨d_count_in, rfl, rfl⟩
    · exact ⟨d_is_way, rfl, rfl⟩
    · exact ⟨d_need_way, rfl, rfl⟩
    · exact ⟨d_put, rfl, rfl⟩
    · exact ⟨d_worth_in, rfl, rfl⟩
    · exact ⟨d_worth_of, rfl, rfl⟩
    · exact ⟨d_put_worths, rfl, rfl⟩
    · exact ⟨d_part_worths, rfl, rfl⟩
    · exact ⟨d_l_mixed, rfl, rfl⟩
    · exact ⟨d_l_well, rfl, rfl⟩
    · exact ⟨d_l_draw, rfl, rfl⟩
    · exact ⟨d_l_number, rfl, rfl⟩
    · exact ⟨d_l_row, rfl, rfl⟩
    · exact ⟨d_l_signs, rfl, rfl⟩
    · exact ⟨d_l_way, rfl, rfl⟩
    · exact ⟨d_l_tokens, rfl, rfl⟩
    · exact ⟨d_l_due_v4, rfl, rfl⟩
    · exact ⟨d_l_right_v14, rfl, rfl⟩
    · exact ⟨d_law_v28, rfl, rfl⟩
  · have q := getD_mem e
    simp only [tab, List.mem_cons, List.not_mem_nil, or_false] at q
    clear e
    rcases q with rfl | rfl | rfl | rfl | rfl | rfl | rfl | rfl | rfl | rfl | rfl | rfl | rfl | rfl | rfl | rfl | rfl | rfl | rfl | rfl | rfl
    · exact ⟨f0, _, PySem.W.mg_of X G a0, fun_mk (st := topS 6) l0 c0 k0⟩
    · exact ⟨f1, _, PySem.W.mg_of X G a1, fun_mk (st := topS 7) l1 c1 k1⟩
    · exact ⟨f2, _, PySem.W.mg_of X G a2, fun_mk (st := topS 8) l2 c2 k2⟩
    · exact ⟨f3, _, PySem.W.mg_of X G a3, fun_mk (st := topS 9) l3 c3 k3⟩
    · exact ⟨f4, _, PySem.W.mg_of X G a4, fun_mk (st := topS 10) l4 c4 k4⟩
    · exact ⟨f5, _, PySem.W.mg_of X G a5, fun_mk (st := topS 12) l5 c5 k5⟩
    · exact ⟨f6, _, PySem.W.mg_of X G a6, fun_mk (st := topS 13) l6 c6 k6⟩
    · exact ⟨f7, _, PySem.W.mg_of X G a7, fun_mk (st := topS 14) l7 c7 k7⟩
    · exact ⟨f8, _, PySem.W.mg_of X G a8, fun_mk (st := topS 15) l8 c8 k8⟩
    · exact ⟨f9, _, PySem.W.mg_of X G a9, fun_mk (st := topS 16) l9 c9 k9⟩
    · exact ⟨f10, _, PySem.W.mg_of X G a10, fun_mk (st := topS 18) l10 c10 k10⟩
    · exact ⟨f11, _, PySem.W.mg_of X G a11, fun_mk (st := topS 19) l11 c11 k11⟩
    · exact ⟨f12, _, PySem.W.mg_of X G a12, fun_mk (st := topS 20) l12 c12 k12⟩
    · exact ⟨f13, _, PySem.W.mg_of X G a13, fun_mk (st := topS 21) l13 c13 k13⟩
    · exact ⟨f14, _, PySem.W.mg_of X G a14, fun_mk (st := topS 22) l14 c14 k14⟩
    · exact ⟨f15, _, PySem.W.mg_of X G a15, fun_mk (st := topS 23) l15 c15 k15⟩
    · exact ⟨f16, _, PySem.W.mg_of X G a16, fun_mk (st := topS 24) l16 c16 k16⟩
    · exact ⟨f17, _, PySem.W.mg_of X G a17, fun_mk (st := topS 25) l17 c17 k17⟩
    · exact ⟨f18, _, PySem.W.mg_of X G a18, fun_mk (st := topS 26) l18 c18 k18⟩
    · exact ⟨f19, _, PySem.W.mg_of X G a19, fun_mk (st := topS 27) l19 c19 k19⟩
    · exact ⟨f20, _, PySem.W.mg_of X G a20, fun_mk (st := topS 28) l20 c20 k20⟩
end K
namespace K
open PySem Z
def depth : Nat := 200
def fuel : Nat := 100000000
noncomputable abbrev R (n f : Nat) (us : List U) (st : Store) : Res U := run (tbl tab) con fuel n f us st
theorem hWo : HWo (tbl tab) con := ⟨⟨⟨rfl, rfl, rfl, rfl, rfl, rfl⟩, rfl⟩, rfl, rfl, rfl⟩
theorem h20 : tbl tab 20 = some F_l_tokens := rfl
theorem h66 : tbl tab 66 = some F_put_worths := rfl
theorem h67 : tbl tab 67 = some F_part_worths := rfl
theorem h221 : tbl tab 221 = some F_l_due_v4 := rfl
theorem h222 : tbl tab 222 = some F_l_right_v14 := rfl
theorem h223 : tbl tab 223 = some F_law_v28 := rfl
theorem dctT_kv (st : Store) {L : List ((Nat × Nat) × Int)} (h : L ≠ []) : dctT st (.d (.dict (kvT L))) = some (L.map entW) := by
  cases L with
  | nil => exact absurd rfl h
  | cons p r =>
    show some ((kvT (p :: r)).map fun kv => (kv.1, U.d kv.2)) = _
    simp [kvT, entW]
theorem eqW_pl {L' : List ((Nat × Nat) × Int)} (nd : (L'.map (·.1)).Nodup) : ∀ r : List ((Nat × Nat) × Int), (∀ p ∈ r, p ∈ L') → eqW (L'.map entW) (r.map entW) = some true
  | [], _ => rfl
  | p :: r, hr => by
    have g := get_pl nd (hr p List.mem_cons_self)
    have ih := eqW_pl nd r fun q hq => hr q (List.mem_cons_of_mem _ hq)
    have ev : chk (eqOk (.int p.2) (.int p.2)) ((PyData.int p.2).eqv (.int p.2)) = some true := by
      have h := deq_self (x := .int p.2) rfl
      exact h
    show eqW (L'.map entW) (entW p :: r.map entW) = _
    rw [show entW p = ((entW p).1, U.d (.int p.2)) from rfl]
    unfold eqW
    rw [unT_ent, Option.bind_some, g]
    dsimp only [U.tree]
    rw [Option.bind_some, Option.bind_some, ev, Option.bind_some, if_pos rfl, ih]
theorem eq_pl {L L' : List ((Nat × Nat) × Int)} (p : L.Perm L') (nd : (L'.map (·.1)).Nodup) (h0 : L' ≠ []) {st : Store} {c : Nat} (h : st[c]? = some (.dct true (L.map entW))) : eqDct st (.cell c) (.d (.dict (kvT L'))) = some true := by
  have e1 : dctT st (.cell c) = some (L.map entW) := by simp [dctT, h]
  unfold eqDct
  rw [e1, dctT_kv st h0, Option.bind_some, Option.bind_some, if_pos (by simp [p.length_eq]), eqW_pl nd L fun q hq => p.mem_iff.mp hq]
theorem ndDs_ints : ∀ l : List Int, ndDs (l.map .int) = true
  | [] => rfl
  | _ :: r => ndDs_ints r
/-- one turn -/
theorem turn {M0 : Mach} {t : Tr} {B : Nat} (wy : Wy (B + 1) t) {st gs : Store} (nd : ndS (st ++ gs) = true)
    (e1 : M0.call 29 [.d t.d] (st ++ gs) = .ok (.d (.int t.worth)) (st ++ gs)) (e2 : M0.call 67 [.d t.d] (st ++ gs) = .ok (.cell (st ++ gs).length) (st ++ gs ++ [.dct true ((t.wl 0).map entW)]))
    (t1 t4 t5 t6 : Option U) :
    ∃ (u4 u5 u6 : Option U) (gs' : Store), exs M0 st.length b_l_right_v14_b1 [some (.d t.d), t1, some (.d (.dict (kvT (t.wp 0)))), some (.d (.int t.worth)), t4, t5, t6, none, none, none] (st ++ gs) =
      .nx [some (.d t.d), t1, some (.d (.dict (kvT (t.wp 0)))), some (.d (.int t.worth)), u4, u5, u6, none, none, none] (st ++ gs') ∧ ndS (st ++ gs') = true := by
  obtain ⟨L, hL⟩ : ∃ L, L = t.wl 0 := ⟨_, rfl⟩
  have tn := wy.n
  have wll := wl_len t 0
  have Ll : L.length ≤ 20 := by rw [hL]; omega
  rw [← hL] at e2
  obtain ⟨c, hc⟩ : ∃ c, c = (st ++ gs).length := ⟨_, rfl⟩
  obtain ⟨S1, hS1⟩ : ∃ S1 : Store, S1 = st ++ gs ++ [.dct true (L.map entW)] := ⟨_, rfl⟩
  rw [← hc, ← hS1] at e2
  have nk : ((L.map entW).all fun kv => ndU kv.2) = true := by
    rw [List.all_eq_true]
    intro kv hk
    obtain ⟨p, _, rfl⟩ := List.mem_map.mp hk
    rfl
  have nd1 : ndS S1 = true := by rw [hS1]; exact nd_app nd (show ndC (.dct true (L.map entW)) = true from nk)
  have own : S1[c]? = some (.dct true (L.map entW)) := by rw [hS1, hc]; simp
  have i1 : (Res.ok (U.d (.int t.worth)) (st ++ gs)).inner st.length (st ++ gs) = .ok (U.d (.int t.worth)) (st ++ gs) := inner_same _ _ _
  have i2 : (Res.ok (U.cell c) S1).inner st.length (st ++ gs) = .ok (U.cell c) S1 := by
    rw [hS1]
    exact inner_app _ _ (by simp)
  have tr : ∀ (S : Store) (b : Bool), truth S (.d (.bool b)) = some b := fun _ _ => rfl
  have ty : isTy S1 .dict (.cell c) = some true := by simp [isTy, own]
  have w0 : t.wp 0 ≠ [] := fun z => by
    have := wp_len t 0
    rw [z] at this
    have := t.n_pos
    simp at *
    omega
  have eq := eq_pl (hL ▸ (wp_wl t 0).symm) (wp_nd t 0) w0 own
  have cn : cmpop .NotEq S1 (.d (.int t.worth)) (.d (.int t.worth)) = some false := by rw [cmp_ne]; simp
  -- locked
  obtain ⟨S2, hS2⟩ : ∃ S2 : Store, S2 = S1.set c (.fdct true (L.map entW)) := ⟨_, rfl⟩
  have own2 : S2[c]? = some (.fdct true (L.map entW)) := by rw [hS2]; exact List.getElem?_set_self (List.getElem?_eq_some_iff.mp own).1
  have nd2 : ndS S2 = true := by rw [hS2]; exact nd_set nd1 (show ndC (.fdct true (L.map entW)) = true from nk) c
  have ul := unlS_at nd2 own2
  rw [show S2.set c (.dct true (L.map entW)) = S1 by rw [hS2]; exact set_self own] at ul
  obtain ⟨τ, hτ⟩ : ∃ τ : Vars, τ = [some (.d t.d), t1, some (.d (.dict (kvT (t.wp 0)))), some (.d (.int t.worth)), some (.d (.int t.worth)), some (.cell c), t6, none, none, none] := ⟨_, rfl⟩
  have v5 : τ[5]? = some (some (.cell c)) := by rw [hτ]; rfl
  have lk : lkAt τ S1 5 = some (c, true, L.map entW) := by simp [lkAt, v5, dctAt, own]
  have kd : (L.map entW).map (fun kv => U.d kv.1) = ofD (L.map fun p => (PyData.tuple [.int (p.1.1 : Int), .int (p.1.2 : Int)])) := by simp [ofD, entW]
  have sv : srcVal S2 (.cell c) = some ⟨[], ofD (L.map fun p => (PyData.tuple [.int (p.1.1 : Int), .int (p.1.2 : Int)]))⟩ := by
    rw [← kd]
    simp [srcVal, srcLst, fzOf, own2]
  have wp8 : wipeV τ [8, 9] = τ := by rw [hτ]; rfl
  have cpk : ∀ (e : LE) (k : Nat) (f : (Nat × Nat) → Int), (∀ (i j : Int) (S : Store), (mn M0 st.length e).val ((τ.set 8 (some (.d (.int i)))).set 9 (some (.d (.int j)))) S = .ok (.d (.int (if k = 8 then i else j))) S) → (∀ p : Nat × Nat, f p = if k = 8 then (p.1 : Int) else (p.2 : Int)) →
      (mn M0 st.length (.cp false [8, 9] e (.t [(.v 8), (.v 9)]) (.val (.var 5)) .nil)).val τ S2 = .ok (.d (.list ((L.map fun p => f p.1).map .int))) S2 := fun e k f he hf => by
    have comp := compL_pure (us := L.map fun p => (PyData.tuple [.int (p.1.1 : Int), .int (p.1.2 : Int)])) (st := S2) (step := fun u st3 => Res.opt (setT (.t [(.v 8), (.v 9)]) u (wipeV τ [8, 9])) fun τ1 => (evA [] τ1 st3).bind fun b st4 =>
      if b then ((mn M0 st.length e).val τ1 st4).bind fun x st5 => .ok (some x) st5 else .ok none st4) (fun z => match z with
        | .tuple [.int i, .int j] => some (.int (if k = 8 then i else j))
        | _ => none) (fun z hz => by
          obtain ⟨p, _, rfl⟩ := List.mem_map.mp hz
          rw [setT_pair, wp8]
          simp only [Res.opt_some, evA_nil, Res.bind_ok, if_true, he]
          rfl) (by simp; omega)
    rw [v_cp]
    unfold compU
    have si : mi M0 st.length (.val (.var 5)) τ S2 = .ok ⟨[], ofD (L.map fun p => (PyData.tuple [.int (p.1.1 : Int), .int (p.1.2 : Int)]))⟩ S2 := by
      simp only [i_val, v_var, varU, v5, Res.bind_ok, sv, Res.opt_some]
    rw [si, Res.bind_ok]
    simp only [mns_nil]
    rw [comp, Res.bind_ok]
    have fm : (L.map fun p => (PyData.tuple [.int (p.1.1 : Int), .int (p.1.2 : Int)])).filterMap (fun z => match z with
        | .tuple [.int i, .int j] => some (PyData.int (if k = 8 then i else j))
        | _ => none) = (L.map fun p => f p.1).map .int := by
      rw [List.filterMap_map, List.map_map, ← List.filterMap_eq_map]
      congr 1
      funext p
      simp [hf]
    rw [fm]
    exact fin_trees (by simp; omega)
  have k1 := cpk b_l_right_v14_c2 8 (fun p => (p.1 : Int)) (fun i j S => by rw [hτ]; rfl) (fun p => rfl)
  have k2 := cpk b_l_right_v14_c3 9 (fun p => (p.2 : Int)) (fun i j S => by rw [hτ]; rfl) (fun p => rfl)
  obtain ⟨KI, hKI⟩ : ∃ KI : List Int, KI = L.map fun p => (p.1.1 : Int) := ⟨_, rfl⟩
  obtain ⟨KJ, hKJ⟩ : ∃ KJ : List Int, KJ = L.map fun p => (p.1.2 : Int) := ⟨_, rfl⟩
  obtain ⟨VW, hVW⟩ : ∃ VW : List Int, VW = L.map fun p => p.2 := ⟨_, rfl⟩
  rw [← hKI] at k1
  rw [← hKJ] at k2
  have li : KI.length ≤ 20 := by rw [hKI]; simpa using Ll
  have lj : KJ.length ≤ 20 := by rw [hKJ]; simpa using Ll
  have lw : VW.length ≤ 20 := by rw [hVW]; simpa using Ll
  have dv : dctT S2 (.cell c) = some (L.map entW) := by simp [dctT, own2]
  have vv : (L.map entW).map (·.2) = ofD (VW.map .int) := by rw [hVW]; simp [ofD, entW]
  have lv : (mn M0 st.length (.lval false (.var 5))).val τ S2 = .ok (.d (.list (VW.map .int))) S2 := by
    rw [v_lval]
    simp only [v_var, varU, v5, Res.bind_ok, dv, Option.map_some, vv, Res.opt_some]
    exact fin_trees (by simp; omega)
  have a1 := bin_add_ll S2 (KI.map PyData.int) (KJ.map PyData.int)
  rw [if_pos (by simp; omega), ofD_app, ← List.map_append] at a1
  have f1 : fin false S2 (.lst (ofD ((KI ++ KJ).map PyData.int))) = .ok (.d (.list ((KI ++ KJ).map .int))) S2 := fin_trees (by simp; omega)
  have a2 := bin_add_ll S2 ((KI ++ KJ).map PyData.int) (VW.map PyData.int)
  rw [if_pos (by simp; omega), ofD_app, ← List.map_append] at a2
  have f2 : fin false S2 (.lst (ofD ((KI ++ KJ ++ VW).map PyData.int))) = .ok (.d (.list ((KI ++ KJ ++ VW).map .int))) S2 := fin_trees (by simp; omega)
  have nu : ndU (.d (.list ((KI ++ KJ ++ VW).map .int))) = true := ndDs_ints _
  have q5 : ex M0 st.length (.set (.v 6) (.lku 5 (.bop .Add false (.bop .Add false (.cp false [8, 9] b_l_right_v14_c2 (.t [(.v 8), (.v 9)]) (.val (.var 5)) .nil) (.cp false [8, 9] b_l_right_v14_c3 (.t [(.v 8), (.v 9)]) (.val (.var 5)) .nil)) (.lval false (.var 5))))) τ S1 =
      .nx (τ.set 6 (some (.d (.list ((KI ++ KJ ++ VW).map .int))))) S1 := by
    rw [x_set, v_lku, lk]
    simp only [Res.opt_some]
    rw [← hS2]
    simp only [v_bop, k1, k2, lv, Res.bind_ok, a1, f1, a2, f2, Res.opt_some]
    simp only [Res.nox, Res.bind_ok, nu, if_true, ul, Res.opt_some, of_ok, setT_v, optF_some]
  obtain ⟨ks, hks⟩ : ∃ ks : List Int, ks = KI ++ KJ ++ VW := ⟨_, rfl⟩
  rw [← hks] at q5
  have lks : ks.length ≤ 60 := by rw [hks]; simp; omega
  have comp := compL_pure (us := ks.map .int) (st := S1) (step := fun u st3 => Res.opt (setT (.v 7) u (wipeV (τ.set 6 (some (.d (.list (ks.map .int))))) [7])) fun τ1 => (evA (mns M0 st.length b_l_right_v14_i1) τ1 st3).bind fun b st4 =>
      if b then ((mn M0 st.length b_l_right_v14_c1).val τ1 st4).bind fun x st5 => .ok (some x) st5 else .ok none st4) (fun _ => none) (fun z hz => by
      obtain ⟨k, _, rfl⟩ := List.mem_map.mp hz
      rw [hτ]
      simp [b_l_right_v14_i1, b_l_right_v14_c1, tyIs, wipeV]) (by simp; omega)
  have cp : (mn M0 st.length (.cp false [7] b_l_right_v14_c1 (.v 7) (.val (.var 6)) b_l_right_v14_i1)).val (τ.set 6 (some (.d (.list (ks.map .int))))) S1 = .ok (.d (.list [])) S1 := by
    rw [v_cp]
    unfold compU
    have si : mi M0 st.length (.val (.var 6)) (τ.set 6 (some (.d (.list (ks.map .int))))) S1 = .ok ⟨[], ofD (ks.map .int)⟩ S1 := by
      rw [hτ]
      simp only [i_val, v_var]
      rfl
    rw [si, Res.bind_ok]
    dsimp only
    rw [comp, Res.bind_ok, show (ks.map PyData.int).filterMap (fun _ => none) = ([] : List PyData) from by rw [List.filterMap_eq_nil_iff]; intros; rfl]
    rfl
  -- cleared
  obtain ⟨S3, hS3⟩ : ∃ S3 : Store, S3 = S1.set c (.dct true []) := ⟨_, rfl⟩
  have nd3 : ndS S3 = true := by rw [hS3]; exact nd_set nd1 rfl c
  have s3 : S3 = st ++ (gs ++ [.dct true []]) := by
    rw [hS3, hS1, hc, List.set_append_right _ _ (Nat.le_refl _)]
    simp
  have da : dctAt S1 (.cell c) = some (c, true, L.map entW) := by simp [dctAt, own]
  have my : mty .clear S1 (.cell c) = some () := by simp [mty, dctAtN, own]
  have me : meth st.length .clear S1 (.cell c) [] = some (.u (.d .none), S3) := by
    show (dctAt S1 (.cell c)).map _ = _
    rw [da, hS3]; rfl
  refine ⟨some (.d (.int t.worth)), some (.cell c), some (.d (.list (ks.map .int))), gs ++ [.dct true []], ?_, s3 ▸ nd3⟩
  rw [← s3]
  unfold b_l_right_v14_b1
  refine seq_step (τ1 := [some (.d t.d), t1, some (.d (.dict (kvT (t.wp 0)))), some (.d (.int t.worth)), some (.d (.int t.worth)), t5, t6, none, none, none]) (st1 := st ++ gs) (by
    simp only [x_set, v_call, mns_cons, mns_nil, evs_cons, evs_nil, v_var, varU_s, varU_0, Res.bind_ok, e1, i1, of_ok, setT_v, optF_some]
    rfl) ?_
  refine seq_step (τ1 := τ) (st1 := S1) (by
    rw [hτ]
    simp only [x_set, v_call, mns_cons, mns_nil, evs_cons, evs_nil, v_var, varU_s, varU_0, Res.bind_ok, e2, i2, of_ok, setT_v, optF_some]
    rfl) ?_
  refine seq_step (τ1 := τ) (st1 := S1) (by
    rw [hτ, x_ife]
    simp only [t_bl, mns_cons, mns_nil, evTs_or, evTs_one, t_nt, t_pr, v_pr, evs_cons, evs_nil, v_var, varU_s, varU_0, Res.bind_ok, q_isT, isTy_d, tyIs, Option.map_some, Res.opt_some, fin_u, tr, Bool.not_true, if_true, t_cmp, mcs_cons, mcs_nil, evC_one, cn, of_ok, Bool.false_eq_true, if_false, xs_nil]) ?_
  refine seq_step (τ1 := τ) (st1 := S1) (by
    rw [hτ, x_ife]
    simp only [t_bl, mns_cons, mns_nil, evTs_or, evTs_one, t_nt, t_pr, v_pr, evs_cons, evs_nil, v_var, varU_s, varU_0, Res.bind_ok, q_isT, ty, Option.map_some, Res.opt_some, fin_u, tr, Bool.not_true, if_true, t_deq, eq, of_ok, Bool.false_eq_true, if_false, xs_nil]) ?_
  refine seq_step q5 ?_
  refine seq_step (τ1 := τ.set 6 (some (.d (.list (ks.map .int))))) (st1 := S1) (by
    rw [x_ife]
    simp only [t_cmp, cp, Res.bind_ok, mcs_cons, mcs_nil, evC_one, v_lst, mns_nil, evs_nil, fin_nil, cmp_ne_nil, Res.opt_some, of_ok, Bool.false_eq_true, if_false, xs_nil]) ?_
  refine seq_step ?_ rfl
  rw [hτ]
  simp only [x_expr, v_me, mns_nil, evs_nil, v_var]
  show FRes.of _ (Res.bind (.ok (U.cell c) S1) _) _ = _
  simp only [Res.bind_ok, my, me, Res.opt_some, fin_u, of_ok]
  rfl
end K
namespace K
open PySem Z
theorem hS : HS (tbl tab) := ⟨⟨⟨rfl, rfl, rfl⟩, rfl, rfl⟩, rfl, rfl⟩
theorem g_wright {N : Nat} (hN : 90 ≤ N) {B : Nat} {t : Tr} (wy : Wy (B + 1) t) {st : Store} (nd : ndS st = true) : R N 222 [.d t.d] st = .ok (.d (.bool true)) st := by
  obtain ⟨M, rfl, hM⟩ := suc (N := N) (m := 89) (by omega)
  unfold R
  rw [run_at h222 rfl]
  obtain ⟨M0, hM0⟩ : ∃ M0 : Mach, M0 = ⟨con, run (tbl tab) con fuel M, fuel⟩ := ⟨_, rfl⟩
  have hcall : ∀ f us st, M0.call f us st = run (tbl tab) con fuel M f us st := by rw [hM0]; intros; rfl
  rw [← hM0]
  have e0 := g_wdue (con := con) (fuel := fuel) h20 h221 wy (N := M) (by omega) (by decide) st
  rw [← hcall] at e0
  have i0 : (Res.ok (U.d (.list [.dict (kvT (t.wp 0)), .int t.worth])) st).inner st.length st = .ok (U.d (.list [.dict (kvT (t.wp 0)), .int t.worth])) st := inner_same _ _ _
  have un : unlT st (.d (.list [.dict (kvT (t.wp 0)), .int t.worth])) [.v 2, .v 3] [some (.d t.d), none, none, none, none, none, none, none, none, none] = some [some (.d t.d), none, some (.d (.dict (kvT (t.wp 0)))), some (.d (.int t.worth)), none, none, none, none, none, none] := rfl
  have lp : ∃ (t1 t4 t5 t6 : Option U) (gs : Store), forL ⟨[], rangeOf 0 2⟩ (fun u τ1 st2 => FRes.opt (setT (.v 1) u τ1) fun τ2 => exs M0 st.length b_l_right_v14_b1 τ2 st2) (rangeOf 0 2) [some (.d t.d), none, some (.d (.dict (kvT (t.wp 0)))), some (.d (.int t.worth)), none, none, none, none, none, none] st =
      .nx [some (.d t.d), t1, some (.d (.dict (kvT (t.wp 0)))), some (.d (.int t.worth)), t4, t5, t6, none, none, none] (st ++ gs) := by
    obtain ⟨τ', s', e, t1, t4, t5, t6, gs, rfl, rfl, _⟩ := forL_go (src := ⟨[], rangeOf 0 2⟩) (step := fun u τ1 st2 => FRes.opt (setT (.v 1) u τ1) fun τ2 => exs M0 st.length b_l_right_v14_b1 τ2 st2) (τ := [some (.d t.d), none, some (.d (.dict (kvT (t.wp 0)))), some (.d (.int t.worth)), none, none, none, none, none, none]) (st := st)
      (fun _ τ st2 => ∃ (t1 t4 t5 t6 : Option U) (gs : Store), τ = [some (.d t.d), t1, some (.d (.dict (kvT (t.wp 0)))), some (.d (.int t.worth)), t4, t5, t6, none, none, none] ∧ st2 = st ++ gs ∧ ndS (st ++ gs) = true)
      (fun _ _ _ _ => keep_nil) ⟨none, none, none, none, [], rfl, by simp, by simpa using nd⟩
      (fun _ u τ st2 hu ⟨t1, t4, t5, t6, gs, hτ, hst, hn⟩ => by
        subst hτ hst
        have e1 := g_worth_of (con := con) (fuel := fuel) hWo wy (N := M) (by omega) (st ++ gs)
        have e2 := g_part_worths (con := con) (fuel := fuel) hWo h66 h67 wy (N := M) (by omega) (st ++ gs)
        rw [pws_all] at e2
        rw [← hcall] at e1 e2
        obtain ⟨u4, u5, u6, gs', et, hn'⟩ := turn wy hn e1 e2 (some u) t4 t5 t6
        exact ⟨_, _, et, some u, u4, u5, u6, gs', rfl, rfl, hn'⟩)
    exact ⟨t1, t4, t5, t6, gs, e⟩
  obtain ⟨t1, t4, t5, t6, gs, lp⟩ := lp
  have body : exs M0 st.length b_l_right_v14 [some (.d t.d), none, none, none, none, none, none, none, none, none] st = .rt (.d (.bool true)) (st ++ gs) := by
    unfold b_l_right_v14
    refine seq_step (τ1 := [some (.d t.d), none, some (.d (.dict (kvT (t.wp 0)))), some (.d (.int t.worth)), none, none, none, none, none, none]) (st1 := st) (by
      simp only [x_setl, v_call, mns_cons, mns_nil, evs_cons, evs_nil, v_var, varU_s, varU_0, Res.bind_ok, e0, i0, of_ok, un, optF_some]) ?_
    refine seq_step (τ1 := [some (.d t.d), t1, some (.d (.dict (kvT (t.wp 0)))), some (.d (.int t.worth)), t4, t5, t6, none, none, none]) (st1 := st ++ gs) (by
      rw [x_for]
      have sr : srcRng 1 [.d (.int 2)] = some ⟨[], rangeOf 0 2⟩ := by rw [rng_1 (by decide) (by decide)]; rfl
      simp only [i_rng, mns_cons, mns_nil, evs_cons, evs_nil, v_lit, Res.bind_ok, List.length_cons, List.length_nil, Nat.zero_add, sr, Res.opt_some, of_ok]
      exact lp) ?_
    exact seq_ret rfl
  show leave st.length (exs M0 st.length b_l_right_v14 [some (.d t.d), none, none, none, none, none, none, none, none, none] st) = _
  rw [body]
  exact leave_d _
theorem turn3 {M : Mach} (hM : M.call = R 199) {w k : Nat} {st : Store} (hw : Well st w k) (hk : k < 2 ^ 40) (nd : ndS st = true) (t0 t1 t3 : Option U) :
    ∃ st' : Store, exs M 0 b_law_v28_b2 [t0, t1, some (.cell w), t3] st = .nx [t0, t1, some (.cell w), t3] st' ∧ Z.Step w (k + 600) st st' := by
  obtain ⟨r2, s2, e2, a2, b2, g2⟩ := f_draw (con := con) (fuel := fuel) (n := 197) hS.toHW (m := 9) hw (by omega) (by decide) (by decide)
  obtain ⟨xs, s3, e3, l3, x3, g3⟩ := f_row (con := con) (fuel := fuel) (n := 195) hS.toHN (m := 1 + r2) g2.well (by omega) (by omega) (by omega)
  obtain ⟨sg, s4, e4, hsg, g4⟩ := f_signs (con := con) (fuel := fuel) (n := 196) hS g3.well (by omega)
  obtain ⟨x, s5, e5, wt5, g5⟩ := f_way (con := con) (fuel := fuel) hS hsg (r2.toNat) (196 - r2.toNat) (xs := xs) (by omega) g4.well (by omega) (by omega)
  rw [show 196 - r2.toNat + r2.toNat + 3 = 199 by omega] at e5
  obtain ⟨t, rfl, ht, _⟩ := wt5.tr hsg
  have tn : t.n = xs.length := by rw [← ht, Tr.nums_len]
  have wy : Wy (129 + 1) t := ⟨(Tr.of_nums (B := 40) (by rw [ht]; exact x3)).mono (by decide), by omega, by decide⟩
  have q2 := fun (b : Nat) => g2.inner (base := b) (U.d (.int r2))
  have q3 := fun (b : Nat) => g3.inner (base := b) (U.d (.list (xs.map .int)))
  have q4 := fun (b : Nat) => g4.inner (base := b) (U.d (.str sg))
  have q5 := fun (b : Nat) => g5.inner (base := b) (U.d t.d)
  have e6 := g_wright (N := 199) (by decide) wy (nd_Step g5 (nd_Step g4 (nd_Step g3 (nd_Step g2 nd))))
  unfold R at hM e6
  refine ⟨s5, ?_, (((g2.trans g3).trans g4).trans g5).mono (by omega)⟩
  simp [b_law_v28_b2, hM, e2, e3, e4, e5, e6, q2, q3, q4, q5]
theorem law_turn {M : Mach} (hM : M.call = R 199) (cell : Int) (t0 t2 t3 : Option U) (st : Store) (nd : ndS st = true) : ∃ τ' st', exs M 0 b_law_v28_b1 [t0, some (.d (.int cell)), t2, t3] st = .nx τ' st' ∧ τ'.length = 4 ∧ ndS st' = true := by
  obtain ⟨a, e1⟩ := f_well (T := tbl tab) (con := con) (fuel := fuel) (n := 198) hS.toHW cell st
  obtain ⟨w, hw⟩ : ∃ w, w = st.length := ⟨_, rfl⟩
  have w1 : Well (st ++ [.lst [.d (.int a), .d (.int cell), .d (.int 0)]]) w 0 := by rw [hw]; exact well_new
  obtain ⟨s1, hs1⟩ : ∃ s1, s1 = st ++ [.lst [.d (.int a), .d (.int cell), .d (.int 0)]] := ⟨_, rfl⟩
  have nd1 : ndS s1 = true := by rw [hs1]; exact nd_app nd rfl
  rw [← hw, ← hs1] at e1
  rw [← hs1] at w1
  have key := forL_run (src := ⟨[], rangeOf 0 3⟩) (step := fun u τ1 st2 => FRes.opt (setT (.v 3) u τ1) fun τ2 => exs M 0 b_law_v28_b2 τ2 st2) (τ := [t0, some (.d (.int cell)), some (.cell w), t3]) (st := s1)
    (fun i τ st2 => ∃ (o3 : Option U), τ = [t0, some (.d (.int cell)), some (.cell w), o3] ∧ Z.Step w (0 + 600 * i) s1 st2) (fun _ _ => False) (fun _ _ _ _ => keep_nil) (fun i u τ st2 hu ⟨o3, hτ, g⟩ => by
      subst hτ
      obtain ⟨hi, rfl⟩ := rangeOf_get hu
      obtain ⟨s2, e, g2⟩ := turn3 hM g.well (by omega) (nd_Step g nd1) t0 (some (.d (.int cell))) (some (.d (.int (0 + (i : Int)))))
      exact .inl ⟨_, s2, .inl (by simpa using e), _, rfl, (g.trans g2).mono (by omega)⟩) ⟨_, rfl, Z.Step.refl w1⟩
  rcases key with ⟨τ', s2, e, o3, rfl, g⟩ | ⟨_, _, _, h⟩
  · have r3 : srcRng 1 [.d (.int 3)] = some ⟨[], rangeOf 0 3⟩ := rng_1 (by decide) (by decide)
    refine ⟨[t0, some (.d (.int cell)), some (.cell w), o3], s2, ?_, rfl, nd_Step g nd1⟩
    simp only [setT_v, optF_some] at e
    unfold R at hM
    simp [b_law_v28_b1, hM, e1, r3]
    exact congrArg (fun r => FRes.seq r fun τ1 st1 => .nx τ1 st1) e
  · exact h.elim
theorem ok_lf {B : Nat} {a : Int} (h : a.natAbs < 2 ^ B) : (Tr.lf a).Ok B := h
def W8 : Tr := .nd .m (.lf 2) (.nd .t (.lf 3) (.nd .p (.lf 4) (.lf (-5))))
theorem law_holds : ∀ ns : List Int, ns.length ≤ 63 → (∀ z ∈ ns, Builtin.Int.intBits z ≤ 1048576) → ∃ st, run (tbl tab) con fuel depth 223 [.d (.list (ns.map .int))] [] = .ok (.d (.bool true)) st := by
  intro ns hns _
  rw [show depth = 199 + 1 from rfl, run_at h223 rfl]
  obtain ⟨M, hM⟩ : ∃ M : Mach, M = ⟨con, run (tbl tab) con fuel 199, fuel⟩ := ⟨_, rfl⟩
  have hMc' : M.call = R 199 := by rw [hM]
  rw [← hM]
  obtain ⟨cs, hcs⟩ : ∃ cs : List Int, cs = 0 :: ns.take 20 := ⟨_, rfl⟩
  have cl : cs.length ≤ 21 := by rw [hcs]; simp; omega
  obtain ⟨τ', s1, e1, hτ, hn⟩ := forL_go (src := ⟨[], ofD (cs.map .int)⟩) (step := fun u τ1 st2 => FRes.opt (setT (.v 1) u τ1) fun τ2 => exs M 0 b_law_v28_b1 τ2 st2) (τ := [some (.d (.list (ns.map .int))), none, none, none]) (st := ([] : Store))
    (fun i τ st => τ.length = 4 ∧ ndS st = true) (fun _ _ _ _ => keep_nil) ⟨rfl, rfl⟩ (fun i u τ st hu ⟨hτ, hn⟩ => by
      obtain ⟨x, hx, rfl⟩ := get_ofD hu
      rw [List.getElem?_map, Option.map_eq_some_iff] at hx
      obtain ⟨cell, _, rfl⟩ := hx
      obtain ⟨t0, t1, t2, t3, rfl⟩ : ∃ t0 t1 t2 t3, τ = [t0, t1, t2, t3] := by
        match τ, hτ with
        | [t0, t1, t2, t3], _ => exact ⟨t0, t1, t2, t3, rfl⟩
      obtain ⟨τ', st', e, l, n⟩ := law_turn hMc' cell t0 t2 t3 st hn
      exact ⟨τ', st', e, l, n⟩)
  have f1 : ∀ (S : Store) (a : Int), fin false S (.lst [.d (.int a)]) = .ok (.d (.list [.int a])) S := fun _ _ => rfl
  have sl : sliceOf [] (.d (.list (ns.map .int))) none (some 20) = some (.lst (ofD ((ns.map .int).take 20))) := slice_top (by decide)
  have sl2 : fin false [] (.lst (ofD ((ns.map PyData.int).take 20))) = .ok (.d (.list ((ns.map .int).take 20))) [] := fin_trees (by simp; omega)
  have al := bin_add_ll [] [PyData.int 0] ((ns.map PyData.int).take 20)
  rw [if_pos (by simp; omega)] at al
  have al2 : ofD [PyData.int 0] ++ ofD ((ns.map PyData.int).take 20) = ofD (cs.map .int) := by rw [hcs]; simp [ofD]
  rw [al2] at al
  have fa : fin false [] (.lst (ofD (cs.map PyData.int))) = .ok (.d (.list (cs.map .int))) [] := fin_trees (by simp; omega)
  have sv : ∀ (st : Store) (xs : List PyData), srcVal st (.d (.list xs)) = some ⟨[], ofD xs⟩ := fun _ _ => rfl
  -- the fixed ones
  have w8 : Wy (129 + 1) W8 := ⟨⟨ok_lf (by decide), ok_lf (by decide), ok_lf (by decide), ok_lf (by decide)⟩, by decide, by decide⟩
  have w7 : Wy (129 + 1) (.lf 7) := ⟨ok_lf (by decide), by decide, by decide⟩
  have ea := g_worth_of (con := con) (fuel := fuel) hWo w8 (N := 199) (by decide) s1
  have eb := g_part_worths (con := con) (fuel := fuel) hWo h66 h67 w7 (N := 199) (by decide) s1
  rw [pws_all] at eb
  have wv : W8.worth = 5 := by decide
  rw [wv] at ea
  have x8 : W8.d = .tuple [.str "-", .int 2, .tuple [.str "*", .int 3, .tuple [.str "+", .int 4, .int (-5)]]] := by
    have a : Sn.s .m = "-" := by decide +kernel
    have b : Sn.s .t = "*" := by decide +kernel
    have c : Sn.s .p = "+" := by decide +kernel
    simp [W8, Tr.d, a, b, c]
  rw [x8] at ea
  obtain ⟨s2, hs2⟩ : ∃ s2 : Store, s2 = s1 ++ [.dct true (((Tr.lf 7).wl 0).map entW)] := ⟨_, rfl⟩
  rw [← hs2] at eb
  have own : s2[s1.length]? = some (.dct true (((Tr.lf 7).wl 0).map entW)) := by rw [hs2]; simp
  have eq := eq_pl (L' := (Tr.lf 7).wl 0) (List.Perm.refl _) (wl_nd _ _) (by simp [Tr.wl]) own
  have hMr : M.call = run (tbl tab) con fuel 199 := hMc'
  rw [← hMr] at ea eb
  have eb' : M.call 67 [.d (.int 7)] s1 = .ok (.cell s1.length) s2 := eb
  have eq' : eqDct s2 (.cell s1.length) (.d (.dict [(.tuple [.int 0, .int 0], .int 7)])) = some true := eq
  have dp : dispTOf [.d (.tuple [.int 0, .int 0]), .d (.int 7)] = some (.dct true [(.tuple [.int 0, .int 0], .d (.int 7))]) := by
    show chk ([(PyData.tuple [PyData.int 0, PyData.int 0], U.d (.int 7))] ≠ [] ∧ [(PyData.tuple [PyData.int 0, PyData.int 0], U.d (.int 7))].length ≤ 15 ∧ [(PyData.tuple [PyData.int 0, PyData.int 0], U.d (.int 7))].all (fun kv => (unT kv.1).isSome) = true) _ = _
    rw [chk_true _ ⟨by simp, by simp, rfl⟩]
    rfl
  have fd : ∀ S : Store, fin false S (.dct true [(.tuple [.int 0, .int 0], .d (.int 7))]) = .ok (.d (.dict [(.tuple [.int 0, .int 0], .int 7)])) S := fun _ => rfl
  have t2 : ∀ a b : PyData, tupOf [.d a, .d b] = some (.d (.tuple [a, b])) := fun _ _ => rfl
  have t3 : ∀ a b c : PyData, tupOf [.d a, .d b, .d c] = some (.d (.tuple [a, b, c])) := fun _ _ _ => rfl
  have ng : ∀ S : Store, negU (.d (.int 5)) S = .ok (.d (.int (-5))) S := fun _ => rfl
  have ce : cmpop .Eq s1 (.d (.int 5)) (.d (.int 5)) = some true := rfl
  have tr : ∀ (S : Store) (b : Bool), truth S (.d (.bool b)) = some b := fun _ _ => rfl
  have body : exs M 0 b_law_v28 [some (.d (.list (ns.map .int))), none, none, none] [] = .rt (.d (.bool true)) s2 := by
    unfold b_law_v28
    refine seq_step (τ1 := τ') (st1 := s1) (by
      rw [x_for]
      simp only [i_val, v_bop, v_lst, mns_cons, mns_nil, evs_cons, evs_nil, v_lit, Res.bind_ok, f1, v_slc, v_var, varU_0, isAbs_0, isAbs_2, evO_true, evO_false, sl, sl2, Res.opt_some, al, fa, sv, of_ok]
      exact e1) ?_
    refine seq_ret ?_
    simp only [x_ret, v_bl, mns_cons, mns_nil, evB_and, evB_one, v_cmp, v_deq, v_call, evs_cons, evs_nil, v_lit, v_tup, v_neg, Res.bind_ok, ng, t2, t3, Res.opt_some, ea, inner_zero, mcs_cons, mcs_nil, evC_one, ce, tr, if_true, eb', v_dispT, dp, fd, eq', Bool.false_eq_true, if_false, of_ok]
  refine ⟨s2.take 0, ?_⟩
  show leave 0 (exs M 0 b_law_v28 [some (.d (.list (ns.map .int))), none, none, none] []) = _
  rw [body]
  rfl
end K
open PySem PySem.W PyProof.Rows
set_option maxHeartbeats 0 in
theorem PySem.Challenge.cw_putsigns_k08_worths_of_ways_holds : PySem.Challenge.rw_putsigns_k08_worths_of_ways.Holds := by
  w_on; o_law; k_head; (case hw => w_witness2)
  k_fill
  refine Z.walk_zT (l := PySem.Challenge.rw_putsigns_k08_worths_of_ways) (n := 63) (k := K.depth) (G := K.glob) (T := K.tab) (con := K.con) (fuel := K.fuel) (f := 223) (D := K.d_law_v28) rfl (by decide +kernel) (by decide) rfl ⟨rfl, by decide, by decide⟩ (fun w h Y => PySem.W.kIn_of Y) rfl rfl rfl rfl (by decide +kernel) ?Mz K.law_holds
  case Mz =>
    intro w mg h KX G
    refine' K.mdl KX G ?zqa0 ?zql0 ?zqc0 ?zqk0 ?zqa1 ?zql1 ?zqc1 ?zqk1 ?zqa2 ?zql2 ?zqc2 ?zqk2 ?zqa3 ?zql3 ?zqc3 ?zqk3 ?zqa4 ?zql4 ?zqc4 ?zqk4 ?zqa5 ?zql5 ?zqc5 ?zqk5 ?zqa6 ?zql6 ?zqc6 ?zqk6 ?zqa7 ?zql7 ?zqc7 ?zqk7 ?zqa8 ?zql8 ?zqc8 ?zqk8 ?zqa9 ?zql9 ?zqc9 ?zqk9 ?zqa10 ?zql10 ?zqc10 ?zqk10 ?zqa11 ?zql11 ?zqc11 ?zqk11 ?zqa12 ?zql12 ?zqc12 ?zqk12 ?zqa13 ?zql13 ?zqc13 ?zqk13 ?zqa14 ?zql14 ?zqc14 ?zqk14 ?zqa15 ?zql15 ?zqc15 ?zqk15 ?zqa16 ?zql16 ?zqc16 ?zqk16 ?zqa17 ?zql17 ?zqc17 ?zqk17 ?zqa18 ?zql18 ?zqc18 ?zqk18 ?zqa19 ?zql19 ?zqc19 ?zqk19 ?zqa20 ?zql20 ?zqc20 ?zqk20 ?zqz0 ?zqz1 ?zqz2 ?zqz3 ?zqz4 ?zqz5 ?zqz6 ?zqz7 ?zqz8 ?zqg0 ?zqg1 ?zqcg3 ?zqxt3 ?zqed3 ?zqxq3 ?zqxk3 ?zqxb3 ?zqxv3 ?zqea3 ?zqeb3 ?zqee3 ?zqef3 ?zqeg3 ?zqeh3 ?zqkp3_3
    (case zqa0 => k_is); (case zql0 => k_is); (case zqc0 => k_is); (case zqk0 => k_is); (case zqa1 => k_is); (case zql1 => k_is); (case zqc1 => k_is); (case zqk1 => k_is); (case zqa2 => k_is); (case zql2 => k_is); (case zqc2 => k_is); (case zqk2 => k_is); (case zqa3 => k_is); (case zql3 => k_is); (case zqc3 => k_is); (case zqk3 => k_is); (case zqa4 => k_is); (case zql4 => k_is); (case zqc4 => k_is); (case zqk4 => k_is); (case zqa5 => k_is); (case zql5 => k_is); (case zqc5 => k_is); (case zqk5 => k_is); (case zqa6 => k_is); (case zql6 => k_is); (case zqc6 => k_is); (case zqk6 => k_is); (case zqa7 => k_is); (case zql7 => k_is); (case zqc7 => k_is); (case zqk7 => k_is); (case zqa8 => k_is); (case zql8 => k_is); (case zqc8 => k_is); (case zqk8 => k_is); (case zqa9 => k_is); (case zql9 => k_is); (case zqc9 => k_is); (case zqk9 => k_is); (case zqa10 => k_is); (case zql10 => k_is); (case zqc10 => k_is); (case zqk10 => k_is); (case zqa11 => k_is); (case zql11 => k_is); (case zqc11 => k_is); (case zqk11 => k_is); (case zqa12 => k_is); (case zql12 => k_is); (case zqc12 => k_is); (case zqk12 => k_is); (case zqa13 => k_is); (case zql13 => k_is); (case zqc13 => k_is); (case zqk13 => k_is); (case zqa14 => k_is); (case zql14 => k_is); (case zqc14 => k_is); (case zqk14 => k_is); (case zqa15 => k_is); (case zql15 => k_is); (case zqc15 => k_is); (case zqk15 => k_is); (case zqa16 => k_is); (case zql16 => k_is); (case zqc16 => k_is); (case zqk16 => k_is); (case zqa17 => k_is); (case zql17 => k_is); (case zqc17 => k_is); (case zqk17 => k_is); (case zqa18 => k_is); (case zql18 => k_is); (case zqc18 => k_is); (case zqk18 => k_is); (case zqa19 => k_is); (case zql19 => k_is); (case zqc19 => k_is); (case zqk19 => k_is); (case zqa20 => k_is); (case zql20 => k_is); (case zqc20 => k_is); (case zqk20 => k_is); (case zqz0 => k_is); (case zqz1 => k_is); (case zqz2 => k_is); (case zqz3 => k_is); (case zqz4 => k_is); (case zqz5 => k_is); (case zqz6 => k_is); (case zqz7 => k_is); (case zqz8 => k_is); (case zqg0 => k_is); (case zqg1 => k_is); (case zqcg3 => k_is); (case zqxt3 => k_is); (case zqed3 => k_is); (case zqxq3 => k_exc); (case zqxk3 => k_is); (case zqxb3 => k_is); (case zqxv3 => k_is); (case zqea3 => k_is); (case zqeb3 => k_is); (case zqee3 => k_is); (case zqef3 => k_is); (case zqeg3 => k_is); (case zqeh3 => k_is); (case zqkp3_3 => k_is)
